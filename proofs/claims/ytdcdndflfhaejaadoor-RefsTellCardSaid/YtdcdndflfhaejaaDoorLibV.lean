/- Lists that are owned, written in place, and grow; lists with their room as parts of variables. No condition: general lemmas. -/
import Derived.Test.YtdcdndflfhaejaaDoorLibS
import Derived.Test.YtdcdndflfhaejaaDoorLib15
namespace Go.Sy

/-- A list and where more may be laid behind it, as a part of a variable. -/
structure TList (α : Type) where
  t : Tok
  l : List α
theorem slice_cell {p : Option Addr} {n cap : Nat} : (Value.slice p n cap).oneCell' = true := rfl
instance {α : Type} [Rep α] : Rep (TList α) where
  n := 1
  agg := false
  rd := fun S cs x => ∃ v, cs = [v] ∧ (appv x.t x.l).p S v
  len := fun ⟨v, e, _⟩ => by rw [e]; rfl
  mono := fun h ⟨v, e, k⟩ => ⟨v, e, (appv _ _).mono h k⟩
  cell := fun ⟨v, e, k⟩ u hu => by
    rw [e] at hu; simp at hu; subst hu
    obtain ⟨⟨p, cap, e1, _⟩, _⟩ := k
    rw [e1]; rfl
  one := fun _ => rfl
theorem isvT {α : Type} [Rep α] {t : Tok} {l : List α} {S : Frz} {v : Value} : (isv (TList.mk t l)).p S v ↔ (appv t l).p S v := by
  constructor
  · intro h
    obtain ⟨u, e, h⟩ := (isv_plain h rfl).2
    simp at e; subst e; exact h
  · intro h
    exact isv_of_plain rfl ⟨v, rfl, h⟩
theorem isvT1 {α : Type} [Rep α] {t : Tok} {l : List α} (S : Frz) (v : Value) (h : (isv (TList.mk t l)).p S v) : (appv t l).p S v := isvT.1 h
theorem isvT2 {α : Type} [Rep α] {t : Tok} {l : List α} (S : Frz) (v : Value) (h : (appv t l).p S v) : (isv (TList.mk t l)).p S v := isvT.2 h
theorem isvTl {α : Type} [Rep α] {t : Tok} {l : List α} (S : Frz) (v : Value) (h : (isv (TList.mk t l)).p S v) : (isv l).p S v := appv_isv S v (isvT.1 h)
theorem nilvT {α : Type} [Rep α] (S : Frz) (v : Value) (h : nilv.p S v) : (isv (TList.mk none ([] : List α))).p S v := isvT.2 (nilv_appv S v h)

/-- An owned list's block and room. -/
abbrev Vt := Option (Nat × Nat)
def vecv (t : Vt) (n : Nat) : VP where
  p := fun _ v => n ≤ maxList ∧ match t with
    | none => v = .slice none 0 0 ∧ n = 0
    | some (b, cap) => v = .slice (some ⟨b, 0, none⟩) n cap
  mono := fun _ h => h
/-- The head of an owned list, as a part of a variable. -/
structure Vh where
  t : Vt
  n : Nat
instance : Rep Vh where
  n := 1
  agg := false
  rd := fun S cs x => ∃ v, cs = [v] ∧ (vecv x.t x.n).p S v
  len := fun ⟨v, e, _⟩ => by rw [e]; rfl
  mono := fun h ⟨v, e, k⟩ => ⟨v, e, (vecv _ _).mono h k⟩
  cell := fun {S cs x} ⟨v, e, k⟩ u hu => by
    rw [e] at hu; simp at hu; subst hu
    obtain ⟨_, k⟩ := k
    rcases x with ⟨t, n⟩
    cases t with
    | none => rw [k.1]; rfl
    | some t => simp only at k; rw [k]; rfl
  one := fun _ => rfl
theorem isvV {t : Vt} {n : Nat} {S : Frz} {v : Value} : (isv (Vh.mk t n)).p S v ↔ (vecv t n).p S v := by
  constructor
  · intro h
    obtain ⟨u, e, h⟩ := (isv_plain h rfl).2
    simp at e; subst e; exact h
  · intro h
    exact isv_of_plain rfl ⟨v, rfl, h⟩
theorem isvV1 {t : Vt} {n : Nat} (S : Frz) (v : Value) (h : (isv (Vh.mk t n)).p S v) : (vecv t n).p S v := isvV.1 h
theorem isvV2 {t : Vt} {n : Nat} (S : Frz) (v : Value) (h : (vecv t n).p S v) : (isv (Vh.mk t n)).p S v := isvV.2 h
theorem nilvV (S : Frz) (v : Value) (h : nilv.p S v) : (vecv none 0).p S v := ⟨Nat.zero_le _, h, rfl⟩
theorem nilvVh (S : Frz) (v : Value) (h : nilv.p S v) : (isv (Vh.mk none 0)).p S v := isvV.2 (nilvV S v h)
theorem vecvE {t : Vt} {n m : Nat} (e : n = m) (S : Frz) (v : Value) (h : (vecv t n).p S v) : (vecv t m).p S v := e ▸ h

def vecE {α : Type} [Rep α] (t : Vt) (l : List α) : Ent where
  k := t.map (·.1)
  φ := { p := fun b S o => match t with
           | none => True
           | some (_, cap) => S b = none ∧ ∃ cs T, o = .cells cs T (0, 0) ∧ cs.size = cap * Rep.n α ∧ l.length ≤ cap ∧ rdL (Rep.rd S) l (cs.toList.take (l.length * Rep.n α))
         mono := fun {S S' b o} h hb k => by
           cases t with
           | none => trivial
           | some t => obtain ⟨h1, cs, T, e, h2, h3, h4⟩ := k; exact ⟨hb ▸ h1, cs, T, e, h2, h3, rdL_mono (fun _ _ => Rep.mono h) h4⟩ }
/-- A place of an owned list, or a part of it. -/
def veltv {α β : Type} [Rep α] [Rep β] (t : Vt) (i : Nat) (L : Fld α β) : VP where
  p := fun _ v => ∃ b cap, t = some (b, cap) ∧ v = .pointer (some ⟨b, i * Rep.n α + L.off, none⟩)
  mono := fun _ h => h

theorem splice {α : Type} {A v : List α} {p q m n n1 : Nat} (hv : v.length = m) (h1 : q + m ≤ n) (h2 : p + n ≤ n1) (h3 : n1 ≤ A.length) :
    (A.take n1).take p ++ (((((A.take n1).drop p).take n).take q ++ v) ++ (((A.take n1).drop p).take n).drop (q + m)) ++ (A.take n1).drop (p + n) = (A.take (p + q) ++ v ++ A.drop (p + q + m)).take n1 := by
  obtain ⟨A1, B1, rfl, l1⟩ : ∃ A1 B1, A = A1 ++ B1 ∧ A1.length = p := ⟨A.take p, A.drop p, (List.take_append_drop ..).symm, by rw [List.length_take]; omega⟩
  rw [List.length_append] at h3
  obtain ⟨A2, B2, rfl, l2⟩ : ∃ A2 B2, B1 = A2 ++ B2 ∧ A2.length = q := ⟨B1.take q, B1.drop q, (List.take_append_drop ..).symm, by rw [List.length_take]; omega⟩
  rw [List.length_append] at h3
  obtain ⟨A3, B3, rfl, l3⟩ : ∃ A3 B3, B2 = A3 ++ B3 ∧ A3.length = m := ⟨B2.take m, B2.drop m, (List.take_append_drop ..).symm, by rw [List.length_take]; omega⟩
  rw [List.length_append] at h3
  obtain ⟨A4, B4, rfl, l4⟩ : ∃ A4 B4, B3 = A4 ++ B4 ∧ A4.length = n - q - m := ⟨B3.take (n - q - m), B3.drop (n - q - m), (List.take_append_drop ..).symm, by rw [List.length_take]; omega⟩
  rw [List.length_append] at h3
  obtain ⟨A5, B5, rfl, l5⟩ : ∃ A5 B5, B4 = A5 ++ B5 ∧ A5.length = n1 - p - n := ⟨B4.take (n1 - p - n), B4.drop (n1 - p - n), (List.take_append_drop ..).symm, by rw [List.length_take]; omega⟩
  have e1 : (A1 ++ (A2 ++ (A3 ++ (A4 ++ (A5 ++ B5))))).take n1 = A1 ++ (A2 ++ (A3 ++ (A4 ++ A5))) := by
    have : A1 ++ (A2 ++ (A3 ++ (A4 ++ (A5 ++ B5)))) = (A1 ++ (A2 ++ (A3 ++ (A4 ++ A5)))) ++ B5 := by simp only [List.append_assoc]
    rw [this]; exact List.take_left' (by simp only [List.length_append]; omega)
  have e2 : (A1 ++ (A2 ++ (A3 ++ (A4 ++ A5)))).take p = A1 := List.take_left' l1
  have e3 : (A1 ++ (A2 ++ (A3 ++ (A4 ++ A5)))).drop p = A2 ++ (A3 ++ (A4 ++ A5)) := List.drop_left' l1
  have e4 : (A2 ++ (A3 ++ (A4 ++ A5))).take n = A2 ++ (A3 ++ A4) := by
    have : A2 ++ (A3 ++ (A4 ++ A5)) = (A2 ++ (A3 ++ A4)) ++ A5 := by simp only [List.append_assoc]
    rw [this]; exact List.take_left' (by simp only [List.length_append]; omega)
  have e5 : (A2 ++ (A3 ++ A4)).take q = A2 := List.take_left' l2
  have e6 : (A2 ++ (A3 ++ A4)).drop (q + m) = A4 := by
    have : A2 ++ (A3 ++ A4) = (A2 ++ A3) ++ A4 := by simp only [List.append_assoc]
    rw [this]; exact List.drop_left' (by simp only [List.length_append]; omega)
  have e7 : (A1 ++ (A2 ++ (A3 ++ (A4 ++ A5)))).drop (p + n) = A5 := by
    have : A1 ++ (A2 ++ (A3 ++ (A4 ++ A5))) = (A1 ++ (A2 ++ (A3 ++ A4))) ++ A5 := by simp only [List.append_assoc]
    rw [this]; exact List.drop_left' (by simp only [List.length_append]; omega)
  have e8 : (A1 ++ (A2 ++ (A3 ++ (A4 ++ (A5 ++ B5))))).take (p + q) = A1 ++ A2 := by
    have : A1 ++ (A2 ++ (A3 ++ (A4 ++ (A5 ++ B5)))) = (A1 ++ A2) ++ (A3 ++ (A4 ++ (A5 ++ B5))) := by simp only [List.append_assoc]
    rw [this]; exact List.take_left' (by simp only [List.length_append]; omega)
  have e9 : (A1 ++ (A2 ++ (A3 ++ (A4 ++ (A5 ++ B5))))).drop (p + q + m) = A4 ++ (A5 ++ B5) := by
    have : A1 ++ (A2 ++ (A3 ++ (A4 ++ (A5 ++ B5)))) = (A1 ++ A2 ++ A3) ++ (A4 ++ (A5 ++ B5)) := by simp only [List.append_assoc]
    rw [this]; exact List.drop_left' (by simp only [List.length_append]; omega)
  have e10 : ((A1 ++ A2) ++ v ++ (A4 ++ (A5 ++ B5))).take n1 = (A1 ++ A2) ++ v ++ (A4 ++ A5) := by
    have : (A1 ++ A2) ++ v ++ (A4 ++ (A5 ++ B5)) = ((A1 ++ A2) ++ v ++ (A4 ++ A5)) ++ B5 := by simp only [List.append_assoc]
    rw [this]; exact List.take_left' (by simp only [List.length_append]; omega)
  rw [e1, e2, e3, e4, e5, e6, e7, e8, e9, e10]
  simp only [List.append_assoc]

theorem Models.ent {c : Ctx} {Γ : Slots} {H : List Ent} {S : Frz} {a : Act} {w : World} {e e' : Ent} (m : Models c ⟨Γ, e :: H⟩ S a w) (hk : e'.k = e.k) (hs : e.sat S w → e'.sat S w) : Models c ⟨Γ, e' :: H⟩ S a w := by
  have hkeys : keys (e' :: H) = keys (e :: H) := by simp only [keys, List.filterMap_cons, hk]
  refine ⟨m.size, m.dfr, m.sub, m.keep, m.grow, m.env, ⟨fun x hx => ?_, by rw [hkeys]; exact m.owns.nodup, fun b hb => m.owns.own b (by rw [← hkeys]; exact hb)⟩, fun x hx => by
    obtain ⟨h1, h2, h3, h4⟩ := m.pins x hx
    exact ⟨h1, h2, by rw [hkeys]; exact h3, h4⟩⟩
  rcases List.mem_cons.1 hx with rfl | hx
  · exact hs (m.owns.sat _ (List.mem_cons_self ..))
  · exact m.owns.sat x (List.mem_cons_of_mem _ hx)

section ops
variable {c : Ctx} {ty : TypeId} {pos : String} {af : Array Edge} {g : Option (Nat × Bool)} {σ : St} {d : Option Nat}

theorem v_vlen {x : Operand} {t : Vt} {n T m : Nat} {agg : Bool} (hT : SlB c.P T m agg = true) (hx : opnd σ.Γ x = some (vecv t n)) :
    OpV c ⟨d, .call ⟨.builtin .len, #[x], #[T]⟩, ty, pos, af, g⟩ σ (isv (n : Int)) := fun S a w m => by
  obtain ⟨hn, h1⟩ := opnd_sound m hx
  refine ⟨.int .i64 n, isv_int.2 ⟨rfl, by unfold inI64; unfold maxList at hn; omega⟩, fun w' _ => ?_⟩
  cases t with
  | none => obtain ⟨h1, rfl⟩ := h1; simp [execOp, resolve, invoke, builtin, h1, run_len hT]
  | some t => simp only at h1; simp [execOp, resolve, invoke, builtin, h1, run_len hT]

theorem v_vidx {α : Type} [Rep α] {x i : Operand} {t : Vt} {n : Nat} {k : Int} {T : Nat} (hT : SlB c.P T (Rep.n α) (Rep.agg α) = true) (hx : opnd σ.Γ x = some (vecv t n)) (hi : opnd σ.Γ i = some (isv k))
    (hk : 0 ≤ k) (hy : k < n) : OpV c ⟨d, .indexAddr T x i, ty, pos, af, g⟩ σ (veltv t k.toNat (Fld.id α)) := fun S a w m => by
  obtain ⟨hn, h1⟩ := opnd_sound m hx
  obtain ⟨h5, _⟩ := isv_int.1 (opnd_sound m hi)
  obtain ⟨e, hu, hte⟩ := SlB.spec hT
  cases t with
  | none => obtain ⟨_, rfl⟩ := h1; omega
  | some t =>
    obtain ⟨b, cap⟩ := t
    simp only at h1
    exact ⟨.pointer (some ⟨b, k.toNat * Rep.n α, none⟩), ⟨b, cap, rfl, rfl⟩, fun w' _ => by
      simp [execOp, h1, h5, Instr.indexAt, asIntOf, underlying, hu, hk, hy, TyB.size hte, add_none]⟩

theorem v_vfield {α β γ : Type} [Rep α] [Rep β] [Rep γ] {t : Vt} {i : Nat} {L : Fld α β} {x : Operand} {T f : Nat} (M : Fld β γ) (hf : FldB c.P T f M.off (Rep.n γ) (Rep.agg γ) = true)
    (hx : opnd σ.Γ x = some (veltv t i L)) : OpV c ⟨d, .fieldAddr T x f, ty, pos, af, g⟩ σ (veltv t i (L.comp M)) := fun S a w m => by
  obtain ⟨b, cap, ht, h1⟩ := opnd_sound m hx
  refine ⟨.pointer (some ⟨b, i * Rep.n α + L.off + M.off, none⟩), ⟨b, cap, ht, by simp only [Fld.comp, Nat.add_assoc]⟩, fun w' _ => by simp [execOp, h1, run_fieldAt hf, add_none]⟩

theorem v_vsl {x i : Operand} {t : Vt} {n : Nat} {k : Int} {T m : Nat} {agg : Bool} (hT : SlB c.P T m agg = true) (hx : opnd σ.Γ x = some (vecv t n)) (hi : opnd σ.Γ i = some (isv k)) (hk : 0 ≤ k) (hc : k ≤ n) (hcap : ∀ b cap, t = some (b, cap) → n ≤ cap) :
    OpV c ⟨d, .slice T x none (some i) none, ty, pos, af, g⟩ σ (vecv t k.toNat) := fun S a w mm => by
  obtain ⟨hn, h1⟩ := opnd_sound mm hx
  obtain ⟨h5, _⟩ := isv_int.1 (opnd_sound mm hi)
  obtain ⟨e, hu, hte⟩ := SlB.spec hT
  cases t with
  | none =>
    obtain ⟨h1, rfl⟩ := h1
    have hk0 : k = 0 := by omega
    subst hk0
    refine ⟨.slice none 0 0, ⟨Nat.zero_le _, rfl, rfl⟩, fun w' _ => ?_⟩
    simp [execOp, h1, h5, Instr.sliceAt, Instr.slice, Instr.sliceBounds, underlying, hu, TyB.size hte, Instr.sliceBound, asIntOf]
  | some t =>
    obtain ⟨b, cap⟩ := t
    simp only at h1
    have := hcap b cap rfl
    refine ⟨.slice (some ⟨b, 0, none⟩) k.toNat cap, ⟨by omega, rfl⟩, fun w' _ => ?_⟩
    have hc' : k ≤ cap := by omega
    simp [execOp, h1, h5, Instr.sliceAt, Instr.slice, Instr.sliceBounds, underlying, hu, TyB.size hte, sliceBound_ok hk hc']
    intro _; unfold Addr.add; simp

theorem t_vload {Γ : Slots} {H : List Ent} {α β : Type} [Rep α] [Rep β] {t : Vt} {i : Nat} {L : Fld α β} {l : List α} {y : α} {x : Operand} {T : TypeId} {dd : Nat} {K : St → Prop} {Hr : List Ent} (ht : TyB c.P T (Rep.n β) (Rep.agg β) = true) (hx : opnd Γ x = some (veltv t i L))
    (hp : Pick (vecE t l) H Hr) (hy : l[i]? = some y) (k : K ⟨(dd, isv (L.get y)) :: Γ, H⟩) (hd : Nat.blt dd c.n = true := by rfl) :
    OpT c ⟨some dd, .load T x, ty, pos, af, g⟩ ⟨Γ, H⟩ K := by
  intro S a w next Q m hn
  obtain ⟨b, cap, rfl, h1⟩ := opnd_sound m hx
  have hs : (vecE (some (b, cap)) l).sat S w := m.owns.get hp
  obtain ⟨o, ho, hnone, cs, T', e, hsz, hlc, hr⟩ := hs
  subst e
  have hg := L.rget (rdL_get (r := Rep.rd S) (fun _ _ h => Rep.len h) hr hy)
  obtain ⟨v, hv, hrun⟩ := run_loadVar (ad := ⟨b, i * Rep.n α + L.off, none⟩) ht hg
  unfold Oper.wp
  have : (execOp a.eval ⟨some dd, .load T x, ty, pos, af, g⟩).run c.P w = .ok (.value v) w := by
    simp only [execOp, h1, Instr.loadAt, Instr.sureAddr]
    have h2 := hrun w fun j u hj => by
      rw [add_none]
      unfold World.cell?
      rw [ho]
      simp only
      have hgo : ∀ (A : List Value) (p q n1 n2 n3 : Nat), ((((A.take n1).drop p).take n2).drop q |>.take n3)[j]? = some u → A[p + q + j]? = some u := by
        intro A p q n1 n2 n3 h
        rw [List.getElem?_take] at h
        split at h
        · rw [List.getElem?_drop, List.getElem?_take] at h
          split at h
          · rw [List.getElem?_drop, List.getElem?_take] at h
            split at h
            · rw [← h]; congr 1; omega
            · cases h
          · cases h
        · cases h
      have := hgo _ _ _ _ _ _ hj
      simpa using this
    simp [h2]
  rw [this]
  exact hn _ _ _ _ (Frz.le_refl _) k (m.put hd hv)

theorem t_vstore {Γ : Slots} {H : List Ent} {α β : Type} [Rep α] [Rep β] {t : Vt} {i : Nat} {L : Fld α β} {l : List α} {y : α} {z : β} {x u : Operand} {T : TypeId} {K : St → Prop} {Hr : List Ent} (ht : TyB c.P T (Rep.n β) (Rep.agg β) = true) (hx : opnd Γ x = some (veltv t i L))
    (hu : opnd Γ u = some (isv z)) (hp : Pick (vecE t l) H Hr) (hy : l[i]? = some y) (k : K ⟨Γ, vecE t (l.set i (L.set y z)) :: Hr⟩) :
    OpT c ⟨none, .store T x u, ty, pos, af, g⟩ ⟨Γ, H⟩ K := by
  intro S a w next Q m hn
  obtain ⟨b, cap, rfl, h1⟩ := opnd_sound m hx
  have h2 := opnd_sound m hu
  have hs : (vecE (some (b, cap)) l).sat S w := m.owns.get hp
  obtain ⟨o, ho, hnone, cs, T', e, hsz, hlc, hr⟩ := hs
  subst e
  have hi : i < l.length := (List.getElem?_eq_some_iff.1 hy).1
  have hlen : (a.eval u).cells.toList.length = Rep.n β := Rep.len h2.2
  have hfit := L.fits
  have hle : l.length * Rep.n α ≤ cap * Rep.n α := Nat.mul_le_mul_right _ hlc
  have hfit1 : i * Rep.n α + Rep.n α ≤ l.length * Rep.n α := by rw [← Nat.succ_mul]; exact Nat.mul_le_mul_right _ hi
  have hrun := run_storeCells_at (P := c.P) b (i * Rep.n α + L.off) T' (a.eval u).cells.toList 0 cs w ho (by simp at hlen ⊢; omega) (fun v hv => Rep.cell h2.2 v hv)
  unfold Oper.wp
  have : (execOp a.eval ⟨none, .store T x u, ty, pos, af, g⟩).run c.P w = .ok .skip (w.setRow b (cs.toList.take (i * Rep.n α + L.off + 0) ++ (a.eval u).cells.toList ++ cs.toList.drop (i * Rep.n α + L.off + 0 + (a.eval u).cells.toList.length)).toArray) := by
    have hsz : (a.eval u).cells.size = Rep.n β := by simpa using hlen
    simp only [execOp, h1, Instr.storeAt, Instr.sureAddr, storeVar, Sem.run_bind, Sem.run_pure, Result.andThen_ok, TyB.size ht, hsz, ne_eq, not_true, if_false, Sem.run_ite, hrun]
  rw [this]
  have hg := rdL_get (r := Rep.rd S) (fun _ _ h => Rep.len h) hr hy
  have hset := rdL_set (r := Rep.rd S) (fun _ _ h => Rep.len h) hr hi (L.rset hg h2.2)
  obtain ⟨hst, hh⟩ := step_setRow (cs := (cs.toList.take (i * Rep.n α + L.off + 0) ++ (a.eval u).cells.toList ++ cs.toList.drop (i * Rep.n α + L.off + 0 + (a.eval u).cells.toList.length)).toArray) m.sub hnone ho
  have m1 := m.step (Hc := [vecE (some (b, cap)) l]) (H' := [vecE (some (b, cap)) (l.set i (L.set y z))]) (Takes.cons hp .nil) hst
    (owns_one ⟨_, hh, hnone, _, _, rfl, by
      have hcl : cs.toList.length = cs.size := by simp
      simp only [List.size_toArray, List.length_append, List.length_take, List.length_drop, hlen, hcl]
      omega, by rw [List.length_set]; exact hlc, by
      rw [List.length_set]
      have hcl : cs.toList.length = cs.size := by simp
      have e := splice (A := cs.toList) (v := (a.eval u).cells.toList) (p := i * Rep.n α) (q := L.off) (m := Rep.n β) (n := Rep.n α) (n1 := l.length * Rep.n α) hlen hfit hfit1 (by omega)
      rw [e] at hset
      rw [hlen, Nat.add_zero]
      simpa using hset⟩ fun b' hb => by simp [vecE] at hb; subst hb; exact .inl (by simp [keys, vecE]))
  exact hn _ _ _ _ (Frz.le_refl _) k m1
end ops
end Go.Sy
