/- Facts of the tables. -/
import Derived.Test.YtdcdndflfhaejaaDoorFiA
import Derived.Laws.BytesString
import Derived.Lib.ConvBytes
import Derived.Lib.ValidU
import Derived.Test.YtdcdndflfhaejaaDoorProg
import Derived.Shelf.Unicode.ValidAny
import Derived.KernelRfl

namespace Go.Sy

/-- A list and where more may be laid behind it, as a part of a variable. -/
structure TList (α : Type) where
  t : Tok
  l : List α
theorem slice_cell {p : Option Addr} {n cap : Nat} : (Value.slice p n cap).oneCell' = true := rfl
instance {α : Type} [Rep α] : Rep (TList α) where
  n := 1
  agg := false
  rd := fun S cs x => ∃ v, cs = [v] ∧ (appv x.t x.l).p S v
  len := fun ⟨v, e, _⟩ => by rw [e]; rfl
  mono := fun h ⟨v, e, k⟩ => ⟨v, e, (appv _ _).mono h k⟩
  cell := fun ⟨v, e, k⟩ u hu => by
    rw [e] at hu; simp at hu; subst hu
    obtain ⟨⟨p, cap, e1, _⟩, _⟩ := k
    rw [e1]; rfl
  one := fun _ => rfl
theorem isvT {α : Type} [Rep α] {t : Tok} {l : List α} {S : Frz} {v : Value} : (isv (TList.mk t l)).p S v ↔ (appv t l).p S v := by
  constructor
  · intro h
    obtain ⟨u, e, h⟩ := (isv_plain h rfl).2
    simp at e; subst e; exact h
  · intro h
    exact isv_of_plain rfl ⟨v, rfl, h⟩
theorem isvT1 {α : Type} [Rep α] {t : Tok} {l : List α} (S : Frz) (v : Value) (h : (isv (TList.mk t l)).p S v) : (appv t l).p S v := isvT.1 h
theorem isvT2 {α : Type} [Rep α] {t : Tok} {l : List α} (S : Frz) (v : Value) (h : (appv t l).p S v) : (isv (TList.mk t l)).p S v := isvT.2 h
theorem isvTl {α : Type} [Rep α] {t : Tok} {l : List α} (S : Frz) (v : Value) (h : (isv (TList.mk t l)).p S v) : (isv l).p S v := appv_isv S v (isvT.1 h)
theorem nilvT {α : Type} [Rep α] (S : Frz) (v : Value) (h : nilv.p S v) : (isv (TList.mk none ([] : List α))).p S v := isvT.2 (nilv_appv S v h)

/-- An owned list's block and room. -/
abbrev Vt := Option (Nat × Nat)
def vecv (t : Vt) (n : Nat) : VP where
  p := fun _ v => n ≤ maxList ∧ match t with
    | none => v = .slice none 0 0 ∧ n = 0
    | some (b, cap) => v = .slice (some ⟨b, 0, none⟩) n cap
  mono := fun _ h => h
/-- The head of an owned list, as a part of a variable. -/
structure Vh where
  t : Vt
  n : Nat
instance : Rep Vh where
  n := 1
  agg := false
  rd := fun S cs x => ∃ v, cs = [v] ∧ (vecv x.t x.n).p S v
  len := fun ⟨v, e, _⟩ => by rw [e]; rfl
  mono := fun h ⟨v, e, k⟩ => ⟨v, e, (vecv _ _).mono h k⟩
  cell := fun {S cs x} ⟨v, e, k⟩ u hu => by
    rw [e] at hu; simp at hu; subst hu
    obtain ⟨_, k⟩ := k
    rcases x with ⟨t, n⟩
    cases t with
    | none => rw [k.1]; rfl
    | some t => simp only at k; rw [k]; rfl
  one := fun _ => rfl
theorem isvV {t : Vt} {n : Nat} {S : Frz} {v : Value} : (isv (Vh.mk t n)).p S v ↔ (vecv t n).p S v := by
  constructor
  · intro h
    obtain ⟨u, e, h⟩ := (isv_plain h rfl).2
    simp at e; subst e; exact h
  · intro h
    exact isv_of_plain rfl ⟨v, rfl, h⟩
theorem isvV1 {t : Vt} {n : Nat} (S : Frz) (v : Value) (h : (isv (Vh.mk t n)).p S v) : (vecv t n).p S v := isvV.1 h
theorem isvV2 {t : Vt} {n : Nat} (S : Frz) (v : Value) (h : (vecv t n).p S v) : (isv (Vh.mk t n)).p S v := isvV.2 h
theorem nilvV (S : Frz) (v : Value) (h : nilv.p S v) : (vecv none 0).p S v := ⟨Nat.zero_le _, h, rfl⟩
theorem nilvVh (S : Frz) (v : Value) (h : nilv.p S v) : (isv (Vh.mk none 0)).p S v := isvV.2 (nilvV S v h)
theorem vecvE {t : Vt} {n m : Nat} (e : n = m) (S : Frz) (v : Value) (h : (vecv t n).p S v) : (vecv t m).p S v := e ▸ h

def vecE {α : Type} [Rep α] (t : Vt) (l : List α) : Ent where
  k := t.map (·.1)
  φ := { p := fun b S o => match t with
           | none => True
           | some (_, cap) => S b = none ∧ ∃ cs T, o = .cells cs T (0, 0) ∧ cs.size = cap * Rep.n α ∧ l.length ≤ cap ∧ rdL (Rep.rd S) l (cs.toList.take (l.length * Rep.n α))
         mono := fun {S S' b o} h hb k => by
           cases t with
           | none => trivial
           | some t => obtain ⟨h1, cs, T, e, h2, h3, h4⟩ := k; exact ⟨hb ▸ h1, cs, T, e, h2, h3, rdL_mono (fun _ _ => Rep.mono h) h4⟩ }
/-- A place of an owned list, or a part of it. -/
def veltv {α β : Type} [Rep α] [Rep β] (t : Vt) (i : Nat) (L : Fld α β) : VP where
  p := fun _ v => ∃ b cap, t = some (b, cap) ∧ v = .pointer (some ⟨b, i * Rep.n α + L.off, none⟩)
  mono := fun _ h => h

theorem splice {α : Type} {A v : List α} {p q m n n1 : Nat} (hv : v.length = m) (h1 : q + m ≤ n) (h2 : p + n ≤ n1) (h3 : n1 ≤ A.length) :
    (A.take n1).take p ++ (((((A.take n1).drop p).take n).take q ++ v) ++ (((A.take n1).drop p).take n).drop (q + m)) ++ (A.take n1).drop (p + n) = (A.take (p + q) ++ v ++ A.drop (p + q + m)).take n1 := by
  obtain ⟨A1, B1, rfl, l1⟩ : ∃ A1 B1, A = A1 ++ B1 ∧ A1.length = p := ⟨A.take p, A.drop p, (List.take_append_drop ..).symm, by rw [List.length_take]; omega⟩
  rw [List.length_append] at h3
  obtain ⟨A2, B2, rfl, l2⟩ : ∃ A2 B2, B1 = A2 ++ B2 ∧ A2.length = q := ⟨B1.take q, B1.drop q, (List.take_append_drop ..).symm, by rw [List.length_take]; omega⟩
  rw [List.length_append] at h3
  obtain ⟨A3, B3, rfl, l3⟩ : ∃ A3 B3, B2 = A3 ++ B3 ∧ A3.length = m := ⟨B2.take m, B2.drop m, (List.take_append_drop ..).symm, by rw [List.length_take]; omega⟩
  rw [List.length_append] at h3
  obtain ⟨A4, B4, rfl, l4⟩ : ∃ A4 B4, B3 = A4 ++ B4 ∧ A4.length = n - q - m := ⟨B3.take (n - q - m), B3.drop (n - q - m), (List.take_append_drop ..).symm, by rw [List.length_take]; omega⟩
  rw [List.length_append] at h3
  obtain ⟨A5, B5, rfl, l5⟩ : ∃ A5 B5, B4 = A5 ++ B5 ∧ A5.length = n1 - p - n := ⟨B4.take (n1 - p - n), B4.drop (n1 - p - n), (List.take_append_drop ..).symm, by rw [List.length_take]; omega⟩
  have e1 : (A1 ++ (A2 ++ (A3 ++ (A4 ++ (A5 ++ B5))))).take n1 = A1 ++ (A2 ++ (A3 ++ (A4 ++ A5))) := by
    have : A1 ++ (A2 ++ (A3 ++ (A4 ++ (A5 ++ B5)))) = (A1 ++ (A2 ++ (A3 ++ (A4 ++ A5)))) ++ B5 := by simp only [List.append_assoc]
    rw [this]; exact List.take_left' (by simp only [List.length_append]; omega)
  have e2 : (A1 ++ (A2 ++ (A3 ++ (A4 ++ A5)))).take p = A1 := List.take_left' l1
  have e3 : (A1 ++ (A2 ++ (A3 ++ (A4 ++ A5)))).drop p = A2 ++ (A3 ++ (A4 ++ A5)) := List.drop_left' l1
  have e4 : (A2 ++ (A3 ++ (A4 ++ A5))).take n = A2 ++ (A3 ++ A4) := by
    have : A2 ++ (A3 ++ (A4 ++ A5)) = (A2 ++ (A3 ++ A4)) ++ A5 := by simp only [List.append_assoc]
    rw [this]; exact List.take_left' (by simp only [List.length_append]; omega)
  have e5 : (A2 ++ (A3 ++ A4)).take q = A2 := List.take_left' l2
  have e6 : (A2 ++ (A3 ++ A4)).drop (q + m) = A4 := by
    have : A2 ++ (A3 ++ A4) = (A2 ++ A3) ++ A4 := by simp only [List.append_assoc]
    rw [this]; exact List.drop_left' (by simp only [List.length_append]; omega)
  have e7 : (A1 ++ (A2 ++ (A3 ++ (A4 ++ A5)))).drop (p + n) = A5 := by
    have : A1 ++ (A2 ++ (A3 ++ (A4 ++ A5))) = (A1 ++ (A2 ++ (A3 ++ A4))) ++ A5 := by simp only [List.append_assoc]
    rw [this]; exact List.drop_left' (by simp only [List.length_append]; omega)
  have e8 : (A1 ++ (A2 ++ (A3 ++ (A4 ++ (A5 ++ B5))))).take (p + q) = A1 ++ A2 := by
    have : A1 ++ (A2 ++ (A3 ++ (A4 ++ (A5 ++ B5)))) = (A1 ++ A2) ++ (A3 ++ (A4 ++ (A5 ++ B5))) := by simp only [List.append_assoc]
    rw [this]; exact List.take_left' (by simp only [List.length_append]; omega)
  have e9 : (A1 ++ (A2 ++ (A3 ++ (A4 ++ (A5 ++ B5))))).drop (p + q + m) = A4 ++ (A5 ++ B5) := by
    have : A1 ++ (A2 ++ (A3 ++ (A4 ++ (A5 ++ B5)))) = (A1 ++ A2 ++ A3) ++ (A4 ++ (A5 ++ B5)) := by simp only [List.append_assoc]
    rw [this]; exact List.drop_left' (by simp only [List.length_append]; omega)
  have e10 : ((A1 ++ A2) ++ v ++ (A4 ++ (A5 ++ B5))).take n1 = (A1 ++ A2) ++ v ++ (A4 ++ A5) := by
    have : (A1 ++ A2) ++ v ++ (A4 ++ (A5 ++ B5)) = ((A1 ++ A2) ++ v ++ (A4 ++ A5)) ++ B5 := by simp only [List.append_assoc]
    rw [this]; exact List.take_left' (by simp only [List.length_append]; omega)
  rw [e1, e2, e3, e4, e5, e6, e7, e8, e9, e10]
  simp only [List.append_assoc]

theorem Models.ent {c : Ctx} {Γ : Slots} {H : List Ent} {S : Frz} {a : Act} {w : World} {e e' : Ent} (m : Models c ⟨Γ, e :: H⟩ S a w) (hk : e'.k = e.k) (hs : e.sat S w → e'.sat S w) : Models c ⟨Γ, e' :: H⟩ S a w := by
  have hkeys : keys (e' :: H) = keys (e :: H) := by simp only [keys, List.filterMap_cons, hk]
  refine ⟨m.size, m.dfr, m.sub, m.keep, m.grow, m.env, ⟨fun x hx => ?_, by rw [hkeys]; exact m.owns.nodup, fun b hb => m.owns.own b (by rw [← hkeys]; exact hb)⟩, fun x hx => by
    obtain ⟨h1, h2, h3, h4⟩ := m.pins x hx
    exact ⟨h1, h2, by rw [hkeys]; exact h3, h4⟩⟩
  rcases List.mem_cons.1 hx with rfl | hx
  · exact hs (m.owns.sat _ (List.mem_cons_self ..))
  · exact m.owns.sat x (List.mem_cons_of_mem _ hx)

section ops
variable {c : Ctx} {ty : TypeId} {pos : String} {af : Array Edge} {g : Option (Nat × Bool)} {σ : St} {d : Option Nat}

theorem v_vlen {x : Operand} {t : Vt} {n T m : Nat} {agg : Bool} (hT : SlB c.P T m agg = true) (hx : opnd σ.Γ x = some (vecv t n)) :
    OpV c ⟨d, .call ⟨.builtin .len, #[x], #[T]⟩, ty, pos, af, g⟩ σ (isv (n : Int)) := fun S a w m => by
  obtain ⟨hn, h1⟩ := opnd_sound m hx
  refine ⟨.int .i64 n, isv_int.2 ⟨rfl, by unfold inI64; unfold maxList at hn; omega⟩, fun w' _ => ?_⟩
  cases t with
  | none => obtain ⟨h1, rfl⟩ := h1; simp [execOp, resolve, invoke, builtin, h1, run_len hT]
  | some t => simp only at h1; simp [execOp, resolve, invoke, builtin, h1, run_len hT]

theorem v_vidx {α : Type} [Rep α] {x i : Operand} {t : Vt} {n : Nat} {k : Int} {T : Nat} (hT : SlB c.P T (Rep.n α) (Rep.agg α) = true) (hx : opnd σ.Γ x = some (vecv t n)) (hi : opnd σ.Γ i = some (isv k))
    (hk : 0 ≤ k) (hy : k < n) : OpV c ⟨d, .indexAddr T x i, ty, pos, af, g⟩ σ (veltv t k.toNat (Fld.id α)) := fun S a w m => by
  obtain ⟨hn, h1⟩ := opnd_sound m hx
  obtain ⟨h5, _⟩ := isv_int.1 (opnd_sound m hi)
  obtain ⟨e, hu, hte⟩ := SlB.spec hT
  cases t with
  | none => obtain ⟨_, rfl⟩ := h1; omega
  | some t =>
    obtain ⟨b, cap⟩ := t
    simp only at h1
    exact ⟨.pointer (some ⟨b, k.toNat * Rep.n α, none⟩), ⟨b, cap, rfl, rfl⟩, fun w' _ => by
      simp [execOp, h1, h5, Instr.indexAt, asIntOf, underlying, hu, hk, hy, TyB.size hte, add_none]⟩

theorem v_vfield {α β γ : Type} [Rep α] [Rep β] [Rep γ] {t : Vt} {i : Nat} {L : Fld α β} {x : Operand} {T f : Nat} (M : Fld β γ) (hf : FldB c.P T f M.off (Rep.n γ) (Rep.agg γ) = true)
    (hx : opnd σ.Γ x = some (veltv t i L)) : OpV c ⟨d, .fieldAddr T x f, ty, pos, af, g⟩ σ (veltv t i (L.comp M)) := fun S a w m => by
  obtain ⟨b, cap, ht, h1⟩ := opnd_sound m hx
  refine ⟨.pointer (some ⟨b, i * Rep.n α + L.off + M.off, none⟩), ⟨b, cap, ht, by simp only [Fld.comp, Nat.add_assoc]⟩, fun w' _ => by simp [execOp, h1, run_fieldAt hf, add_none]⟩

theorem v_vsl {x i : Operand} {t : Vt} {n : Nat} {k : Int} {T m : Nat} {agg : Bool} (hT : SlB c.P T m agg = true) (hx : opnd σ.Γ x = some (vecv t n)) (hi : opnd σ.Γ i = some (isv k)) (hk : 0 ≤ k) (hc : k ≤ n) (hcap : ∀ b cap, t = some (b, cap) → n ≤ cap) :
    OpV c ⟨d, .slice T x none (some i) none, ty, pos, af, g⟩ σ (vecv t k.toNat) := fun S a w mm => by
  obtain ⟨hn, h1⟩ := opnd_sound mm hx
  obtain ⟨h5, _⟩ := isv_int.1 (opnd_sound mm hi)
  obtain ⟨e, hu, hte⟩ := SlB.spec hT
  cases t with
  | none =>
    obtain ⟨h1, rfl⟩ := h1
    have hk0 : k = 0 := by omega
    subst hk0
    refine ⟨.slice none 0 0, ⟨Nat.zero_le _, rfl, rfl⟩, fun w' _ => ?_⟩
    simp [execOp, h1, h5, Instr.sliceAt, Instr.slice, Instr.sliceBounds, underlying, hu, TyB.size hte, Instr.sliceBound, asIntOf]
  | some t =>
    obtain ⟨b, cap⟩ := t
    simp only at h1
    have := hcap b cap rfl
    refine ⟨.slice (some ⟨b, 0, none⟩) k.toNat cap, ⟨by omega, rfl⟩, fun w' _ => ?_⟩
    have hc' : k ≤ cap := by omega
    simp [execOp, h1, h5, Instr.sliceAt, Instr.slice, Instr.sliceBounds, underlying, hu, TyB.size hte, sliceBound_ok hk hc']
    intro _; unfold Addr.add; simp

theorem t_vload {Γ : Slots} {H : List Ent} {α β : Type} [Rep α] [Rep β] {t : Vt} {i : Nat} {L : Fld α β} {l : List α} {y : α} {x : Operand} {T : TypeId} {dd : Nat} {K : St → Prop} {Hr : List Ent} (ht : TyB c.P T (Rep.n β) (Rep.agg β) = true) (hx : opnd Γ x = some (veltv t i L))
    (hp : Pick (vecE t l) H Hr) (hy : l[i]? = some y) (k : K ⟨(dd, isv (L.get y)) :: Γ, H⟩) (hd : Nat.blt dd c.n = true := by rfl) :
    OpT c ⟨some dd, .load T x, ty, pos, af, g⟩ ⟨Γ, H⟩ K := by
  intro S a w next Q m hn
  obtain ⟨b, cap, rfl, h1⟩ := opnd_sound m hx
  have hs : (vecE (some (b, cap)) l).sat S w := m.owns.get hp
  obtain ⟨o, ho, hnone, cs, T', e, hsz, hlc, hr⟩ := hs
  subst e
  have hg := L.rget (rdL_get (r := Rep.rd S) (fun _ _ h => Rep.len h) hr hy)
  obtain ⟨v, hv, hrun⟩ := run_loadVar (ad := ⟨b, i * Rep.n α + L.off, none⟩) ht hg
  unfold Oper.wp
  have : (execOp a.eval ⟨some dd, .load T x, ty, pos, af, g⟩).run c.P w = .ok (.value v) w := by
    simp only [execOp, h1, Instr.loadAt, Instr.sureAddr]
    have h2 := hrun w fun j u hj => by
      rw [add_none]
      unfold World.cell?
      rw [ho]
      simp only
      have hgo : ∀ (A : List Value) (p q n1 n2 n3 : Nat), ((((A.take n1).drop p).take n2).drop q |>.take n3)[j]? = some u → A[p + q + j]? = some u := by
        intro A p q n1 n2 n3 h
        rw [List.getElem?_take] at h
        split at h
        · rw [List.getElem?_drop, List.getElem?_take] at h
          split at h
          · rw [List.getElem?_drop, List.getElem?_take] at h
            split at h
            · rw [← h]; congr 1; omega
            · cases h
          · cases h
        · cases h
      have := hgo _ _ _ _ _ _ hj
      simpa using this
    simp [h2]
  rw [this]
  exact hn _ _ _ _ (Frz.le_refl _) k (m.put hd hv)

theorem t_vstore {Γ : Slots} {H : List Ent} {α β : Type} [Rep α] [Rep β] {t : Vt} {i : Nat} {L : Fld α β} {l : List α} {y : α} {z : β} {x u : Operand} {T : TypeId} {K : St → Prop} {Hr : List Ent} (ht : TyB c.P T (Rep.n β) (Rep.agg β) = true) (hx : opnd Γ x = some (veltv t i L))
    (hu : opnd Γ u = some (isv z)) (hp : Pick (vecE t l) H Hr) (hy : l[i]? = some y) (k : K ⟨Γ, vecE t (l.set i (L.set y z)) :: Hr⟩) :
    OpT c ⟨none, .store T x u, ty, pos, af, g⟩ ⟨Γ, H⟩ K := by
  intro S a w next Q m hn
  obtain ⟨b, cap, rfl, h1⟩ := opnd_sound m hx
  have h2 := opnd_sound m hu
  have hs : (vecE (some (b, cap)) l).sat S w := m.owns.get hp
  obtain ⟨o, ho, hnone, cs, T', e, hsz, hlc, hr⟩ := hs
  subst e
  have hi : i < l.length := (List.getElem?_eq_some_iff.1 hy).1
  have hlen : (a.eval u).cells.toList.length = Rep.n β := Rep.len h2.2
  have hfit := L.fits
  have hle : l.length * Rep.n α ≤ cap * Rep.n α := Nat.mul_le_mul_right _ hlc
  have hfit1 : i * Rep.n α + Rep.n α ≤ l.length * Rep.n α := by rw [← Nat.succ_mul]; exact Nat.mul_le_mul_right _ hi
  have hrun := run_storeCells_at (P := c.P) b (i * Rep.n α + L.off) T' (a.eval u).cells.toList 0 cs w ho (by simp at hlen ⊢; omega) (fun v hv => Rep.cell h2.2 v hv)
  unfold Oper.wp
  have : (execOp a.eval ⟨none, .store T x u, ty, pos, af, g⟩).run c.P w = .ok .skip (w.setRow b (cs.toList.take (i * Rep.n α + L.off + 0) ++ (a.eval u).cells.toList ++ cs.toList.drop (i * Rep.n α + L.off + 0 + (a.eval u).cells.toList.length)).toArray) := by
    have hsz : (a.eval u).cells.size = Rep.n β := by simpa using hlen
    simp only [execOp, h1, Instr.storeAt, Instr.sureAddr, storeVar, Sem.run_bind, Sem.run_pure, Result.andThen_ok, TyB.size ht, hsz, ne_eq, not_true, if_false, Sem.run_ite, hrun]
  rw [this]
  have hg := rdL_get (r := Rep.rd S) (fun _ _ h => Rep.len h) hr hy
  have hset := rdL_set (r := Rep.rd S) (fun _ _ h => Rep.len h) hr hi (L.rset hg h2.2)
  obtain ⟨hst, hh⟩ := step_setRow (cs := (cs.toList.take (i * Rep.n α + L.off + 0) ++ (a.eval u).cells.toList ++ cs.toList.drop (i * Rep.n α + L.off + 0 + (a.eval u).cells.toList.length)).toArray) m.sub hnone ho
  have m1 := m.step (Hc := [vecE (some (b, cap)) l]) (H' := [vecE (some (b, cap)) (l.set i (L.set y z))]) (Takes.cons hp .nil) hst
    (owns_one ⟨_, hh, hnone, _, _, rfl, by
      have hcl : cs.toList.length = cs.size := by simp
      simp only [List.size_toArray, List.length_append, List.length_take, List.length_drop, hlen, hcl]
      omega, by rw [List.length_set]; exact hlc, by
      rw [List.length_set]
      have hcl : cs.toList.length = cs.size := by simp
      have e := splice (A := cs.toList) (v := (a.eval u).cells.toList) (p := i * Rep.n α) (q := L.off) (m := Rep.n β) (n := Rep.n α) (n1 := l.length * Rep.n α) hlen hfit hfit1 (by omega)
      rw [e] at hset
      rw [hlen, Nat.add_zero]
      simpa using hset⟩ fun b' hb => by simp [vecE] at hb; subst hb; exact .inl (by simp [keys, vecE]))
  exact hn _ _ _ _ (Frz.le_refl _) k m1
end ops
end Go.Sy


namespace Go.Sy

section upd
variable {c : Ctx} {σ σ' σ'' : St} {Q : Exit → Act → World → Prop} {ops : Array Oper}
/-- The state may be said otherwise, more memory being laid for good. -/
def Upd (c : Ctx) (σ σ' : St) : Prop := ∀ S a w, Models c σ S a w → ∃ S', S.le S' ∧ Models c σ' S' a w
theorem Upd.trans (h : Upd c σ σ') (k : Upd c σ' σ'') : Upd c σ σ'' := fun S a w m => by
  obtain ⟨S1, h1, m1⟩ := h S a w m
  obtain ⟨S2, h2, m2⟩ := k S1 a w m1
  exact ⟨S2, Frz.le_trans h1 h2, m2⟩
theorem w_upd {x : Code} (h : Upd c σ σ') (k : Wp c x σ' Q) : Wp c x σ Q := fun S a w m => by
  obtain ⟨S', _, m'⟩ := h S a w m
  exact k S' a w m'
theorem rl_upd {l : List Oper} (h : Upd c σ σ') (k : Rl c ops l σ' Q) : Rl c ops l σ Q := fun i hi S a w m => by
  obtain ⟨S', _, m'⟩ := h S a w m
  exact k i hi S' a w m'
theorem fin_upd (h : Upd c σ σ') (k : Fin c σ' Q) : Fin c σ Q := fun S a w m => by
  obtain ⟨S', _, m'⟩ := h S a w m
  exact k S' a w m'
theorem ret_upd (h : Upd c σ σ') (k : Ret c σ' Q) : Ret c σ Q := fun S a w m => by
  obtain ⟨S', _, m'⟩ := h S a w m
  exact k S' a w m'
theorem runC_mono {P : Program} {Q' : Act → World → Prop} : ∀ {π : Ord} {C C' : World → Prop} {a : Act} {w : World}, (∀ w, C' w → C w) → RunC P ops Q' π C' a w → RunC P ops Q' π C a w
  | .nil, _, _, _, _, _, h => h
  | .v _ _, _, _, _, _, hC, ⟨C1, h1, h2⟩ => ⟨C1, fun w h => hC w (h1 w h), h2⟩
  | .alt _ _ s, C, C', a, w, hC, h => ⟨wpOpC_mono (C := C') (C' := C) hC (fun _ _ ⟨C1, h1, h2⟩ => ⟨C1, fun w h => hC w (h1 w h), h2⟩) h.1, runC_mono (π := s) hC h.2⟩
  | .t i r, C, C', a, w, hC, h => wpOpC_mono (C := C') (C' := C) hC (fun _ _ ⟨C1, h1, h2⟩ => ⟨C1, fun w h => hC w (h1 w h), h2⟩) h
theorem rd_upd {π : Ord} (h : Upd c σ σ') (k : Rd c ops π σ' Q) : Rd c ops π σ Q := fun S a w m => by
  obtain ⟨S', hS, m'⟩ := h S a w m
  exact runC_mono (fun w hw => cls_le hS hw) (k S' a w m')
theorem upd_imp {Γ Γ' : Slots} {H : List Ent} (h : Slots.imp Γ Γ') : Upd c ⟨Γ, H⟩ ⟨Γ', H⟩ := fun S a w m => ⟨S, S.le_refl, m.imp h⟩
theorem upd_slot {Γ : Slots} {H : List Ent} {R R' : VP} (i : Nat) (h : look Γ i = some R) (hr : ∀ S v, R.p S v → R'.p S v) : Upd c ⟨Γ, H⟩ ⟨(i, R') :: Γ, H⟩ := upd_imp (slots_one h hr)
theorem upd_weak (h : Imp σ σ') : Upd c σ σ' := fun S a w m => ⟨S, S.le_refl, m.weak h⟩
theorem upd_ent0 {Γ : Slots} {H : List Ent} (e : Ent) (he : e.k = none) : Upd c ⟨Γ, H⟩ ⟨Γ, e :: H⟩ := fun S a w m => by
  have hk : keys (e :: H) = keys H := by simp [keys, List.filterMap_cons, he]
  refine ⟨S, S.le_refl, m.size, m.dfr, m.sub, m.keep, m.grow, m.env, ⟨fun x hx => ?_, by rw [hk]; exact m.owns.nodup, fun b hb => m.owns.own b (by rw [← hk]; exact hb)⟩, fun x hx => by
    obtain ⟨h1, h2, h3, h4⟩ := m.pins x hx
    exact ⟨h1, h2, by rw [hk]; exact h3, h4⟩⟩
  rcases List.mem_cons.1 hx with rfl | hx
  · unfold Ent.sat; rw [he]; trivial
  · exact m.owns.sat x hx
theorem upd_tok {Γ : Slots} {H : List Ent} : Upd c ⟨Γ, H⟩ ⟨Γ, tokE none :: H⟩ := upd_ent0 _ rfl
theorem upd_vec {α : Type} [Rep α] {Γ : Slots} {H : List Ent} : Upd c ⟨Γ, H⟩ ⟨Γ, vecE none ([] : List α) :: H⟩ := upd_ent0 _ rfl

theorem upd_front {Γ : Slots} {H Hr : List Ent} {e : Ent} (hp : Pick e H Hr) : Upd c ⟨Γ, H⟩ ⟨Γ, e :: Hr⟩ := fun S a w m =>
  ⟨S, S.le_refl, m.weak ⟨fun i R h => ⟨R, h, fun _ _ h => h⟩, [], .cons hp (takes_all (Takes.nil) |> fun h => by simpa using h)⟩⟩

theorem takes_rot {e : Ent} : ∀ H, Takes (e :: H) H [e]
  | [] => .nil
  | _ :: H => .cons (.there .here) (takes_rot H)
theorem takes_pick {e : Ent} {H Hr : List Ent} (h : Pick e H Hr) : Takes H Hr [e] := by
  induction h with
  | here => exact takes_rot _
  | there _ ih => exact .cons .here ih

theorem Models.vfreeze {α : Type} [Rep α] {S : Frz} {a : Act} {w : World} {t : Vt} {l : List α} {Hr : List Ent} (m : Models c σ S a w) (hp : Pick (vecE t l) σ.H Hr) :
    ∃ S', S.le S' ∧ Models c ⟨σ.Γ, Hr⟩ S' a w ∧ ∀ n v, n ≤ l.length → (vecv t n).p S' v → (isv (l.take n)).p S' v := by
  cases t with
  | none =>
    refine ⟨S, S.le_refl, m.weak ⟨fun i R h => ⟨R, h, fun _ _ h => h⟩, [vecE Option.none l], ?_⟩, fun n v _ hv => ?_⟩
    · exact takes_pick hp
    · obtain ⟨_, rfl, rfl⟩ := hv
      rw [List.take_zero]
      exact nilv_isv _ _ rfl
  | some t =>
    obtain ⟨b, cap⟩ := t
    have hs : (vecE (some (b, cap)) l).sat S w := m.owns.get hp
    obtain ⟨o, ho, hnone, cs, T', e, hsz, hlc, hr⟩ := hs
    subst e
    have hle : S.le (S.put b cs.toList) := fun j d hj => by
      have hne : j ≠ b := by rintro rfl; rw [hnone] at hj; cases hj
      exact ⟨d, by unfold Frz.put; rw [if_neg hne]; exact hj, List.prefix_refl _⟩
    refine ⟨S.put b cs.toList, hle, ?_, fun n v hn hv => ?_⟩
    · have hst : Step (keys [vecE (some (b, cap)) l]) S (S.put b cs.toList) w w := by
        refine ⟨Keep.refl _ _, ⟨hle, fun j _ hj => by unfold Frz.put; rw [if_neg (by simpa [keys, vecE] using hj)]⟩, fun j d hj => ?_⟩
        unfold Frz.put at hj
        split at hj
        · cases hj
          rename_i ej; subst ej
          exact ⟨cs, T', (0, 0), ho, List.prefix_refl _⟩
        · exact m.sub j d hj
      have := m.step (Hc := [vecE (some (b, cap)) l]) (H' := []) (Takes.cons hp .nil) hst (owns_nil _ _ _ _)
      simpa using this
    · obtain ⟨hm, e⟩ := hv
      simp only at e
      subst e
      have htl : (l.take n).length = n := by rw [List.length_take]; omega
      have hle2 : n * Rep.n α ≤ l.length * Rep.n α := Nat.mul_le_mul_right _ hn
      have hle3 : l.length * Rep.n α ≤ cap * Rep.n α := Nat.mul_le_mul_right _ hlc
      have htk : (cs.toList.take (l.length * Rep.n α)).take (n * Rep.n α) = cs.toList.take (n * Rep.n α) := by rw [List.take_take, Nat.min_eq_left hle2]
      refine isv_list.2 ⟨_, _, by rw [htl], by rw [htl]; omega, by rw [htl]; exact hm, .inr ⟨_, cs.toList.take (n * Rep.n α), rfl, Frz.has_take ⟨rfl, cs.toList, if_pos rfl, fun j u hj => by simpa using hj⟩ _, ?_, ?_⟩⟩
      · have : cs.toList.length = cs.size := by simp
        rw [htl, List.length_take]; omega
      · rw [← htk]
        exact rdL_mono (fun _ _ h => Rep.mono hle h) (rdL_take (fun _ _ h => Rep.len h) n hr)

theorem upd_frz {α : Type} [Rep α] {Γ : Slots} {H Hr : List Ent} {t : Vt} {n : Nat} {l : List α} (i : Nat) (hp : Pick (vecE t l) H Hr) (hi : look Γ i = some (vecv t n)) (hn : n ≤ l.length) : Upd c ⟨Γ, H⟩ ⟨(i, isv (l.take n)) :: Γ, Hr⟩ := fun S a w m => by
  obtain ⟨S', hS, m', hv⟩ := m.vfreeze hp
  exact ⟨S', hS, m'.imp (σ := ⟨Γ, Hr⟩) (c := c) (fun j R hj => ⟨R, hj, fun _ _ h => h⟩) |> fun m2 => ⟨m2.size, m2.dfr, m2.sub, m2.keep, m2.grow, fun j R hj => by
    unfold look at hj
    cases hk : Nat.beq i j with
    | true =>
      rw [hk] at hj
      have e : i = j := Nat.eq_of_beq_eq_true hk
      subst e
      cases hj
      obtain ⟨v, h1, h2⟩ := m2.env i _ hi
      exact ⟨v, h1, hv n v hn h2⟩
    | false => rw [hk] at hj; exact m2.env j R hj, m2.owns, m2.pins⟩⟩

/-- Data said otherwise. -/
def Cv {α β : Type} [Rep α] [Rep β] (S : Frz) (x : α) (y : β) : Prop := ∀ cs, Rep.rd S cs x → Rep.rd S cs y
theorem Cv.id {α : Type} [Rep α] {S : Frz} {x : α} : Cv S x x := fun _ h => h
theorem Cv.pair {α β γ δ : Type} [Rep α] [Rep β] [Rep γ] [Rep δ] {S : Frz} {a : α} {b : β} {c : γ} {d : δ} (h : Cv S a c) (k : Cv S b d) : Cv S (a, b) (c, d) := fun _ ⟨c1, c2, e, h1, h2⟩ => ⟨c1, c2, e, h _ h1, k _ h2⟩
theorem Cv.tl {α : Type} [Rep α] {S : Frz} {t : Tok} {l : List α} : Cv S (TList.mk t l) l := fun _ ⟨v, e, h⟩ => by
  subst e
  exact ⟨v, rfl, h.1⟩
theorem Cv.tl0 {α : Type} [Rep α] {S : Frz} : Cv S ([] : List α) (Vh.mk none 0) → True := fun _ => trivial
theorem Cv.isv {α β : Type} [Rep α] [Rep β] {x : α} {y : β} (ha : Rep.agg α = Rep.agg β) (h : ∀ S, Cv S x y) (S : Frz) (v : Value) (k : (isv x).p S v) : (Sy.isv y).p S v := ⟨k.1.trans ha, h S _ k.2⟩

theorem upd_box {α β : Type} [Rep α] [Rep β] {Γ : Slots} {H Hr : List Ent} {b : Nat} {x : α} {y : β} (hp : Pick (boxE b x) H Hr) (hc : ∀ S, Cv S x y) : Upd c ⟨Γ, H⟩ ⟨Γ, boxE b y :: Hr⟩ := fun S a w m => by
  obtain ⟨S1, h1, m1⟩ := upd_front (c := c) (Γ := Γ) hp S a w m
  exact ⟨S1, h1, m1.ent rfl (fun ⟨o, ho, hn, cs, T, e, hr⟩ => ⟨o, ho, hn, cs, T, e, hc _ _ hr⟩)⟩

/-- An owned list that is a part of a variable is laid for good. -/
theorem upd_frzB {α β γ : Type} [Rep α] [Rep β] [Rep γ] {Γ : Slots} {H H1 Hr : List Ent} {b : Nat} {x : α} {y : β} {t : Vt} {l : List γ} (hp : Pick (vecE t l) H H1) (hb : Pick (boxE b x) H1 Hr)
    (hc : ∀ S, (∀ n, n ≤ l.length → Cv S (Vh.mk t n) (l.take n)) → Cv S x y) : Upd c ⟨Γ, H⟩ ⟨Γ, boxE b y :: Hr⟩ := fun S a w m => by
  obtain ⟨S', hS, m', hv⟩ := m.vfreeze hp
  obtain ⟨S1, h1, m1⟩ := upd_front (c := c) (Γ := Γ) hb S' a w m'
  have hs : (boxE b x).sat S1 w := m1.owns.sat _ (List.mem_cons_self ..)
  refine ⟨S1, Frz.le_trans hS h1, m1.ent rfl (fun ⟨o, ho, hn, cs, T, e, hr⟩ => ⟨o, ho, hn, cs, T, e, hc _ (fun n hn cs ⟨v, e, hvv⟩ => ?_) _ hr⟩)⟩
  subst e
  have := (isv (l.take n)).mono h1 (hv n v hn hvv)
  obtain ⟨u, e, h⟩ := (isv_plain this rfl).2
  simp at e; subst e
  exact ⟨v, rfl, h⟩
theorem Cv.vh {γ : Type} [Rep γ] {S : Frz} {t : Vt} {n : Nat} {l : List γ} (h : ∀ n, n ≤ l.length → Cv S (Vh.mk t n) (l.take n)) (e : n = l.length) : Cv S (Vh.mk t n) l := by
  subst e
  have := h l.length (Nat.le_refl _)
  rwa [List.take_length] at this
end upd

section ops
variable {c : Ctx} {ty : TypeId} {pos : String} {af : Array Edge} {g : Option (Nat × Bool)} {σ : St} {d : Option Nat}

theorem OpT.upd {o : Oper} {K K' : St → Prop} (h : OpT c o σ K) (hk : ∀ σ', K σ' → ∃ σ'', K' σ'' ∧ Upd c σ' σ'') : OpT c o σ K' := fun S a w next Q m hn =>
  h S a w next Q m fun σ' S' a' w' hS hK m' => by
    obtain ⟨σ'', h1, h2⟩ := hk σ' hK
    obtain ⟨S'', h3, m''⟩ := h2 S' a' w' m'
    exact hn σ'' S'' a' w' (Frz.le_trans hS h3) h1 m''

theorem t_loadC {Γ : Slots} {H : List Ent} {α β : Type} [Rep α] [Rep β] {b : Nat} {L : Fld α β} {y : α} {R : VP} {x : Operand} {T : TypeId} {dd : Nat} {K : St → Prop} {Hr : List Ent} (ht : TyB c.P T (Rep.n β) (Rep.agg β) = true) (hx : opnd Γ x = some (ptrv b L))
    (hp : Pick (boxE b y) H Hr) (hc : ∀ S v, (isv (L.get y)).p S v → R.p S v) (k : K ⟨(dd, R) :: Γ, H⟩) (hd : Nat.blt dd c.n = true := by rfl) :
    OpT c ⟨some dd, .load T x, ty, pos, af, g⟩ ⟨Γ, H⟩ K := by
  intro S a w next Q m hn
  refine t_load (K := fun σ' => σ' = ⟨(dd, isv (L.get y)) :: Γ, H⟩) ht hx hp rfl hd S a w next Q m fun σ' S' a' w' hS hK m' => ?_
  subst hK
  refine hn _ S' a' w' hS k ⟨m'.size, m'.dfr, m'.sub, m'.keep, m'.grow, fun j R' hj => ?_, m'.owns, m'.pins⟩
  have h0 := m'.env j
  unfold look at hj h0
  cases hk : Nat.beq dd j with
  | true =>
    rw [hk] at hj h0
    cases hj
    obtain ⟨v, h1, h2⟩ := h0 _ rfl
    exact ⟨v, h1, hc _ _ h2⟩
  | false => rw [hk] at hj h0; exact h0 _ hj

theorem t_storeC {Γ : Slots} {H : List Ent} {α β : Type} [Rep α] [Rep β] {b : Nat} {L : Fld α β} {y y' : α} {z : β} {R : VP} {x u : Operand} {T : TypeId} {K : St → Prop} {Hr : List Ent} (ht : TyB c.P T (Rep.n β) (Rep.agg β) = true) (hx : opnd Γ x = some (ptrv b L))
    (hu : opnd Γ u = some R) (hc : ∀ S v, R.p S v → (isv z).p S v) (hp : Pick (boxE b y) H Hr) (hy : L.set y z = y') (k : K ⟨Γ, boxE b y' :: Hr⟩) :
    OpT c ⟨none, .store T x u, ty, pos, af, g⟩ ⟨Γ, H⟩ K := by
  subst hy
  intro S a w next Q m hn
  have h1 : a.eval x = .pointer (some ⟨b, L.off, none⟩) := opnd_sound m hx
  have h2 := hc _ _ (opnd_sound m hu)
  have hs : (boxE b y).sat S w := m.owns.get hp
  obtain ⟨o, ho, hnone, cs, T', e, hr⟩ := hs
  subst e
  have hlen : (a.eval u).cells.toList.length = Rep.n β := Rep.len h2.2
  have hfit := L.fits
  have hcs := Rep.len hr
  have hrun := run_storeCells_at (P := c.P) b L.off T' (a.eval u).cells.toList 0 cs w ho (by simp at hlen hcs ⊢; omega) (fun v hv => Rep.cell h2.2 v hv)
  unfold Oper.wp
  have : (execOp a.eval ⟨none, .store T x u, ty, pos, af, g⟩).run c.P w = .ok .skip (w.setRow b (cs.toList.take (L.off + 0) ++ (a.eval u).cells.toList ++ cs.toList.drop (L.off + 0 + (a.eval u).cells.toList.length)).toArray) := by
    have hsz : (a.eval u).cells.size = Rep.n β := by simpa using hlen
    simp only [execOp, h1, Instr.storeAt, Instr.sureAddr, storeVar, Sem.run_bind, Sem.run_pure, Result.andThen_ok, TyB.size ht, hsz, ne_eq, not_true, if_false, Sem.run_ite, hrun]
  rw [this]
  obtain ⟨hst, hh⟩ := step_setRow (cs := (cs.toList.take (L.off + 0) ++ (a.eval u).cells.toList ++ cs.toList.drop (L.off + 0 + (a.eval u).cells.toList.length)).toArray) m.sub hnone ho
  have m1 := m.step (Hc := [boxE b y]) (H' := [boxE b (L.set y z)]) (Takes.cons hp .nil) hst
    (owns_one ⟨_, hh, hnone, _, _, rfl, by
      have := L.rset hr h2.2
      rw [hlen, Nat.add_zero]
      simpa using this⟩ fun b' hb => by simp [boxE] at hb; subst hb; exact .inl (by simp [keys, boxE]))
  exact hn _ _ _ _ (Frz.le_refl _) k m1

theorem t_boxC {Γ : Slots} {H : List Ent} {α : Type} [Rep α] {y : α} {R : VP} {x : Operand} {T : TypeId} {dd : Nat} {K : St → Prop} (hx : opnd Γ x = some R) (hc : ∀ S v, R.p S v → (isv y).p S v)
    (k : ∀ b, K ⟨(dd, ptrv b (Fld.id α)) :: Γ, boxE b y :: H⟩) (hd : Nat.blt dd c.n = true := by rfl) :
    OpT c ⟨some dd, .box T x, ty, pos, af, g⟩ ⟨Γ, H⟩ K := by
  intro S a w next Q m hn
  have h1 := hc _ _ (opnd_sound m hx)
  unfold Oper.wp
  have : (execOp a.eval ⟨some dd, .box T x, ty, pos, af, g⟩).run c.P w = .ok (.value (.pointer (some ⟨w.heap.size, 0, none⟩))) { w with heap := w.heap.push (.cells (a.eval x).cells T (0, 0)) } := by
    simp [execOp, Instr.box, newVar, newRow, newObj, Sem.run]
  rw [this]
  have m1 := m.step (Hc := []) (H' := [boxE w.heap.size y]) .nil (step_push m.sub (.cells (a.eval x).cells T (0, 0)))
    (owns_one ⟨.cells (a.eval x).cells T (0, 0), by simp, sub_fresh m.sub, _, T, rfl, h1.2⟩ fun b hb => by simp [boxE] at hb; subst hb; exact .inr (Nat.le_refl _))
  exact hn _ _ _ _ (Frz.le_refl _) (k w.heap.size) (m1.put hd rfl)
theorem t_boxIC {Γ : Slots} {H : List Ent} {α : Type} [Rep α] {y : α} {R : VP} {x : Operand} {T : TypeId} {dd : Nat} {K : St → Prop} (hx : opnd Γ x = some R) (hc : ∀ S v, R.p S v → (isv y).p S v)
    (k : K ⟨(dd, immv y) :: Γ, H⟩) (hd : Nat.blt dd c.n = true := by rfl) :
    OpT c ⟨some dd, .box T x, ty, pos, af, g⟩ ⟨Γ, H⟩ K := by
  intro S a w next Q m hn
  have h1 := hc _ _ (opnd_sound m hx)
  unfold Oper.wp
  have : (execOp a.eval ⟨some dd, .box T x, ty, pos, af, g⟩).run c.P w = .ok (.value (.pointer (some ⟨w.heap.size, 0, none⟩))) { w with heap := w.heap.push (.cells (a.eval x).cells T (0, 0)) } := by
    simp [execOp, Instr.box, newVar, newRow, newObj, Sem.run]
  rw [this]
  have hst := step_push_put (w := w) m.sub (a.eval x).cells T (0, 0) (a.eval x).cells.toList (List.prefix_refl _)
  have m1 := m.step (Hc := []) (H' := []) .nil hst (owns_nil _ _ _ _)
  exact hn _ _ _ _ hst.grow.le k (m1.put hd ⟨⟨w.heap.size, 0, none⟩, (a.eval x).cells.toList, rfl, ⟨rfl, _, if_pos rfl, fun i v hi => by simpa using hi⟩, Rep.mono hst.grow.le h1.2⟩)

theorem t_makeVec {Γ : Slots} {H : List Ent} {α : Type} [Rep α] {x y : Operand} {T : TypeId} {p q : Int} {z0 : α} {dd e : Nat} {K : St → Prop} (hT : elB c.P T (Rep.n α) = true) (hz0 : ZeroOk c.P e z0) (he : c.P.underlying T = some (.slice e)) (hx : opnd Γ x = some (isv p)) (hy : opnd Γ y = some (isv q)) (h0 : 0 ≤ p) (hpq : q = p) (h1 : p ≤ 68719476736)
    (k : ∀ t, K ⟨(dd, vecv t (List.replicate p.toNat z0).length) :: Γ, vecE t (List.replicate p.toNat z0) :: H⟩) (hd : Nat.blt dd c.n = true := by rfl) : OpT c ⟨some dd, .makeSlice T x y, ty, pos, af, g⟩ ⟨Γ, H⟩ K := by
  subst hpq
  refine OpT.upd (t_makeArr (K := fun σ' => ∃ b, σ' = ⟨(dd, arrv b q.toNat q.toNat) :: Γ, arrE b (List.replicate q.toNat z0) :: H⟩) hT hz0 he hx hy h0 (Int.le_refl _) h1 (fun b => ⟨b, rfl⟩) hd) ?_
  rintro _ ⟨b, rfl⟩
  refine ⟨_, k (some (b, q.toNat)), fun S a w m => ⟨S, S.le_refl, ?_⟩⟩
  have m1 := m.ent (e' := vecE (some (b, q.toNat)) (List.replicate q.toNat z0)) rfl (fun ⟨o, ho, hn, cs, T', e1, hr⟩ => by
    have hl := rdL_len (n := Rep.n α) (r := Rep.rd S) (fun _ _ h => Rep.len h) hr
    rw [List.length_replicate] at hl
    refine ⟨o, ho, hn, cs, T', e1, by simpa using hl, by rw [List.length_replicate]; exact Nat.le_refl _, ?_⟩
    rw [List.length_replicate, ← hl, List.take_length]; exact hr)
  refine m1.imp (Γ := (dd, vecv (some (b, q.toNat)) (List.replicate q.toNat z0).length) :: Γ) fun i R hi => ?_
  unfold look at hi ⊢
  cases hk : Nat.beq dd i with
  | true =>
    rw [hk] at hi
    cases hi
    refine ⟨_, rfl, fun S v hv => ?_⟩
    rw [List.length_replicate]
    exact ⟨by unfold maxList; omega, hv⟩
  | false => rw [hk] at hi; exact ⟨R, hi, fun _ _ h => h⟩

theorem t_vapp {Γ : Slots} {H : List Ent} {α : Type} [Rep α] {x y : Operand} {t : Vt} {n : Nat} {l m : List α} {R : VP} {T U : TypeId} {dd : Nat} {K : St → Prop} {Hr : List Ent} (hT : appB c.P T U (Rep.n α) = true)
    (hx : opnd Γ x = some (vecv t n)) (hy : opnd Γ y = some R) (hc : ∀ S v, R.p S v → (isv m).p S v) (hp : Pick (vecE t l) H Hr) (hnl : n ≤ l.length)
    (hb : Nat.ble (n + m.length) 68719476736 = true)
    (k : ∀ t', K ⟨(dd, vecv t' (l.take n ++ m).length) :: Γ, vecE t' (l.take n ++ m) :: Hr⟩) (hd : Nat.blt dd c.n = true := by rfl) :
    OpT c ⟨some dd, .call ⟨.builtin .append, #[x, y], #[T, U]⟩, ty, pos, af, g⟩ ⟨Γ, H⟩ K := by
  intro S a w next Q mm hn
  replace hb := Nat.le_of_ble_eq_true hb
  have hll : (l.take n ++ m).length = n + m.length := by rw [List.length_append, List.length_take]; omega
  obtain ⟨⟨e, i, z, hu, hi, hsz, hby, hby0, hz, hzn⟩, e', hu'⟩ := AppB.of hT
  obtain ⟨hnm, htk⟩ := opnd_sound mm hx
  have hm := isv_list.1 (hc _ _ (opnd_sound mm hy))
  obtain ⟨cm, hcm1, hcm2, hcm3, hcm4⟩ := run_firstCells (P := c.P) hm
  obtain ⟨q, cap', ev', hcap', hmax', _⟩ := hm
  have hcmo : ∀ v ∈ cm, v.oneCell' = true := rdL_cell (fun _ _ h => Rep.cell h) hcm2
  have hml : maxList = 281474976710656 := rfl
  have hs : (vecE t l).sat S w := mm.owns.get hp
  have hrun : ∀ w', (execOp a.eval ⟨some dd, .call ⟨.builtin .append, #[x, y], #[T, U]⟩, ty, pos, af, g⟩).run c.P w' =
      ((Builtin.append_ #[T, U] ty #[a.eval x, a.eval y]).run c.P w').andThen fun v w' => .ok (.value v) w' := by
    intro w'
    simp [execOp, resolve, invoke, builtin]
  unfold Oper.wp
  rw [hrun]
  -- a new block
  have grown : ∀ (p : Option Addr) (cap : Nat) (cl : List Value), a.eval x = .slice p n cap → ¬ n + m.length ≤ cap → cl.length = n * Rep.n α → rdL (Rep.rd S) (l.take n) cl → (∀ v ∈ cl, v.oneCell' = true) →
      ((Builtin.firstCells (Rep.n α) n (.slice p n cap)).run c.P { w with drawn := w.drawn + 1 } = .ok cl.toArray { w with drawn := w.drawn + 1 }) →
      (∃ v w', (Builtin.append_ #[T, U] ty #[a.eval x, a.eval y]).run c.P w = .ok v w' ∧ next (a.put (some dd) v) w') := by
    intro p cap cl ev hneed hcl1 hcl2 _ hf1
    have hgrow := nextslicecap_le (need := n + m.length) (cap := cap) (by omega)
    have hbig : ¬ 281474976710656 < Builtin.nextslicecap (n + m.length) cap * i.bytes := by
      have h1 : Builtin.nextslicecap (n + m.length) cap * i.bytes ≤ (2 * (n + m.length) + 1024) * 1024 := Nat.mul_le_mul hgrow hby
      omega
    let q0 : Question := .appendCap (n + m.length) cap e
    let nc := q0.cut (w.tape w.drawn q0)
    have hnc : n + m.length ≤ nc := Nat.le_add_right _ _
    let w1 : World := { w with drawn := w.drawn + 1 }
    have hs1 : S.sub w1 := mm.sub
    have hrun2 : (Builtin.append_ #[T, U] ty #[a.eval x, a.eval y]).run c.P w = .ok (.slice (some ⟨w.heap.size, 0, none⟩) (n + m.length) nc) { w1 with heap := w.heap.push (.cells (cl.toArray ++ cm.toArray ++ Builtin.zeroCells z.cells (nc - (n + m.length))) e (0, 0)) } := by
      have hf2 := hcm4 w1 hs1
      rw [ev'] at hf2
      rw [ev, ev']
      exact run_append_grow hu hu' hi hsz hz hby0 hneed (by simpa using hbig) hf1 hf2
    have hzs : (Builtin.zeroCells z.cells (nc - (n + m.length))).size = (nc - (n + m.length)) * z.cells.size := by simp [Builtin.zeroCells]
    have hsp := step_push (w := w1) hs1 (.cells (cl.toArray ++ cm.toArray ++ Builtin.zeroCells z.cells (nc - (n + m.length))) e (0, 0))
    have hstep' : Step (keys [vecE t l]) S S w { w1 with heap := w.heap.push (.cells (cl.toArray ++ cm.toArray ++ Builtin.zeroCells z.cells (nc - (n + m.length))) e (0, 0)) } :=
      ⟨⟨rfl, rfl, rfl, hsp.keep.size, fun k hk _ => hsp.keep.block k hk (by simp)⟩, Grow.refl _ _ _, hsp.sub⟩
    have hlc : (cl ++ cm).length = (n + m.length) * Rep.n α := by rw [List.length_append, hcl1, hcm1, Nat.add_mul]
    have m1 := mm.step (H' := [vecE (some (w.heap.size, nc)) (l.take n ++ m)]) (Takes.cons hp .nil) hstep'
      (owns_one ⟨.cells (cl.toArray ++ cm.toArray ++ Builtin.zeroCells z.cells (nc - (n + m.length))) e (0, 0), by simp, sub_fresh mm.sub, _, e, rfl, by
        rw [Array.size_append, Array.size_append, List.size_toArray, List.size_toArray, hzs, hzn, ← List.length_append, hlc, ← Nat.add_mul]
        congr 1; omega, by rw [hll]; exact hnc, by
        rw [hll, ← hlc]
        simp only [Array.toList_append, List.toList_toArray]
        rw [List.take_left' rfl]
        exact rdL_append hcl2 hcm2⟩ fun b' hb' => by simp [vecE] at hb'; subst hb'; exact .inr (Nat.le_refl _))
    exact ⟨_, _, hrun2, hn _ _ _ _ (Frz.le_refl _) (k (some (w.heap.size, nc))) (m1.put hd ⟨by rw [hll]; omega, by rw [hll]⟩)⟩
  have fin : (∃ v w', (Builtin.append_ #[T, U] ty #[a.eval x, a.eval y]).run c.P w = .ok v w' ∧ next (a.put (some dd) v) w') := by
    cases t with
    | none =>
      obtain ⟨ev, rfl⟩ := htk
      by_cases hneed : 0 + m.length ≤ 0
      · have hm0 : m = [] := by cases m with | nil => rfl | cons _ _ => exact absurd hneed (by simp)
        subst hm0
        refine ⟨.slice none 0 0, w, ?_, ?_⟩
        · have hf := hcm4 w mm.sub
          have hcm0 : cm = [] := List.length_eq_zero_iff.1 (by rw [hcm1]; simp)
          rw [hcm0] at hf
          rw [ev'] at hf
          simp only [List.length_nil] at hf
          simp [Builtin.append_, underlying, hu, hu', ev, ev', sizeOf, typeInfo, hi, hsz, Builtin.lenOf, hf]
        · have m1 := mm.step (H' := [vecE none (l.take 0 ++ ([] : List α))]) (Takes.cons hp .nil) (S' := S) (w' := w) ⟨Keep.refl _ _, Grow.refl _ _ _, mm.sub⟩
            ⟨fun x hx => by simp at hx; subst hx; trivial, by simp [keys, vecE], fun b hb => by simp [keys, vecE] at hb⟩
          exact hn _ _ _ _ (Frz.le_refl _) (k none) (m1.put hd ⟨by rw [hll]; simp, rfl, by rw [hll]; rfl⟩)
      · refine grown none 0 [] ev hneed (by simp) (by simp [rdL]) (by simp) (by simp [Builtin.firstCells])
    | some t =>
      obtain ⟨b, cap⟩ := t
      simp only at htk
      obtain ⟨o, ho, hnone, cs, T0, e1, hcsz, hlc, hr⟩ := hs
      subst e1
      have hle : n * Rep.n α ≤ l.length * Rep.n α := Nat.mul_le_mul_right _ hnl
      have hle2 : l.length * Rep.n α ≤ cap * Rep.n α := Nat.mul_le_mul_right _ hlc
      have htk2 : (cs.toList.take (l.length * Rep.n α)).take (n * Rep.n α) = cs.toList.take (n * Rep.n α) := by rw [List.take_take, Nat.min_eq_left hle]
      have hrn : rdL (Rep.rd S) (l.take n) (cs.toList.take (n * Rep.n α)) := by rw [← htk2]; exact rdL_take (fun _ _ h => Rep.len h) n hr
      have hcln : (cs.toList.take (n * Rep.n α)).length = n * Rep.n α := by
        have : cs.toList.length = cs.size := by simp
        rw [List.length_take]; omega
      by_cases hneed : n + m.length ≤ cap
      · have hfit : n * Rep.n α + cm.length ≤ cs.size := by
          have h2 : (n + m.length) * Rep.n α ≤ cap * Rep.n α := Nat.mul_le_mul_right _ hneed
          rw [Nat.add_mul] at h2
          rw [hcm1]; omega
        have hst := run_storeCells_at (P := c.P) b (n * Rep.n α) T0 cm 0 cs w ho (by omega) hcmo
        have hadd : (⟨b, 0, none⟩ : Addr).add (n * Rep.n α) = ⟨b, n * Rep.n α, none⟩ := by rw [add_none, Nat.zero_add]
        have hrun2 : (Builtin.append_ #[T, U] ty #[a.eval x, a.eval y]).run c.P w = .ok (.slice (some ⟨b, 0, none⟩) (n + m.length) cap) (w.setRow b (cs.toList.take (n * Rep.n α + 0) ++ cm ++ cs.toList.drop (n * Rep.n α + 0 + cm.length)).toArray) := by
          have hf := hcm4 w mm.sub
          rw [ev'] at hf
          simp [Builtin.append_, underlying, hu, hu', htk, ev', sizeOf, typeInfo, hi, hsz, Builtin.lenOf, hf, hneed, hadd, hst]
        obtain ⟨hstep, hh⟩ := step_setRow (cs := (cs.toList.take (n * Rep.n α + 0) ++ cm ++ cs.toList.drop (n * Rep.n α + 0 + cm.length)).toArray) mm.sub hnone ho
        have m1 := mm.step (Hc := [vecE (some (b, cap)) l]) (H' := [vecE (some (b, cap)) (l.take n ++ m)]) (Takes.cons hp .nil) hstep
          (owns_one ⟨_, hh, hnone, _, _, rfl, by
            have hcl : cs.toList.length = cs.size := by simp
            simp only [List.size_toArray, List.length_append, List.length_take, List.length_drop, hcl]
            omega, by rw [hll]; exact hneed, by
            rw [hll, Nat.add_mul, ← hcm1, Nat.add_zero]
            simp only
            have : (cs.toList.take (n * Rep.n α) ++ cm ++ cs.toList.drop (n * Rep.n α + cm.length)).take (n * Rep.n α + cm.length) = cs.toList.take (n * Rep.n α) ++ cm := List.take_left' (by rw [List.length_append, hcln])
            rw [this]
            exact rdL_append hrn hcm2⟩ fun b' hb => by simp [vecE] at hb; subst hb; exact .inl (by simp [keys, vecE]))
        exact ⟨_, _, hrun2, hn _ _ _ _ (Frz.le_refl _) (k (some (b, cap))) (m1.put hd ⟨by rw [hll]; omega, by rw [hll]⟩)⟩
      · refine grown (some ⟨b, 0, none⟩) cap (cs.toList.take (n * Rep.n α)) htk hneed hcln hrn (fun v hv => rdL_cell (fun _ _ h => Rep.cell h) hrn v hv) ?_
        have := run_loadCells_list (P := c.P) { w with drawn := w.drawn + 1 } ⟨b, 0, none⟩ (cs.toList.take (n * Rep.n α)) (fun j u hj => by
          rw [add_none]
          unfold World.cell?
          show (match w.heap[b]? with | _ => _) = _
          rw [ho]
          simp only
          rw [List.getElem?_take] at hj
          split at hj
          · simpa using hj
          · cases hj)
        rw [hcln] at this
        simpa [Builtin.firstCells] using this
  obtain ⟨v, w', h1, h2⟩ := fin
  rw [h1]
  exact h2

/-- An append, what is appended said otherwise. -/
theorem t_appC {Γ : Slots} {H : List Ent} {α : Type} [Rep α] {x y : Operand} {t : Tok} {l m : List α} {R R2 : VP} {T U : TypeId} {dd : Nat} {K : St → Prop} {Hr : List Ent} (hT : appB c.P T U (Rep.n α) = true)
    (hx : opnd Γ x = some R2) (hcx : ∀ S v, R2.p S v → (appv t l).p S v) (hy : opnd Γ y = some R) (hc : ∀ S v, R.p S v → (isv m).p S v) (ht : Pick (tokE t) H Hr)
    (hb : Nat.ble (l.length + m.length) 68719476736 = true)
    (k : ∀ t', K ⟨(dd, appv t' (l ++ m)) :: Γ, tokE t' :: Hr⟩) (hd : Nat.blt dd c.n = true := by rfl) :
    OpT c ⟨some dd, .call ⟨.builtin .append, #[x, y], #[T, U]⟩, ty, pos, af, g⟩ ⟨Γ, H⟩ K :=
  t_appendC hT hx hcx hy hc (.inr rfl) (.cons ht .nil) (Nat.le_of_ble_eq_true hb) k hd
/-- Behind nothing. -/
theorem t_appN {Γ : Slots} {H : List Ent} {α : Type} [Rep α] {x y : Operand} {m : List α} {R : VP} {T U : TypeId} {dd : Nat} {K : St → Prop} (hT : appB c.P T U (Rep.n α) = true)
    (hx : opnd Γ x = some nilv) (hy : opnd Γ y = some R) (hc : ∀ S v, R.p S v → (isv m).p S v)
    (hb : Nat.ble (([] : List α).length + m.length) 68719476736 = true)
    (k : ∀ t', K ⟨(dd, appv t' (([] : List α) ++ m)) :: Γ, tokE t' :: H⟩) (hd : Nat.blt dd c.n = true := by rfl) :
    OpT c ⟨some dd, .call ⟨.builtin .append, #[x, y], #[T, U]⟩, ty, pos, af, g⟩ ⟨Γ, H⟩ K :=
  t_appendC hT hx nilv_appv hy hc (.inl ⟨rfl, rfl⟩) .nil (Nat.le_of_ble_eq_true hb) k hd
end ops
end Go.Sy


namespace Go.Sy

theorem rd_bytes {S : Frz} : ∀ {l : List UInt8} {cs : List Value}, rdL (Rep.rd S) l cs → cs = l.map fun x => Value.int .u8 (x.toNat : Int)
  | [], _, h => h
  | x :: l, _, ⟨c1, c2, e, h1, h2⟩ => by
    have h1' : c1 = [.int .u8 (x.toNat : Int)] := h1
    subst h1'; subst e
    rw [rd_bytes h2]; rfl
theorem bytes_rd {S : Frz} : ∀ l : List UInt8, rdL (Rep.rd S) l (l.map fun x => Value.int .u8 (x.toNat : Int))
  | [] => rfl
  | x :: l => ⟨[.int .u8 (x.toNat : Int)], _, rfl, rfl, bytes_rd l⟩
theorem fold_bytes : ∀ (l : List UInt8) (r : ByteArray), (l.map (fun b => (b.toNat : Int))).foldl (fun r n => r.push (UInt8.ofNat n.toNat)) r = ⟨r.data ++ l.toArray⟩
  | [], r => by simp
  | b :: l, r => by
    simp only [List.map_cons, List.foldl_cons]
    rw [fold_bytes l]
    simp [ByteArray.push]

section ops
variable {c : Ctx} {ty : TypeId} {pos : String} {af : Array Edge} {g : Option (Nat × Bool)} {σ : St} {d : Option Nat}

theorem v_bs {x : Operand} {l : List UInt8} {R : VP} {T U e : TypeId} (hs : c.P.underlying T = some (.slice e)) (he : c.P.underlying e = some (.int .u8)) (hd : c.P.underlying U = some .string) (hx : opnd σ.Γ x = some R) (hc : ∀ S v, R.p S v → (isv l).p S v) :
    OpV c ⟨d, .convert T U x, ty, pos, af, g⟩ σ (isv (Str.mk l)) := fun S a w m => by
  obtain ⟨p, cap, h1, h2, h3, h4⟩ := isv_list.1 (hc _ _ (opnd_sound m hx))
  refine ⟨.string (Str.mk l).ba, isv_str.2 ⟨rfl, by show l.length ≤ maxText; unfold maxList at h3; unfold maxText; omega⟩, fun w' hw => ?_⟩
  rcases h4 with h4 | ⟨ad, cs, h5, h6, h7, h8⟩
  · subst h4
    have hr : (convert T U (.slice p 0 cap)).run c.P w' = .ok (.string (Str.mk []).ba) w' := by
      rw [run_convert_bytes_string w' T U e p 0 cap hs he hd]
      cases p with
      | none => simp [Conv.bytesToString, Str.ba]; rfl
      | some ad =>
        rw [run_bytesToString w' ad 0 cap [] (by simp [loadCells, loadCellsFrom])]
        rfl
    simp only [execOp, Sem.run_bind, h1, List.length_nil, hr, Result.andThen_ok, Sem.run_pure]
  · subst h5
    have e1 := rd_bytes h8
    have hr : (convert T U (.slice (some ad) l.length cap)).run c.P w' = .ok (.string (Str.mk l).ba) w' := by
      rw [run_convert_bytes_string w' T U e _ l.length cap hs he hd]
      have hl := run_loadCells_list (P := c.P) w' ad cs (fun j u hu => Frz.has_cell hw.1 h6 hu)
      have hn : cs.length = l.length := by rw [e1, List.length_map]
      rw [hn, e1] at hl
      have e2 : (l.map fun x => Value.int .u8 (x.toNat : Int)) = (l.map fun x => (x.toNat : Int)).map (Value.int .u8) := by rw [List.map_map]; rfl
      rw [e2] at hl
      rw [run_bytesToString w' ad l.length cap _ hl, fold_bytes]
      simp [Str.ba, ByteArray.empty, ByteArray.emptyWithCapacity]
      rfl
    simp only [execOp, Sem.run_bind, h1, hr, Result.andThen_ok, Sem.run_pure]

theorem t_sb {Γ : Slots} {H : List Ent} {x : Operand} {s : Str} {T U e : TypeId} {dd : Nat} {K : St → Prop} (hs : c.P.underlying T = some .string) (hU : c.P.underlying U = some (.slice e)) (he : c.P.underlying e = some (.int .u8)) (hx : opnd Γ x = some (isv s)) (hb : Nat.ble s.b.length 68719476736 = true)
    (k : K ⟨(dd, isv s.b) :: Γ, H⟩) (hd : Nat.blt dd c.n = true := by rfl) : OpT c ⟨some dd, .convert T U x, ty, pos, af, g⟩ ⟨Γ, H⟩ K := by
  intro S a w next Q m hn
  obtain ⟨h1, _⟩ := isv_str.1 (opnd_sound m hx)
  have hb' := Nat.le_of_ble_eq_true hb
  have hr := Lib.run_convert_string_bytes (P := c.P) w T U e s.ba hs hU he
  unfold Oper.wp
  have hrun : (execOp a.eval ⟨some dd, .convert T U x, ty, pos, af, g⟩).run c.P w = .ok (.value (.slice (some ⟨w.heap.size, 0, none⟩) s.ba.size (grownCap w s.ba.size 0 e))) (Lib.bytesWorld w e s.ba) := by
    simp only [execOp, Sem.run_bind, h1, hr, Result.andThen_ok, Sem.run_pure]
  rw [hrun]
  have hcells : (s.b.map fun x => Value.int .u8 (x.toNat : Int)) <+: (Lib.bytesCells w e s.ba).toList := by
    simp [Lib.bytesCells, Str.ba]
  have hcap : s.b.length ≤ grownCap w s.ba.size 0 e := by
    rw [← Str.ba_size]; exact Nat.le_add_right _ _
  have hfr := sub_fresh m.sub
  have hst : Step (keys []) S (S.put w.heap.size (s.b.map fun x => Value.int .u8 (x.toNat : Int))) w (Lib.bytesWorld w e s.ba) := by
    refine ⟨⟨?_, ?_, ?_, by rw [Lib.bytesWorld_size]; omega, fun k hk _ => Lib.bytesWorld_at_old w e s.ba k hk⟩, grow_put m.sub _, fun b d hb => ?_⟩
    · unfold Lib.bytesWorld World.freeze; rw [if_neg (by decide)]; rfl
    · unfold Lib.bytesWorld World.freeze; rw [if_neg (by decide)]; rfl
    · unfold Lib.bytesWorld World.freeze; rw [if_neg (by decide)]; rfl
    · unfold Frz.put at hb
      split at hb
      · cases hb
        rename_i eb; subst eb
        exact ⟨_, _, _, Lib.bytesWorld_at_new w e s.ba, hcells⟩
      · obtain ⟨c1, T1, f1, h2, h3⟩ := m.sub b d hb
        have hlt := (Array.getElem?_eq_some_iff.1 h2).1
        exact ⟨c1, T1, f1, by rw [Lib.bytesWorld_at_old w e s.ba b hlt]; exact h2, h3⟩
  have m1 := m.step (Hc := []) (H' := []) .nil hst (owns_nil _ _ _ _)
  refine hn _ _ _ _ hst.grow.le k (m1.put hd (isv_list.2 ⟨some ⟨w.heap.size, 0, none⟩, grownCap w s.ba.size 0 e, by rw [Str.ba_size], hcap, by unfold maxList; omega, .inr ⟨⟨w.heap.size, 0, none⟩, s.b.map fun x => Value.int .u8 (x.toNat : Int), rfl, ⟨rfl, s.b.map fun x => Value.int .u8 (x.toNat : Int), by show (if w.heap.size = w.heap.size then _ else _) = _; rw [if_pos rfl], fun i v hi => by simpa using hi⟩, by show _ = _ * 1; rw [List.length_map, Nat.mul_one], bytes_rd _⟩⟩))
end ops

/-! ### Values within values -/
structure Raw where
  n : Int
  b : List UInt8
deriving DecidableEq
abbrev Raw.to (x : Raw) : Int × List UInt8 := (x.n, x.b)
instance : Rep Raw := Rep.iso Raw.to

inductive Val where
  | mk (kind : Int) (n : Int) (b : List UInt8) (l : List Val) (rule : Int) (more : List Raw)
def Val.kind : Val → Int | ⟨k, _, _, _, _, _⟩ => k
def Val.n : Val → Int | ⟨_, n, _, _, _, _⟩ => n
def Val.b : Val → List UInt8 | ⟨_, _, b, _, _, _⟩ => b
def Val.l : Val → List Val | ⟨_, _, _, l, _, _⟩ => l
def Val.rule : Val → Int | ⟨_, _, _, _, r, _⟩ => r
def Val.more : Val → List Raw | ⟨_, _, _, _, _, m⟩ => m

mutual
def rdVal (S : Frz) : Val → List Value → Prop
  | ⟨k, n, b, l, r, m⟩, cs => ∃ vb vl vm, cs = [.int .i64 k, .int .i64 n, vb, vl, .int .i64 r, vm] ∧ inI64 k ∧ inI64 n ∧ inI64 r ∧ rdSl 1 Rep.rd S vb b ∧ rdSl (Rep.n Raw) Rep.rd S vm m ∧
      (∃ p cap, vl = .slice p l.length cap ∧ l.length ≤ cap ∧ l.length ≤ maxList ∧ (l = [] ∨ ∃ a c, p = some a ∧ S.has a c ∧ c.length = l.length * 6 ∧ rdVals S l c))
def rdVals (S : Frz) : List Val → List Value → Prop
  | [], cs => cs = []
  | x :: l, cs => ∃ c1 c2, cs = c1 ++ c2 ∧ rdVal S x c1 ∧ rdVals S l c2
end
theorem rdVals_iff {S : Frz} : ∀ {l : List Val} {cs : List Value}, rdVals S l cs ↔ rdL (fun cs x => rdVal S x cs) l cs
  | [], _ => by unfold rdVals rdL; exact Iff.rfl
  | x :: l, cs => by
    unfold rdVals rdL
    exact ⟨fun ⟨c1, c2, e, h1, h2⟩ => ⟨c1, c2, e, h1, rdVals_iff.1 h2⟩, fun ⟨c1, c2, e, h1, h2⟩ => ⟨c1, c2, e, h1, rdVals_iff.2 h2⟩⟩
theorem rdVal_len {S : Frz} : ∀ {x : Val} {cs : List Value}, rdVal S x cs → cs.length = 6
  | ⟨_, _, _, _, _, _⟩, _, h => by
    unfold rdVal at h
    obtain ⟨_, _, _, e, _⟩ := h
    rw [e]; rfl
mutual
theorem rdVal_mono {S S' : Frz} (h : S.le S') : ∀ (x : Val) {cs : List Value}, rdVal S x cs → rdVal S' x cs
  | ⟨k, n, b, l, r, m⟩, cs, hx => by
    unfold rdVal at hx ⊢
    obtain ⟨vb, vl, vm, e, h1, h2, h3, h4, h5, p, cap, e2, h6, h7, h8⟩ := hx
    refine ⟨vb, vl, vm, e, h1, h2, h3, isv_list.1 ((isv b).mono h (isv_list.2 h4)), isv_list.1 ((isv m).mono h (isv_list.2 h5)), p, cap, e2, h6, h7, h8.imp id ?_⟩
    rintro ⟨a, c, j1, j2, j3, j4⟩
    exact ⟨a, c, j1, Frz.has_mono h j2, j3, rdVals_mono h l j4⟩
theorem rdVals_mono {S S' : Frz} (h : S.le S') : ∀ (l : List Val) {cs : List Value}, rdVals S l cs → rdVals S' l cs
  | [], _, hx => hx
  | x :: l, _, hx => by
    unfold rdVals at hx ⊢
    obtain ⟨c1, c2, e, h1, h2⟩ := hx
    exact ⟨c1, c2, e, rdVal_mono h x h1, rdVals_mono h l h2⟩
end
theorem rdSl_cell {α : Type} {n : Nat} {r : Frz → List Value → α → Prop} {S : Frz} {v : Value} {l : List α} (h : rdSl n r S v l) : v.oneCell' = true := by
  obtain ⟨p, cap, e, _⟩ := h
  rw [e]; rfl
instance : Rep Val where
  n := 6
  agg := true
  rd := fun S cs x => rdVal S x cs
  len := rdVal_len
  mono := fun h k => rdVal_mono h _ k
  cell := fun {S cs x} h v hv => by
    obtain ⟨k, n, b, l, r, m⟩ := x
    unfold rdVal at h
    obtain ⟨vb, vl, vm, e, h1, h2, h3, h4, h5, p, cap, e2, _⟩ := h
    subst e
    simp only [List.mem_cons, List.not_mem_nil, or_false] at hv
    rcases hv with rfl | rfl | rfl | rfl | rfl | rfl
    · rfl
    · rfl
    · exact rdSl_cell h4
    · rw [e2]; rfl
    · rfl
    · exact rdSl_cell h5
  one := fun h => by cases h
abbrev Val.to (x : Val) : Int × Int × List UInt8 × List Val × Int × List Raw := (x.kind, x.n, x.b, x.l, x.rule, x.more)
theorem Val.rd_to {S : Frz} {cs : List Value} {x : Val} : Rep.rd S cs x ↔ Rep.rd S cs x.to := by
  obtain ⟨k, n, b, l, r, m⟩ := x
  show rdVal S ⟨k, n, b, l, r, m⟩ cs ↔ _
  unfold rdVal
  constructor
  · rintro ⟨vb, vl, vm, e, h1, h2, h3, h4, h5, p, cap, e2, h6, h7, h8⟩
    exact ⟨[.int .i64 k], [.int .i64 n, vb, vl, .int .i64 r, vm], e, ⟨rfl, h1⟩, [.int .i64 n], [vb, vl, .int .i64 r, vm], rfl, ⟨rfl, h2⟩, [vb], [vl, .int .i64 r, vm], rfl, ⟨vb, rfl, h4⟩, [vl], [.int .i64 r, vm], rfl,
      ⟨vl, rfl, p, cap, e2, h6, h7, h8.imp id fun ⟨a, c, j1, j2, j3, j4⟩ => ⟨a, c, j1, j2, j3, rdVals_iff.1 j4⟩⟩, [.int .i64 r], [vm], rfl, ⟨rfl, h3⟩, ⟨vm, rfl, h5⟩⟩
  · rintro ⟨_, _, e, ⟨rfl, h1⟩, _, _, rfl, ⟨rfl, h2⟩, _, _, rfl, ⟨vb, rfl, h4⟩, _, _, rfl, ⟨vl, rfl, p, cap, e2, h6, h7, h8⟩, _, _, rfl, ⟨rfl, h3⟩, ⟨vm, rfl, h5⟩⟩
    exact ⟨vb, vl, vm, e, h1, h2, h3, h4, h5, p, cap, e2, h6, h7, h8.imp id fun ⟨a, c, j1, j2, j3, j4⟩ => ⟨a, c, j1, j2, j3, rdVals_iff.2 j4⟩⟩
@[reducible] def Fld.ofV {β : Type} [Rep β] (F : Fld (Int × Int × List UInt8 × List Val × Int × List Raw) β) (get : Val → β) (set : Val → β → Val) (hg : ∀ x : Val, F.get x.to = get x) (hs : ∀ (x : Val) y, F.set x.to y = (set x y).to) : Fld Val β where
  off := F.off
  get := get
  set := set
  fits := F.fits
  rget := fun {S cs x} h => hg x ▸ F.rget (Val.rd_to.1 h)
  rset := fun {S cs ds x y} h k => by
    have := F.rset (Val.rd_to.1 h) k
    rw [hs] at this
    exact Val.rd_to.2 this
theorem Cv.val {S : Frz} {x : Val} : Cv S x.to x := fun _ h => Val.rd_to.2 h
theorem Cv.valTo {S : Frz} {x : Val} : Cv S x x.to := fun _ h => Val.rd_to.1 h
end Go.Sy


namespace Go.Sy

section parts
variable {A0 A1 A2 A3 A4 A5 A6 A7 A8 A9 : Type} [Rep A0] [Rep A1] [Rep A2] [Rep A3] [Rep A4] [Rep A5] [Rep A6] [Rep A7] [Rep A8] [Rep A9]
@[reducible] def pf0 : Fld (A0 × A1) A0 := Fld.fst A0 A1
@[reducible] def pl0 : Fld A0 A0 := Fld.id A0
@[reducible] def pl1 : Fld (A0 × A1) A1 := Fld.snd A0 A1
@[reducible] def pf1 : Fld (A0 × A1 × A2) A1 := (Fld.snd A0 (A1 × A2)).comp (pf0 (A0 := A1) (A1 := A2))
@[reducible] def pf2 : Fld (A0 × A1 × A2 × A3) A2 := (Fld.snd A0 (A1 × A2 × A3)).comp (pf1 (A0 := A1) (A1 := A2) (A2 := A3))
@[reducible] def pf3 : Fld (A0 × A1 × A2 × A3 × A4) A3 := (Fld.snd A0 (A1 × A2 × A3 × A4)).comp (pf2 (A0 := A1) (A1 := A2) (A2 := A3) (A3 := A4))
@[reducible] def pf4 : Fld (A0 × A1 × A2 × A3 × A4 × A5) A4 := (Fld.snd A0 (A1 × A2 × A3 × A4 × A5)).comp (pf3 (A0 := A1) (A1 := A2) (A2 := A3) (A3 := A4) (A4 := A5))
@[reducible] def pf5 : Fld (A0 × A1 × A2 × A3 × A4 × A5 × A6) A5 := (Fld.snd A0 (A1 × A2 × A3 × A4 × A5 × A6)).comp (pf4 (A0 := A1) (A1 := A2) (A2 := A3) (A3 := A4) (A4 := A5) (A5 := A6))
@[reducible] def pf6 : Fld (A0 × A1 × A2 × A3 × A4 × A5 × A6 × A7) A6 := (Fld.snd A0 (A1 × A2 × A3 × A4 × A5 × A6 × A7)).comp (pf5 (A0 := A1) (A1 := A2) (A2 := A3) (A3 := A4) (A4 := A5) (A5 := A6) (A6 := A7))
@[reducible] def pf7 : Fld (A0 × A1 × A2 × A3 × A4 × A5 × A6 × A7 × A8) A7 := (Fld.snd A0 (A1 × A2 × A3 × A4 × A5 × A6 × A7 × A8)).comp (pf6 (A0 := A1) (A1 := A2) (A2 := A3) (A3 := A4) (A4 := A5) (A5 := A6) (A6 := A7) (A7 := A8))
@[reducible] def pf8 : Fld (A0 × A1 × A2 × A3 × A4 × A5 × A6 × A7 × A8 × A9) A8 := (Fld.snd A0 (A1 × A2 × A3 × A4 × A5 × A6 × A7 × A8 × A9)).comp (pf7 (A0 := A1) (A1 := A2) (A2 := A3) (A3 := A4) (A4 := A5) (A5 := A6) (A6 := A7) (A7 := A8) (A8 := A9))
@[reducible] def pl2 : Fld (A0 × A1 × A2) A2 := (Fld.snd A0 (A1 × A2)).comp (pl1 (A0 := A1) (A1 := A2))
@[reducible] def pl3 : Fld (A0 × A1 × A2 × A3) A3 := (Fld.snd A0 (A1 × A2 × A3)).comp (pl2 (A0 := A1) (A1 := A2) (A2 := A3))
@[reducible] def pl4 : Fld (A0 × A1 × A2 × A3 × A4) A4 := (Fld.snd A0 (A1 × A2 × A3 × A4)).comp (pl3 (A0 := A1) (A1 := A2) (A2 := A3) (A3 := A4))
@[reducible] def pl5 : Fld (A0 × A1 × A2 × A3 × A4 × A5) A5 := (Fld.snd A0 (A1 × A2 × A3 × A4 × A5)).comp (pl4 (A0 := A1) (A1 := A2) (A2 := A3) (A3 := A4) (A4 := A5))
@[reducible] def pl6 : Fld (A0 × A1 × A2 × A3 × A4 × A5 × A6) A6 := (Fld.snd A0 (A1 × A2 × A3 × A4 × A5 × A6)).comp (pl5 (A0 := A1) (A1 := A2) (A2 := A3) (A3 := A4) (A4 := A5) (A5 := A6))
@[reducible] def pl7 : Fld (A0 × A1 × A2 × A3 × A4 × A5 × A6 × A7) A7 := (Fld.snd A0 (A1 × A2 × A3 × A4 × A5 × A6 × A7)).comp (pl6 (A0 := A1) (A1 := A2) (A2 := A3) (A3 := A4) (A4 := A5) (A5 := A6) (A6 := A7))
@[reducible] def pl8 : Fld (A0 × A1 × A2 × A3 × A4 × A5 × A6 × A7 × A8) A8 := (Fld.snd A0 (A1 × A2 × A3 × A4 × A5 × A6 × A7 × A8)).comp (pl7 (A0 := A1) (A1 := A2) (A2 := A3) (A3 := A4) (A4 := A5) (A5 := A6) (A6 := A7) (A7 := A8))
@[reducible] def pl9 : Fld (A0 × A1 × A2 × A3 × A4 × A5 × A6 × A7 × A8 × A9) A9 := (Fld.snd A0 (A1 × A2 × A3 × A4 × A5 × A6 × A7 × A8 × A9)).comp (pl8 (A0 := A1) (A1 := A2) (A2 := A3) (A3 := A4) (A4 := A5) (A5 := A6) (A6 := A7) (A7 := A8) (A8 := A9))
end parts

@[reducible] def Val.f0 : Fld Val (Int) := Fld.ofV pf0 Val.kind (fun x y => ⟨y, x.n, x.b, x.l, x.rule, x.more⟩) (fun _ => rfl) (fun ⟨_, _, _, _, _, _⟩ _ => rfl)
@[reducible] def Val.f1 : Fld Val (Int) := Fld.ofV pf1 Val.n (fun x y => ⟨x.kind, y, x.b, x.l, x.rule, x.more⟩) (fun _ => rfl) (fun ⟨_, _, _, _, _, _⟩ _ => rfl)
@[reducible] def Val.f2 : Fld Val (List UInt8) := Fld.ofV pf2 Val.b (fun x y => ⟨x.kind, x.n, y, x.l, x.rule, x.more⟩) (fun _ => rfl) (fun ⟨_, _, _, _, _, _⟩ _ => rfl)
@[reducible] def Val.f3 : Fld Val (List Val) := Fld.ofV pf3 Val.l (fun x y => ⟨x.kind, x.n, x.b, y, x.rule, x.more⟩) (fun _ => rfl) (fun ⟨_, _, _, _, _, _⟩ _ => rfl)
@[reducible] def Val.f4 : Fld Val (Int) := Fld.ofV pf4 Val.rule (fun x y => ⟨x.kind, x.n, x.b, x.l, y, x.more⟩) (fun _ => rfl) (fun ⟨_, _, _, _, _, _⟩ _ => rfl)
@[reducible] def Val.f5 : Fld Val (List Raw) := Fld.ofV pl5 Val.more (fun x y => ⟨x.kind, x.n, x.b, x.l, x.rule, y⟩) (fun _ => rfl) (fun ⟨_, _, _, _, _, _⟩ _ => rfl)
@[reducible] def Val.zero : Val := ⟨0, 0, [], [], 0, []⟩
@[reducible] def Raw.f0 : Fld Raw (Int) := Fld.of Raw.to pf0 (fun x => x.n) (fun x y => { x with n := y }) (fun _ => rfl) (fun _ _ => rfl)
@[reducible] def Raw.f1 : Fld Raw (List UInt8) := Fld.of Raw.to pl1 (fun x => x.b) (fun x y => { x with b := y }) (fun _ => rfl) (fun _ _ => rfl)
@[reducible] def Raw.zero : Raw := ⟨0, []⟩

structure GTok where
  kind : Int
  text : Str
  at_ : Int
deriving DecidableEq
abbrev GTok.to (x : GTok) : Int × Str × Int := (x.kind, x.text, x.at_)
instance : Rep GTok := Rep.iso GTok.to
@[reducible] def GTok.f0 : Fld GTok (Int) := Fld.of GTok.to pf0 (fun x => x.kind) (fun x y => { x with kind := y }) (fun _ => rfl) (fun _ _ => rfl)
@[reducible] def GTok.f1 : Fld GTok (Str) := Fld.of GTok.to pf1 (fun x => x.text) (fun x y => { x with text := y }) (fun _ => rfl) (fun _ _ => rfl)
@[reducible] def GTok.f2 : Fld GTok (Int) := Fld.of GTok.to pl2 (fun x => x.at_) (fun x y => { x with at_ := y }) (fun _ => rfl) (fun _ _ => rfl)
@[reducible] def GTok.zero : GTok := ⟨0, ⟨[]⟩, 0⟩
theorem GTok.cv {S : Frz} {x : GTok} : Cv S x.to x := fun _ h => h
theorem GTok.cvTo {S : Frz} {x : GTok} : Cv S x x.to := fun _ h => h
theorem GTok.eqOk {P : Program} {T : TypeId} {g0 g1 g2 : Go.Field} (hu : P.underlying T = some (.struct #[g0, g1, g2])) (hg : P.eqGuardType P.depth T = false) (hs : P.stoodInHeld T = false) (n0 : (g0.name == "_") = false) (o0 : g0.offset = GTok.f0.off) (t0 : P.underlying g0.type = some (.int .i64)) (n1 : (g1.name == "_") = false) (o1 : g1.offset = GTok.f1.off) (t1 : P.underlying g1.type = some .string) (n2 : (g2.name == "_") = false) (o2 : g2.offset = GTok.f2.off) (t2 : P.underlying g2.type = some (.int .i64)) : EqOk P T GTok :=
  EqOk.struct (e := fun x y => (decide (x.kind = y.kind) && (decide (x.text = y.text) && (decide (x.at_ = y.at_) && true)))) rfl hu hg hs (.int GTok.f0 n0 o0 t0 (.str GTok.f1 n1 o1 t1 (.int GTok.f2 n2 o2 t2 .nil))) (fun x y => by
  obtain ⟨a0, a1, a2⟩ := x; obtain ⟨b0, b1, b2⟩ := y
  simp only [GTok.mk.injEq, Bool.and_true, Bool.decide_and])

structure GItem where
  name : Str
  number : Int
  has : Bool
deriving DecidableEq
abbrev GItem.to (x : GItem) : Str × Int × Bool := (x.name, x.number, x.has)
instance : Rep GItem := Rep.iso GItem.to
@[reducible] def GItem.f0 : Fld GItem (Str) := Fld.of GItem.to pf0 (fun x => x.name) (fun x y => { x with name := y }) (fun _ => rfl) (fun _ _ => rfl)
@[reducible] def GItem.f1 : Fld GItem (Int) := Fld.of GItem.to pf1 (fun x => x.number) (fun x y => { x with number := y }) (fun _ => rfl) (fun _ _ => rfl)
@[reducible] def GItem.f2 : Fld GItem (Bool) := Fld.of GItem.to pl2 (fun x => x.has) (fun x y => { x with has := y }) (fun _ => rfl) (fun _ _ => rfl)
@[reducible] def GItem.zero : GItem := ⟨⟨[]⟩, 0, false⟩
theorem GItem.cv {S : Frz} {x : GItem} : Cv S x.to x := fun _ h => h
theorem GItem.cvTo {S : Frz} {x : GItem} : Cv S x x.to := fun _ h => h
theorem GItem.eqOk {P : Program} {T : TypeId} {g0 g1 g2 : Go.Field} (hu : P.underlying T = some (.struct #[g0, g1, g2])) (hg : P.eqGuardType P.depth T = false) (hs : P.stoodInHeld T = false) (n0 : (g0.name == "_") = false) (o0 : g0.offset = GItem.f0.off) (t0 : P.underlying g0.type = some .string) (n1 : (g1.name == "_") = false) (o1 : g1.offset = GItem.f1.off) (t1 : P.underlying g1.type = some (.int .i64)) (n2 : (g2.name == "_") = false) (o2 : g2.offset = GItem.f2.off) (t2 : P.underlying g2.type = some .bool) : EqOk P T GItem :=
  EqOk.struct (e := fun x y => (decide (x.name = y.name) && (decide (x.number = y.number) && (decide (x.has = y.has) && true)))) rfl hu hg hs (.str GItem.f0 n0 o0 t0 (.int GItem.f1 n1 o1 t1 (.bool GItem.f2 n2 o2 t2 .nil))) (fun x y => by
  obtain ⟨a0, a1, a2⟩ := x; obtain ⟨b0, b1, b2⟩ := y
  simp only [GItem.mk.injEq, Bool.and_true, Bool.decide_and])

structure GCon where
  has : Bool
  hasLow : Bool
  hasHigh : Bool
  more : Bool
  low : Int
  high : Int
deriving DecidableEq
abbrev GCon.to (x : GCon) : Bool × Bool × Bool × Bool × Int × Int := (x.has, x.hasLow, x.hasHigh, x.more, x.low, x.high)
instance : Rep GCon := Rep.iso GCon.to
@[reducible] def GCon.f0 : Fld GCon (Bool) := Fld.of GCon.to pf0 (fun x => x.has) (fun x y => { x with has := y }) (fun _ => rfl) (fun _ _ => rfl)
@[reducible] def GCon.f1 : Fld GCon (Bool) := Fld.of GCon.to pf1 (fun x => x.hasLow) (fun x y => { x with hasLow := y }) (fun _ => rfl) (fun _ _ => rfl)
@[reducible] def GCon.f2 : Fld GCon (Bool) := Fld.of GCon.to pf2 (fun x => x.hasHigh) (fun x y => { x with hasHigh := y }) (fun _ => rfl) (fun _ _ => rfl)
@[reducible] def GCon.f3 : Fld GCon (Bool) := Fld.of GCon.to pf3 (fun x => x.more) (fun x y => { x with more := y }) (fun _ => rfl) (fun _ _ => rfl)
@[reducible] def GCon.f4 : Fld GCon (Int) := Fld.of GCon.to pf4 (fun x => x.low) (fun x y => { x with low := y }) (fun _ => rfl) (fun _ _ => rfl)
@[reducible] def GCon.f5 : Fld GCon (Int) := Fld.of GCon.to pl5 (fun x => x.high) (fun x y => { x with high := y }) (fun _ => rfl) (fun _ _ => rfl)
@[reducible] def GCon.zero : GCon := ⟨false, false, false, false, 0, 0⟩
theorem GCon.cv {S : Frz} {x : GCon} : Cv S x.to x := fun _ h => h
theorem GCon.cvTo {S : Frz} {x : GCon} : Cv S x x.to := fun _ h => h
theorem GCon.eqOk {P : Program} {T : TypeId} {g0 g1 g2 g3 g4 g5 : Go.Field} (hu : P.underlying T = some (.struct #[g0, g1, g2, g3, g4, g5])) (hg : P.eqGuardType P.depth T = false) (hs : P.stoodInHeld T = false) (n0 : (g0.name == "_") = false) (o0 : g0.offset = GCon.f0.off) (t0 : P.underlying g0.type = some .bool) (n1 : (g1.name == "_") = false) (o1 : g1.offset = GCon.f1.off) (t1 : P.underlying g1.type = some .bool) (n2 : (g2.name == "_") = false) (o2 : g2.offset = GCon.f2.off) (t2 : P.underlying g2.type = some .bool) (n3 : (g3.name == "_") = false) (o3 : g3.offset = GCon.f3.off) (t3 : P.underlying g3.type = some .bool) (n4 : (g4.name == "_") = false) (o4 : g4.offset = GCon.f4.off) (t4 : P.underlying g4.type = some (.int .i64)) (n5 : (g5.name == "_") = false) (o5 : g5.offset = GCon.f5.off) (t5 : P.underlying g5.type = some (.int .i64)) : EqOk P T GCon :=
  EqOk.struct (e := fun x y => (decide (x.has = y.has) && (decide (x.hasLow = y.hasLow) && (decide (x.hasHigh = y.hasHigh) && (decide (x.more = y.more) && (decide (x.low = y.low) && (decide (x.high = y.high) && true))))))) rfl hu hg hs (.bool GCon.f0 n0 o0 t0 (.bool GCon.f1 n1 o1 t1 (.bool GCon.f2 n2 o2 t2 (.bool GCon.f3 n3 o3 t3 (.int GCon.f4 n4 o4 t4 (.int GCon.f5 n5 o5 t5 .nil)))))) (fun x y => by
  obtain ⟨a0, a1, a2, a3, a4, a5⟩ := x; obtain ⟨b0, b1, b2, b3, b4, b5⟩ := y
  simp only [GCon.mk.injEq, Bool.and_true, Bool.decide_and])

structure GMark where
  has : Bool
  number : Int
  mode : Int
deriving DecidableEq
abbrev GMark.to (x : GMark) : Bool × Int × Int := (x.has, x.number, x.mode)
instance : Rep GMark := Rep.iso GMark.to
@[reducible] def GMark.f0 : Fld GMark (Bool) := Fld.of GMark.to pf0 (fun x => x.has) (fun x y => { x with has := y }) (fun _ => rfl) (fun _ _ => rfl)
@[reducible] def GMark.f1 : Fld GMark (Int) := Fld.of GMark.to pf1 (fun x => x.number) (fun x y => { x with number := y }) (fun _ => rfl) (fun _ _ => rfl)
@[reducible] def GMark.f2 : Fld GMark (Int) := Fld.of GMark.to pl2 (fun x => x.mode) (fun x y => { x with mode := y }) (fun _ => rfl) (fun _ _ => rfl)
@[reducible] def GMark.zero : GMark := ⟨false, 0, 0⟩
theorem GMark.cv {S : Frz} {x : GMark} : Cv S x.to x := fun _ h => h
theorem GMark.cvTo {S : Frz} {x : GMark} : Cv S x x.to := fun _ h => h
theorem GMark.eqOk {P : Program} {T : TypeId} {g0 g1 g2 : Go.Field} (hu : P.underlying T = some (.struct #[g0, g1, g2])) (hg : P.eqGuardType P.depth T = false) (hs : P.stoodInHeld T = false) (n0 : (g0.name == "_") = false) (o0 : g0.offset = GMark.f0.off) (t0 : P.underlying g0.type = some .bool) (n1 : (g1.name == "_") = false) (o1 : g1.offset = GMark.f1.off) (t1 : P.underlying g1.type = some (.int .i64)) (n2 : (g2.name == "_") = false) (o2 : g2.offset = GMark.f2.off) (t2 : P.underlying g2.type = some (.int .i64)) : EqOk P T GMark :=
  EqOk.struct (e := fun x y => (decide (x.has = y.has) && (decide (x.number = y.number) && (decide (x.mode = y.mode) && true)))) rfl hu hg hs (.bool GMark.f0 n0 o0 t0 (.int GMark.f1 n1 o1 t1 (.int GMark.f2 n2 o2 t2 .nil))) (fun x y => by
  obtain ⟨a0, a1, a2⟩ := x; obtain ⟨b0, b1, b2⟩ := y
  simp only [GMark.mk.injEq, Bool.and_true, Bool.decide_and])

structure GFld where
  name : Str
  ty : Int
  optional : Bool
  has : Bool
  dflt : Val
  group : Int
abbrev GFld.to (x : GFld) : Str × Int × Bool × Bool × Val × Int := (x.name, x.ty, x.optional, x.has, x.dflt, x.group)
instance : Rep GFld := Rep.iso GFld.to
@[reducible] def GFld.f0 : Fld GFld (Str) := Fld.of GFld.to pf0 (fun x => x.name) (fun x y => { x with name := y }) (fun _ => rfl) (fun _ _ => rfl)
@[reducible] def GFld.f1 : Fld GFld (Int) := Fld.of GFld.to pf1 (fun x => x.ty) (fun x y => { x with ty := y }) (fun _ => rfl) (fun _ _ => rfl)
@[reducible] def GFld.f2 : Fld GFld (Bool) := Fld.of GFld.to pf2 (fun x => x.optional) (fun x y => { x with optional := y }) (fun _ => rfl) (fun _ _ => rfl)
@[reducible] def GFld.f3 : Fld GFld (Bool) := Fld.of GFld.to pf3 (fun x => x.has) (fun x y => { x with has := y }) (fun _ => rfl) (fun _ _ => rfl)
@[reducible] def GFld.f4 : Fld GFld (Val) := Fld.of GFld.to pf4 (fun x => x.dflt) (fun x y => { x with dflt := y }) (fun _ => rfl) (fun _ _ => rfl)
@[reducible] def GFld.f5 : Fld GFld (Int) := Fld.of GFld.to pl5 (fun x => x.group) (fun x y => { x with group := y }) (fun _ => rfl) (fun _ _ => rfl)
@[reducible] def GFld.zero : GFld := ⟨⟨[]⟩, 0, false, false, Val.zero, 0⟩
theorem GFld.cv {S : Frz} {x : GFld} : Cv S x.to x := fun _ h => h
theorem GFld.cvTo {S : Frz} {x : GFld} : Cv S x x.to := fun _ h => h

structure GNode where
  kind : Int
  name : Str
  mark : GMark
  con : GCon
  items : List GItem
  fields : List GFld
  root : Int
  more : Bool
  of : Int
abbrev GNode.to (x : GNode) : Int × Str × GMark × GCon × List GItem × List GFld × Int × Bool × Int := (x.kind, x.name, x.mark, x.con, x.items, x.fields, x.root, x.more, x.of)
instance : Rep GNode := Rep.iso GNode.to
@[reducible] def GNode.f0 : Fld GNode (Int) := Fld.of GNode.to pf0 (fun x => x.kind) (fun x y => { x with kind := y }) (fun _ => rfl) (fun _ _ => rfl)
@[reducible] def GNode.f1 : Fld GNode (Str) := Fld.of GNode.to pf1 (fun x => x.name) (fun x y => { x with name := y }) (fun _ => rfl) (fun _ _ => rfl)
@[reducible] def GNode.f2 : Fld GNode (GMark) := Fld.of GNode.to pf2 (fun x => x.mark) (fun x y => { x with mark := y }) (fun _ => rfl) (fun _ _ => rfl)
@[reducible] def GNode.f3 : Fld GNode (GCon) := Fld.of GNode.to pf3 (fun x => x.con) (fun x y => { x with con := y }) (fun _ => rfl) (fun _ _ => rfl)
@[reducible] def GNode.f4 : Fld GNode (List GItem) := Fld.of GNode.to pf4 (fun x => x.items) (fun x y => { x with items := y }) (fun _ => rfl) (fun _ _ => rfl)
@[reducible] def GNode.f5 : Fld GNode (List GFld) := Fld.of GNode.to pf5 (fun x => x.fields) (fun x y => { x with fields := y }) (fun _ => rfl) (fun _ _ => rfl)
@[reducible] def GNode.f6 : Fld GNode (Int) := Fld.of GNode.to pf6 (fun x => x.root) (fun x y => { x with root := y }) (fun _ => rfl) (fun _ _ => rfl)
@[reducible] def GNode.f7 : Fld GNode (Bool) := Fld.of GNode.to pf7 (fun x => x.more) (fun x y => { x with more := y }) (fun _ => rfl) (fun _ _ => rfl)
@[reducible] def GNode.f8 : Fld GNode (Int) := Fld.of GNode.to pl8 (fun x => x.of) (fun x y => { x with of := y }) (fun _ => rfl) (fun _ _ => rfl)
@[reducible] def GNode.zero : GNode := ⟨0, ⟨[]⟩, GMark.zero, GCon.zero, [], [], 0, false, 0⟩
theorem GNode.cv {S : Frz} {x : GNode} : Cv S x.to x := fun _ h => h
theorem GNode.cvTo {S : Frz} {x : GNode} : Cv S x x.to := fun _ h => h

structure GMod where
  name : Str
  tagging : Int
  names : List Str
  types : List Int
  nodes : List GNode
abbrev GMod.to (x : GMod) : Str × Int × List Str × List Int × List GNode := (x.name, x.tagging, x.names, x.types, x.nodes)
instance : Rep GMod := Rep.iso GMod.to
@[reducible] def GMod.f0 : Fld GMod (Str) := Fld.of GMod.to pf0 (fun x => x.name) (fun x y => { x with name := y }) (fun _ => rfl) (fun _ _ => rfl)
@[reducible] def GMod.f1 : Fld GMod (Int) := Fld.of GMod.to pf1 (fun x => x.tagging) (fun x y => { x with tagging := y }) (fun _ => rfl) (fun _ _ => rfl)
@[reducible] def GMod.f2 : Fld GMod (List Str) := Fld.of GMod.to pf2 (fun x => x.names) (fun x y => { x with names := y }) (fun _ => rfl) (fun _ _ => rfl)
@[reducible] def GMod.f3 : Fld GMod (List Int) := Fld.of GMod.to pf3 (fun x => x.types) (fun x y => { x with types := y }) (fun _ => rfl) (fun _ _ => rfl)
@[reducible] def GMod.f4 : Fld GMod (List GNode) := Fld.of GMod.to pl4 (fun x => x.nodes) (fun x y => { x with nodes := y }) (fun _ => rfl) (fun _ _ => rfl)
@[reducible] def GMod.zero : GMod := ⟨⟨[]⟩, 0, [], [], []⟩
theorem GMod.cv {S : Frz} {x : GMod} : Cv S x.to x := fun _ h => h
theorem GMod.cvTo {S : Frz} {x : GMod} : Cv S x x.to := fun _ h => h

structure GTyp where
  kind : Int
  tags : List Tag
  con : GCon
  items : List GItem
  fields : List GFld
  root : Int
  more : Bool
  of : Int
abbrev GTyp.to (x : GTyp) : Int × List Tag × GCon × List GItem × List GFld × Int × Bool × Int := (x.kind, x.tags, x.con, x.items, x.fields, x.root, x.more, x.of)
instance : Rep GTyp := Rep.iso GTyp.to
@[reducible] def GTyp.f0 : Fld GTyp (Int) := Fld.of GTyp.to pf0 (fun x => x.kind) (fun x y => { x with kind := y }) (fun _ => rfl) (fun _ _ => rfl)
@[reducible] def GTyp.f1 : Fld GTyp (List Tag) := Fld.of GTyp.to pf1 (fun x => x.tags) (fun x y => { x with tags := y }) (fun _ => rfl) (fun _ _ => rfl)
@[reducible] def GTyp.f2 : Fld GTyp (GCon) := Fld.of GTyp.to pf2 (fun x => x.con) (fun x y => { x with con := y }) (fun _ => rfl) (fun _ _ => rfl)
@[reducible] def GTyp.f3 : Fld GTyp (List GItem) := Fld.of GTyp.to pf3 (fun x => x.items) (fun x y => { x with items := y }) (fun _ => rfl) (fun _ _ => rfl)
@[reducible] def GTyp.f4 : Fld GTyp (List GFld) := Fld.of GTyp.to pf4 (fun x => x.fields) (fun x y => { x with fields := y }) (fun _ => rfl) (fun _ _ => rfl)
@[reducible] def GTyp.f5 : Fld GTyp (Int) := Fld.of GTyp.to pf5 (fun x => x.root) (fun x y => { x with root := y }) (fun _ => rfl) (fun _ _ => rfl)
@[reducible] def GTyp.f6 : Fld GTyp (Bool) := Fld.of GTyp.to pf6 (fun x => x.more) (fun x y => { x with more := y }) (fun _ => rfl) (fun _ _ => rfl)
@[reducible] def GTyp.f7 : Fld GTyp (Int) := Fld.of GTyp.to pl7 (fun x => x.of) (fun x y => { x with of := y }) (fun _ => rfl) (fun _ _ => rfl)
@[reducible] def GTyp.zero : GTyp := ⟨0, [], GCon.zero, [], [], 0, false, 0⟩
theorem GTyp.cv {S : Frz} {x : GTyp} : Cv S x.to x := fun _ h => h
theorem GTyp.cvTo {S : Frz} {x : GTyp} : Cv S x x.to := fun _ h => h

structure GTab where
  name : Str
  names : List Str
  roots : List Int
  types : List GTyp
abbrev GTab.to (x : GTab) : Str × List Str × List Int × List GTyp := (x.name, x.names, x.roots, x.types)
instance : Rep GTab := Rep.iso GTab.to
@[reducible] def GTab.f0 : Fld GTab (Str) := Fld.of GTab.to pf0 (fun x => x.name) (fun x y => { x with name := y }) (fun _ => rfl) (fun _ _ => rfl)
@[reducible] def GTab.f1 : Fld GTab (List Str) := Fld.of GTab.to pf1 (fun x => x.names) (fun x y => { x with names := y }) (fun _ => rfl) (fun _ _ => rfl)
@[reducible] def GTab.f2 : Fld GTab (List Int) := Fld.of GTab.to pf2 (fun x => x.roots) (fun x y => { x with roots := y }) (fun _ => rfl) (fun _ _ => rfl)
@[reducible] def GTab.f3 : Fld GTab (List GTyp) := Fld.of GTab.to pl3 (fun x => x.types) (fun x y => { x with types := y }) (fun _ => rfl) (fun _ _ => rfl)
@[reducible] def GTab.zero : GTab := ⟨⟨[]⟩, [], [], []⟩
theorem GTab.cv {S : Frz} {x : GTab} : Cv S x.to x := fun _ h => h
theorem GTab.cvTo {S : Frz} {x : GTab} : Cv S x x.to := fun _ h => h

structure GPar where
  l : List GTok
  at_ : Int
  m : GMod
  e : Int
  p : Int
abbrev GPar.to (x : GPar) : List GTok × Int × GMod × Int × Int := (x.l, x.at_, x.m, x.e, x.p)
instance : Rep GPar := Rep.iso GPar.to
@[reducible] def GPar.f0 : Fld GPar (List GTok) := Fld.of GPar.to pf0 (fun x => x.l) (fun x y => { x with l := y }) (fun _ => rfl) (fun _ _ => rfl)
@[reducible] def GPar.f1 : Fld GPar (Int) := Fld.of GPar.to pf1 (fun x => x.at_) (fun x y => { x with at_ := y }) (fun _ => rfl) (fun _ _ => rfl)
@[reducible] def GPar.f2 : Fld GPar (GMod) := Fld.of GPar.to pf2 (fun x => x.m) (fun x y => { x with m := y }) (fun _ => rfl) (fun _ _ => rfl)
@[reducible] def GPar.f3 : Fld GPar (Int) := Fld.of GPar.to pf3 (fun x => x.e) (fun x y => { x with e := y }) (fun _ => rfl) (fun _ _ => rfl)
@[reducible] def GPar.f4 : Fld GPar (Int) := Fld.of GPar.to pl4 (fun x => x.p) (fun x y => { x with p := y }) (fun _ => rfl) (fun _ _ => rfl)
@[reducible] def GPar.zero : GPar := ⟨[], 0, GMod.zero, 0, 0⟩
theorem GPar.cv {S : Frz} {x : GPar} : Cv S x.to x := fun _ h => h
theorem GPar.cvTo {S : Frz} {x : GPar} : Cv S x x.to := fun _ h => h

structure GMk where
  m : GMod
  l : List GTyp
  e : Int
abbrev GMk.to (x : GMk) : GMod × List GTyp × Int := (x.m, x.l, x.e)
instance : Rep GMk := Rep.iso GMk.to
@[reducible] def GMk.f0 : Fld GMk (GMod) := Fld.of GMk.to pf0 (fun x => x.m) (fun x y => { x with m := y }) (fun _ => rfl) (fun _ _ => rfl)
@[reducible] def GMk.f1 : Fld GMk (List GTyp) := Fld.of GMk.to pf1 (fun x => x.l) (fun x y => { x with l := y }) (fun _ => rfl) (fun _ _ => rfl)
@[reducible] def GMk.f2 : Fld GMk (Int) := Fld.of GMk.to pl2 (fun x => x.e) (fun x y => { x with e := y }) (fun _ => rfl) (fun _ _ => rfl)
@[reducible] def GMk.zero : GMk := ⟨GMod.zero, [], 0⟩
theorem GMk.cv {S : Frz} {x : GMk} : Cv S x.to x := fun _ h => h
theorem GMk.cvTo {S : Frz} {x : GMk} : Cv S x x.to := fun _ h => h

structure GTys where
  l : List GTyp
abbrev GTys.to (x : GTys) : List GTyp := (x.l)
instance : Rep GTys := Rep.iso GTys.to
@[reducible] def GTys.f0 : Fld GTys (List GTyp) := Fld.of GTys.to pl0 (fun x => x.l) (fun x y => { x with l := y }) (fun _ => rfl) (fun _ _ => rfl)
@[reducible] def GTys.zero : GTys := ⟨[]⟩
theorem GTys.cv {S : Frz} {x : GTys} : Cv S x.to x := fun _ h => h
theorem GTys.cvTo {S : Frz} {x : GTys} : Cv S x x.to := fun _ h => h

structure GTmk where
  types : GTys
  m : GMod
abbrev GTmk.to (x : GTmk) : GTys × GMod := (x.types, x.m)
instance : Rep GTmk := Rep.iso GTmk.to
@[reducible] def GTmk.f0 : Fld GTmk (GTys) := Fld.of GTmk.to pf0 (fun x => x.types) (fun x y => { x with types := y }) (fun _ => rfl) (fun _ _ => rfl)
@[reducible] def GTmk.f1 : Fld GTmk (GMod) := Fld.of GTmk.to pl1 (fun x => x.m) (fun x y => { x with m := y }) (fun _ => rfl) (fun _ _ => rfl)
@[reducible] def GTmk.zero : GTmk := ⟨GTys.zero, GMod.zero⟩
theorem GTmk.cv {S : Frz} {x : GTmk} : Cv S x.to x := fun _ h => h
theorem GTmk.cvTo {S : Frz} {x : GTmk} : Cv S x x.to := fun _ h => h

structure GTbd where
  t : GTab
abbrev GTbd.to (x : GTbd) : GTab := (x.t)
instance : Rep GTbd := Rep.iso GTbd.to
@[reducible] def GTbd.f0 : Fld GTbd (GTab) := Fld.of GTbd.to pl0 (fun x => x.t) (fun x y => { x with t := y }) (fun _ => rfl) (fun _ _ => rfl)
@[reducible] def GTbd.zero : GTbd := ⟨GTab.zero⟩
theorem GTbd.cv {S : Frz} {x : GTbd} : Cv S x.to x := fun _ h => h
theorem GTbd.cvTo {S : Frz} {x : GTbd} : Cv S x x.to := fun _ h => h

structure GChk where
  tabled : GTbd
  bare : Bool
abbrev GChk.to (x : GChk) : GTbd × Bool := (x.tabled, x.bare)
instance : Rep GChk := Rep.iso GChk.to
@[reducible] def GChk.f0 : Fld GChk (GTbd) := Fld.of GChk.to pf0 (fun x => x.tabled) (fun x y => { x with tabled := y }) (fun _ => rfl) (fun _ _ => rfl)
@[reducible] def GChk.f1 : Fld GChk (Bool) := Fld.of GChk.to pl1 (fun x => x.bare) (fun x y => { x with bare := y }) (fun _ => rfl) (fun _ _ => rfl)
@[reducible] def GChk.zero : GChk := ⟨GTbd.zero, false⟩
theorem GChk.cv {S : Frz} {x : GChk} : Cv S x.to x := fun _ h => h
theorem GChk.cvTo {S : Frz} {x : GChk} : Cv S x x.to := fun _ h => h

structure GSid where
  a : GTab
  b : GTab
abbrev GSid.to (x : GSid) : GTab × GTab := (x.a, x.b)
instance : Rep GSid := Rep.iso GSid.to
@[reducible] def GSid.f0 : Fld GSid (GTab) := Fld.of GSid.to pf0 (fun x => x.a) (fun x y => { x with a := y }) (fun _ => rfl) (fun _ _ => rfl)
@[reducible] def GSid.f1 : Fld GSid (GTab) := Fld.of GSid.to pl1 (fun x => x.b) (fun x y => { x with b := y }) (fun _ => rfl) (fun _ _ => rfl)
@[reducible] def GSid.zero : GSid := ⟨GTab.zero, GTab.zero⟩
theorem GSid.cv {S : Frz} {x : GSid} : Cv S x.to x := fun _ h => h
theorem GSid.cvTo {S : Frz} {x : GSid} : Cv S x x.to := fun _ h => h

structure GWlk where
  sides : GSid
  e : Int
abbrev GWlk.to (x : GWlk) : GSid × Int := (x.sides, x.e)
instance : Rep GWlk := Rep.iso GWlk.to
@[reducible] def GWlk.f0 : Fld GWlk (GSid) := Fld.of GWlk.to pf0 (fun x => x.sides) (fun x y => { x with sides := y }) (fun _ => rfl) (fun _ _ => rfl)
@[reducible] def GWlk.f1 : Fld GWlk (Int) := Fld.of GWlk.to pl1 (fun x => x.e) (fun x y => { x with e := y }) (fun _ => rfl) (fun _ _ => rfl)
@[reducible] def GWlk.zero : GWlk := ⟨GSid.zero, 0⟩
theorem GWlk.cv {S : Frz} {x : GWlk} : Cv S x.to x := fun _ h => h
theorem GWlk.cvTo {S : Frz} {x : GWlk} : Cv S x x.to := fun _ h => h

structure GRwk where
  a : GTab
  b : GTab
  e : Int
abbrev GRwk.to (x : GRwk) : GTab × GTab × Int := (x.a, x.b, x.e)
instance : Rep GRwk := Rep.iso GRwk.to
@[reducible] def GRwk.f0 : Fld GRwk (GTab) := Fld.of GRwk.to pf0 (fun x => x.a) (fun x y => { x with a := y }) (fun _ => rfl) (fun _ _ => rfl)
@[reducible] def GRwk.f1 : Fld GRwk (GTab) := Fld.of GRwk.to pf1 (fun x => x.b) (fun x y => { x with b := y }) (fun _ => rfl) (fun _ _ => rfl)
@[reducible] def GRwk.f2 : Fld GRwk (Int) := Fld.of GRwk.to pl2 (fun x => x.e) (fun x y => { x with e := y }) (fun _ => rfl) (fun _ _ => rfl)
@[reducible] def GRwk.zero : GRwk := ⟨GTab.zero, GTab.zero, 0⟩
theorem GRwk.cv {S : Frz} {x : GRwk} : Cv S x.to x := fun _ h => h
theorem GRwk.cvTo {S : Frz} {x : GRwk} : Cv S x x.to := fun _ h => h

structure GXsd where
  a : GTab
  b : GTab
abbrev GXsd.to (x : GXsd) : GTab × GTab := (x.a, x.b)
instance : Rep GXsd := Rep.iso GXsd.to
@[reducible] def GXsd.f0 : Fld GXsd (GTab) := Fld.of GXsd.to pf0 (fun x => x.a) (fun x y => { x with a := y }) (fun _ => rfl) (fun _ _ => rfl)
@[reducible] def GXsd.f1 : Fld GXsd (GTab) := Fld.of GXsd.to pl1 (fun x => x.b) (fun x y => { x with b := y }) (fun _ => rfl) (fun _ _ => rfl)
@[reducible] def GXsd.zero : GXsd := ⟨GTab.zero, GTab.zero⟩
theorem GXsd.cv {S : Frz} {x : GXsd} : Cv S x.to x := fun _ h => h
theorem GXsd.cvTo {S : Frz} {x : GXsd} : Cv S x x.to := fun _ h => h

structure GXwk where
  sides : GXsd
  left : Int
abbrev GXwk.to (x : GXwk) : GXsd × Int := (x.sides, x.left)
instance : Rep GXwk := Rep.iso GXwk.to
@[reducible] def GXwk.f0 : Fld GXwk (GXsd) := Fld.of GXwk.to pf0 (fun x => x.sides) (fun x y => { x with sides := y }) (fun _ => rfl) (fun _ _ => rfl)
@[reducible] def GXwk.f1 : Fld GXwk (Int) := Fld.of GXwk.to pl1 (fun x => x.left) (fun x y => { x with left := y }) (fun _ => rfl) (fun _ _ => rfl)
@[reducible] def GXwk.zero : GXwk := ⟨GXsd.zero, 0⟩
theorem GXwk.cv {S : Frz} {x : GXwk} : Cv S x.to x := fun _ h => h
theorem GXwk.cvTo {S : Frz} {x : GXwk} : Cv S x x.to := fun _ h => h

structure GCkd where
  con : GCon
abbrev GCkd.to (x : GCkd) : GCon := (x.con)
instance : Rep GCkd := Rep.iso GCkd.to
@[reducible] def GCkd.f0 : Fld GCkd (GCon) := Fld.of GCkd.to pl0 (fun x => x.con) (fun x y => { x with con := y }) (fun _ => rfl) (fun _ _ => rfl)
@[reducible] def GCkd.zero : GCkd := ⟨GCon.zero⟩
theorem GCkd.cv {S : Frz} {x : GCkd} : Cv S x.to x := fun _ h => h
theorem GCkd.cvTo {S : Frz} {x : GCkd} : Cv S x x.to := fun _ h => h

structure GLrd where
  s : Str
  at_ : Int
abbrev GLrd.to (x : GLrd) : Str × Int := (x.s, x.at_)
instance : Rep GLrd := Rep.iso GLrd.to
@[reducible] def GLrd.f0 : Fld GLrd (Str) := Fld.of GLrd.to pf0 (fun x => x.s) (fun x y => { x with s := y }) (fun _ => rfl) (fun _ _ => rfl)
@[reducible] def GLrd.f1 : Fld GLrd (Int) := Fld.of GLrd.to pl1 (fun x => x.at_) (fun x y => { x with at_ := y }) (fun _ => rfl) (fun _ _ => rfl)
@[reducible] def GLrd.zero : GLrd := ⟨⟨[]⟩, 0⟩
theorem GLrd.cv {S : Frz} {x : GLrd} : Cv S x.to x := fun _ h => h
theorem GLrd.cvTo {S : Frz} {x : GLrd} : Cv S x x.to := fun _ h => h

structure GLex where
  reader : GLrd
abbrev GLex.to (x : GLex) : GLrd := (x.reader)
instance : Rep GLex := Rep.iso GLex.to
@[reducible] def GLex.f0 : Fld GLex (GLrd) := Fld.of GLex.to pl0 (fun x => x.reader) (fun x y => { x with reader := y }) (fun _ => rfl) (fun _ _ => rfl)
@[reducible] def GLex.zero : GLex := ⟨GLrd.zero⟩
theorem GLex.cv {S : Frz} {x : GLex} : Cv S x.to x := fun _ h => h
theorem GLex.cvTo {S : Frz} {x : GLex} : Cv S x x.to := fun _ h => h


/-! ### Zeros -/
def Zr {α : Type} [Rep α] (cs : List Value) (x : α) : Prop := ∀ S, Rep.rd S cs x
theorem zr_int : Zr [.int .i64 0] (0 : Int) := fun _ => ⟨rfl, in_mk (by omega) (by omega)⟩
theorem zr_bool : Zr [.bool false] false := fun _ => rfl
theorem zr_str : Zr [.string ⟨#[]⟩] (Str.mk []) := fun _ => ⟨rfl, Nat.zero_le _⟩
theorem zr_u8 : Zr [.int .u8 0] (0 : UInt8) := fun _ => rfl
theorem zr_u64 : Zr [.int .u64 0] (0 : UInt64) := fun _ => rfl
theorem zr_list {α : Type} [Rep α] : Zr [.slice none 0 0] ([] : List α) := fun _ => ⟨_, rfl, none, 0, rfl, Nat.le_refl _, Nat.zero_le _, .inl rfl⟩
theorem zr_tl {α : Type} [Rep α] : Zr [.slice none 0 0] (TList.mk none ([] : List α)) := fun S => ⟨_, rfl, nilv_appv S _ rfl⟩
theorem zr_vh : Zr [.slice none 0 0] (Vh.mk none 0) := fun _ => ⟨_, rfl, Nat.zero_le _, rfl, rfl⟩
theorem zr_pair {α β : Type} [Rep α] [Rep β] {c1 c2 : List Value} {x : α} {y : β} (h : Zr c1 x) (k : Zr c2 y) : Zr (c1 ++ c2) (x, y) := fun S => ⟨c1, c2, rfl, h S, k S⟩
theorem zr_val : Zr [.int .i64 0, .int .i64 0, .slice none 0 0, .slice none 0 0, .int .i64 0, .slice none 0 0] Val.zero := fun S => Val.rd_to.2 (zr_pair zr_int (zr_pair zr_int (zr_pair zr_list (zr_pair zr_list (zr_pair zr_int zr_list)))) S)
theorem zero_agg {α : Type} [Rep α] {P : Program} {T : TypeId} {x : α} {cs : List Value} (ha : Rep.agg α = true) (h : (P.info? T).bind (·.zero) = some (.agg cs.toArray)) (hz : Zr cs x) : ZeroOk P T x := ZeroOk.of h fun S => isv_of_agg ha (by simpa using hz S)
theorem zero_one {α : Type} [Rep α] {P : Program} {T : TypeId} {x : α} {v : Value} (ha : Rep.agg α = false) (h : (P.info? T).bind (·.zero) = some v) (hz : Zr [v] x) : ZeroOk P T x := ZeroOk.of h fun S => isv_of_plain ha (hz S)

section ops
variable {c : Ctx} {d : Option Nat} {ty : TypeId} {pos : String} {af : Array Edge} {g : Option (Nat × Bool)} {σ : St}
theorem v_fa {α β γ : Type} [Rep α] [Rep β] [Rep γ] {b : Nat} {L : Fld α β} {x : Operand} {T f : Nat} (hx : opnd σ.Γ x = some (ptrv b L)) (M : Fld β γ) (hf : FldB c.P T f M.off (Rep.n γ) (Rep.agg γ) = true) :
    OpV c ⟨d, .fieldAddr T x f, ty, pos, af, g⟩ σ (ptrv b (L.comp M)) := v_fieldAddr M hf hx
theorem v_fi {β γ : Type} [Rep β] [Rep γ] {y : β} {z : γ} {x : Operand} {T f : Nat} (hx : opnd σ.Γ x = some (immv y)) (M : Fld β γ) (hf : FldB c.P T f M.off (Rep.n γ) (Rep.agg γ) = true) (hz : M.get y = z) :
    OpV c ⟨d, .fieldAddr T x f, ty, pos, af, g⟩ σ (immv z) := hz ▸ v_fieldAddrI M hf hx
theorem v_fp {α β γ : Type} [Rep α] [Rep β] [Rep γ] {b : Nat} {L : Fld α β} {y : α} {x : Operand} {T f : Nat} {o : Obj} (hx : opnd σ.Γ x = some (pinv o b L y)) (M : Fld β γ) (hf : FldB c.P T f M.off (Rep.n γ) (Rep.agg γ) = true) :
    OpV c ⟨d, .fieldAddr T x f, ty, pos, af, g⟩ σ (pinv o b (L.comp M) y) := v_fieldAddrP M hf hx
theorem v_fv {α β γ : Type} [Rep α] [Rep β] [Rep γ] {t : Vt} {i : Nat} {L : Fld α β} {x : Operand} {T f : Nat} (hx : opnd σ.Γ x = some (veltv t i L)) (M : Fld β γ) (hf : FldB c.P T f M.off (Rep.n γ) (Rep.agg γ) = true) :
    OpV c ⟨d, .fieldAddr T x f, ty, pos, af, g⟩ σ (veltv t i (L.comp M)) := v_vfield M hf hx
/-- A place of a list. -/
theorem v_ix {α : Type} [Rep α] {x i : Operand} {l : List α} {k : Int} {y : α} {R : VP} {T : Nat} (hx : opnd σ.Γ x = some R) (hc : ∀ S v, R.p S v → (isv l).p S v) (hi : opnd σ.Γ i = some (isv k)) (hT : SlB c.P T (Rep.n α) (Rep.agg α) = true)
    (hy : getI l k = some y) : OpV c ⟨d, .indexAddr T x i, ty, pos, af, g⟩ σ (immv y) := fun S a w m => by
  obtain ⟨hk, hy⟩ := getI_inv hy
  obtain ⟨p, cap, h1, h2, h3, h4⟩ := isv_list.1 (hc _ _ (opnd_sound m hx))
  obtain ⟨h5, _⟩ := isv_int.1 (opnd_sound m hi)
  have hlt := (List.getElem?_eq_some_iff.1 hy).1
  rcases h4 with h4 | ⟨ad, cs, h6, h7, h8, h9⟩
  · subst h4; simp at hy
  obtain ⟨e, hu, hte⟩ := SlB.spec hT
  subst h6
  refine ⟨.pointer (some (ad.add (k.toNat * Rep.n α))), ⟨_, _, rfl, Frz.has_take (Frz.has_sub h7 _) (Rep.n α), rdL_get (r := Rep.rd S) (fun _ _ h => Rep.len h) h9 hy⟩, fun w' _ => ?_⟩
  have hb : 0 ≤ k ∧ k < (l.length : Int) := ⟨hk, by omega⟩
  simp [execOp, h1, h5, Instr.indexAt, asIntOf, underlying, hu, hb, TyB.size hte]
theorem v_ln {α : Type} [Rep α] {x : Operand} {l : List α} {R : VP} {T n : Nat} {agg : Bool} (hx : opnd σ.Γ x = some R) (hc : ∀ S v, R.p S v → (isv l).p S v) (hT : SlB c.P T n agg = true) :
    OpV c ⟨d, .call ⟨.builtin .len, #[x], #[T]⟩, ty, pos, af, g⟩ σ (isv (l.length : Int)) := fun S a w m => by
  obtain ⟨p, cap, h1, h2, h3, _⟩ := isv_list.1 (hc _ _ (opnd_sound m hx))
  exact ⟨.int .i64 l.length, isv_int.2 ⟨rfl, by unfold inI64; unfold maxList at h3; omega⟩, fun w' _ => by
    simp [execOp, resolve, invoke, builtin, h1, run_len hT]⟩
/-- Pieces of lists; what may be appended to stays so where its end stays. -/
theorem sl_sound {α : Type} [Rep α] {S : Frz} {a : Act} {w : World} (m : Models c σ S a w) {x : Operand} {lo hi : Option Operand} {l : List α} {R : VP} {k q : Int} {T : Nat} (hx : opnd σ.Γ x = some R) (hc : ∀ S v, R.p S v → (isv l).p S v) (hT : SlB c.P T (Rep.n α) (Rep.agg α) = true)
    (hlo : (lo = none ∧ k = 0) ∨ ∃ o, lo = some o ∧ opnd σ.Γ o = some (isv k)) (hhi : (hi = none ∧ q = l.length) ∨ ∃ o, hi = some o ∧ opnd σ.Γ o = some (isv q))
    (hk : 0 ≤ k) (hkq : k ≤ q) (hq : q ≤ l.length) : ∃ p cap, a.eval x = .slice p l.length cap ∧ l.length ≤ cap ∧ ∀ w', (execOp a.eval ⟨d, .slice T x lo hi none, ty, pos, af, g⟩).run c.P w' = .ok (.value (.slice (if cap = k.toNat then p else p.map (·.add (k.toNat * Rep.n α))) (q.toNat - k.toNat) (cap - k.toNat))) w' := by
  obtain ⟨p, cap, h1, h2, h3, h4⟩ := isv_list.1 (hc _ _ (opnd_sound m hx))
  obtain ⟨e, hu, hte⟩ := SlB.spec hT
  refine ⟨p, cap, h1, h2, fun w' => ?_⟩
  have b1 : ∀ (v : Value) (code : BoundsCode), v = .int .i64 q → (Instr.sliceBound v cap code).run c.P w' = .ok q.toNat w' := fun v code hv => by
    rw [hv]; exact sliceBound_ok (by omega) (by omega)
  have b2 : ∀ (v : Value) (code : BoundsCode), v = .int .i64 k → (Instr.sliceBound v q.toNat code).run c.P w' = .ok k.toNat w' := fun v code hv => by
    rw [hv]; exact sliceBound_ok (by omega) (by omega)
  rcases hlo with ⟨rfl, rfl⟩ | ⟨o1, rfl, ho1⟩
  · rcases hhi with ⟨rfl, rfl⟩ | ⟨o2, rfl, ho2⟩
    · simp [execOp, h1, Instr.sliceAt, Instr.slice, Instr.sliceBounds, underlying, hu, TyB.size hte]
    · have e2 := b1 _ .sliceAcap (isv_int.1 (opnd_sound m ho2)).1
      simp [execOp, h1, Instr.sliceAt, Instr.slice, Instr.sliceBounds, underlying, hu, TyB.size hte, e2]
  · have e1 := b2 _ .sliceB (isv_int.1 (opnd_sound m ho1)).1
    rcases hhi with ⟨rfl, rfl⟩ | ⟨o2, rfl, ho2⟩
    · have e1' : (Instr.sliceBound (a.eval o1) l.length .sliceB).run c.P w' = .ok k.toNat w' := by simpa using e1
      simp [execOp, h1, Instr.sliceAt, Instr.slice, Instr.sliceBounds, underlying, hu, TyB.size hte, e1']
    · have e2 := b1 _ .sliceAcap (isv_int.1 (opnd_sound m ho2)).1
      simp [execOp, h1, Instr.sliceAt, Instr.slice, Instr.sliceBounds, underlying, hu, TyB.size hte, e1, e2]
theorem v_sl {α : Type} [Rep α] {x : Operand} {lo hi : Option Operand} {l : List α} {R : VP} {k q : Int} {T : Nat} (hx : opnd σ.Γ x = some R) (hc : ∀ S v, R.p S v → (isv l).p S v) (hT : SlB c.P T (Rep.n α) (Rep.agg α) = true)
    (hlo : (lo = none ∧ k = 0) ∨ ∃ o, lo = some o ∧ opnd σ.Γ o = some (isv k)) (hhi : (hi = none ∧ q = l.length) ∨ ∃ o, hi = some o ∧ opnd σ.Γ o = some (isv q))
    (hk : 0 ≤ k) (hkq : k ≤ q) (hq : q ≤ l.length) : OpV c ⟨d, .slice T x lo hi none, ty, pos, af, g⟩ σ (isv ((l.take q.toNat).drop k.toNat)) := fun S a w m => by
  obtain ⟨p, cap, h1, h2, hr⟩ := sl_sound (d := d) (ty := ty) (pos := pos) (af := af) (g := g) m hx hc hT hlo hhi hk hkq hq
  obtain ⟨p', cap', h1', _, h3, h4⟩ := isv_list.1 (hc _ _ (opnd_sound m hx))
  rw [h1] at h1'; cases h1'
  have hlen : ((l.take q.toNat).drop k.toNat).length = q.toNat - k.toNat := by rw [List.length_drop, List.length_take]; omega
  refine ⟨_, isv_list.2 ⟨_, _, by rw [hlen], by rw [hlen]; omega, by rw [hlen]; omega, ?_⟩, fun w' _ => hr w'⟩
  by_cases he : (l.take q.toNat).drop k.toNat = []
  · exact .inl he
  right
  have hpos : 0 < q.toNat - k.toNat := by rw [← hlen]; exact List.length_pos_iff.2 he
  rcases h4 with h4 | ⟨ad, cs, h6, h7, h8, h9⟩
  · subst h4; simp at he
  subst h6
  have hne : ¬ cap = k.toNat := by omega
  refine ⟨ad.add (k.toNat * Rep.n α), ((cs.take (q.toNat * Rep.n α)).drop (k.toNat * Rep.n α)), by rw [if_neg hne]; rfl, ?_, ?_, rdL_drop (fun _ _ h => Rep.len h) _ (rdL_take (fun _ _ h => Rep.len h) _ h9)⟩
  · exact Frz.has_sub (Frz.has_take h7 _) _
  · have h10 : q.toNat * Rep.n α ≤ l.length * Rep.n α := Nat.mul_le_mul_right _ (by omega)
    rw [hlen, List.length_drop, List.length_take, h8, Nat.min_eq_left h10, Nat.sub_mul]
theorem t_slA {α : Type} [Rep α] {Γ : Slots} {H Hr : List Ent} {K : St → Prop} {dd : Nat} {x lo : Operand} {l : List α} {t : Tok} {k : Int} {T : Nat} (hx : opnd Γ x = some (appv t l)) (hT : SlB c.P T (Rep.n α) (Rep.agg α) = true) (hlo : opnd Γ lo = some (isv k))
    (hk : 0 ≤ k) (hkq : k ≤ l.length) (hp : Pick (tokE t) H Hr) (kk : ∀ t', K ⟨(dd, appv t' (l.drop k.toNat)) :: Γ, tokE t' :: Hr⟩) (hd : Nat.blt dd c.n = true := by rfl) : OpT c ⟨some dd, .slice T x (some lo) none none, ty, pos, af, g⟩ ⟨Γ, H⟩ K := by
  intro S a w next Q m hn
  obtain ⟨v, hv, hr⟩ := v_sl (σ := ⟨Γ, H⟩) (d := some dd) (ty := ty) (pos := pos) (af := af) (g := g) hx appv_isv hT (.inr ⟨_, rfl, hlo⟩) (.inl ⟨rfl, rfl⟩) hk hkq (Int.le_refl _) S a w m
  obtain ⟨p, cap, h1, h2, hr2⟩ := sl_sound (σ := ⟨Γ, H⟩) (d := some dd) (ty := ty) (pos := pos) (af := af) (g := g) m hx appv_isv hT (.inr ⟨_, rfl, hlo⟩) (.inl ⟨rfl, rfl⟩) hk hkq (Int.le_refl _)
  have e := (hr w m.cls).symm.trans (hr2 w)
  have e2 : v = .slice (if cap = k.toNat then p else p.map (·.add (k.toNat * Rep.n α))) ((l.length : Int).toNat - k.toNat) (cap - k.toNat) := by
    injection e with e3 _; injection e3
  have hl : (l.take (l.length : Int).toNat).drop k.toNat = l.drop k.toNat := by simp
  rw [hl] at hv
  unfold Oper.wp
  rw [hr w m.cls]
  have hlen : (l.drop k.toNat).length = l.length - k.toNat := List.length_drop
  obtain ⟨_, ht⟩ := opnd_sound m hx
  rw [h1] at ht
  obtain ⟨S1, hS1, m1⟩ := upd_front (c := c) (Γ := Γ) hp S a w m
  by_cases hc0 : cap = k.toNat
  · obtain ⟨S2, hS2, m2⟩ := upd_tok (c := c) (Γ := Γ) (H := Hr) S1 a w (m1.weak ⟨fun i R h => ⟨R, h, fun _ _ h => h⟩, [tokE t], takes_rot Hr⟩)
    refine hn _ _ _ _ (Frz.le_trans hS1 hS2) (kk none) (m2.put hd ⟨isv_list.1 ((isv (l.drop k.toNat)).mono (Frz.le_trans hS1 hS2) hv), p, ?_⟩)
    rw [e2, if_pos hc0, hlen]
    have e3 : (l.length : Int).toNat - k.toNat = l.length - k.toNat := by omega
    have e4 : cap - k.toNat = l.length - k.toNat := by omega
    rw [e3, e4]
  · refine hn _ _ _ _ hS1 (kk t) (m1.put hd ⟨isv_list.1 ((isv (l.drop k.toNat)).mono hS1 hv), ?_⟩)
    cases t with
    | none =>
      obtain ⟨p0, e0⟩ := ht
      cases e0
      exact ⟨_, by rw [e2, hlen]; rfl⟩
    | some t =>
      obtain ⟨b, F, C⟩ := t
      obtain ⟨off, cap0, e0, hF, hC⟩ := ht
      cases e0
      refine ⟨off + k.toNat * Rep.n α, cap - k.toNat, ?_, ?_, ?_⟩
      · rw [e2, if_neg hc0, hlen]; simp [add_none]
      · rw [hlen, Nat.sub_mul, ← hF]
        have : k.toNat * Rep.n α ≤ l.length * Rep.n α := Nat.mul_le_mul_right _ (by omega)
        omega
      · rw [Nat.sub_mul, ← hC]
        have : k.toNat * Rep.n α ≤ cap * Rep.n α := Nat.mul_le_mul_right _ (by omega)
        omega
end ops
end Go.Sy


namespace Go.Sy
section rules
variable {c : Ctx} {ops : Array Oper} {Q : Exit → Act → World → Prop} {ι β : Type} {r : β}

theorem w_J {γ : Type} {x y : Code} {Γ : Slots} {H Hc Hr : List Ent} (mod : ι → γ → Slots) (Hm : ι → γ → List Ent) (_hT : Takes H Hc Hr) {B : (ι → Option β) → Option β} {R : ι → Option β} (h : jp B R = some r)
    (hk : ∀ i g, R i = some r → Wp c y ⟨mod i g ++ Γ, Hm i g ++ Hr⟩ Q)
    (hx : ∀ J : ι → Option β, B J = some r → (∀ i g, J i = some r → ∀ σ', Imp σ' ⟨mod i g ++ Γ, Hm i g ++ Hr⟩ → Fin c σ' (nxt c y Q)) → Wp c x ⟨Γ, H⟩ (nxt c y Q)) : Wp c x ⟨Γ, H⟩ (nxt c y Q) :=
  hx R h fun i g hi σ' him => fin_nxt (w_cut him (hk i g hi))

theorem rl_j {γ : Type} {l l' : List Oper} {Γ : Slots} {H Hc Hr : List Ent} (mod : ι → γ → Slots) (Hm : ι → γ → List Ent) (_hT : Takes H Hc Hr) {B : (ι → Option β) → Option β} {R : ι → Option β} (h : jp B R = some r) (n : Nat) (_hl : l.drop n = l')
    (hk : ∀ i g, R i = some r → Rl c ops l' ⟨mod i g ++ Γ, Hm i g ++ Hr⟩ Q)
    (hx : ∀ J : ι → Option β, B J = some r → (∀ i g, J i = some r → ∀ σ', Imp σ' ⟨mod i g ++ Γ, Hm i g ++ Hr⟩ → Rl c ops l' σ' Q) → Rl c ops l ⟨Γ, H⟩ Q) : Rl c ops l ⟨Γ, H⟩ Q :=
  hx R h fun i g hi σ' him => fun k hk' S a w m => hk i g hi k hk' S a w (m.weak him)

theorem rd_j {γ : Type} {l l' : Ord} {Γ : Slots} {H Hc Hr : List Ent} (mod : ι → γ → Slots) (Hm : ι → γ → List Ent) (_hT : Takes H Hc Hr) {B : (ι → Option β) → Option β} {R : ι → Option β} (h : jp B R = some r) (n : Nat) (_hl : l.drop n = l')
    (hk : ∀ i g, R i = some r → Rd c ops l' ⟨mod i g ++ Γ, Hm i g ++ Hr⟩ Q)
    (hx : ∀ J : ι → Option β, B J = some r → (∀ i g, J i = some r → ∀ σ', Imp σ' ⟨mod i g ++ Γ, Hm i g ++ Hr⟩ → Rd c ops l' σ' Q) → Rd c ops l ⟨Γ, H⟩ Q) : Rd c ops l ⟨Γ, H⟩ Q :=
  hx R h fun i g hi σ' him => fun S a w m => hk i g hi S a w (m.weak him)

theorem w_lp {γ : Type} {x : Code} {Γ : Slots} {H Hr : List Ent} (mod : ι → γ → Slots) (Hm : ι → γ → List Ent) {F : (ι → Option β) → ι → Option β} {i0 : ι} (h : lp F i0 = some r) (g0 : γ)
    (hm : mods Γ (mod i0 g0)) (hT : Takes H (Hm i0 g0) Hr)
    (hx : ∀ (L : ι → Option β) (i : ι) (g : γ) (Q' : Exit → Act → World → Prop), F L i = some r → (∀ j g', L j = some r → ∀ σ', Imp σ' ⟨mod j g' ++ Γ, Hm j g' ++ Hr⟩ → Fin c σ' Q') → (∀ id σ', Exi c id σ' Q → Exi c id σ' Q') → (∀ σ', Ret c σ' Q → Ret c σ' Q') → Wp c x ⟨mod i g ++ Γ, Hm i g ++ Hr⟩ Q') : Wp c (.loop x) ⟨Γ, H⟩ Q := by
  refine w_loop (ι := Nat × ι × γ) (fun p => lpN F p.1 p.2.1 = some r) (fun p => ⟨mod p.2.1 p.2.2 ++ Γ, Hm p.2.1 p.2.2 ++ Hr⟩) (fun p => p.1) (fuel, i0, g0) h (join_imp 0 rfl rfl hm (takes_all hT)) ?_
  rintro ⟨n, i, g⟩ hI
  cases n with
  | zero => cases hI
  | succ n =>
    exact hx (lpN F n) i g _ hI (fun j g' hj σ' him => fin_loop (n, j, g') hj (Nat.lt_succ_self n) him) (fun id σ' he => exi_loop he) (fun σ' hr => ret_loop hr)

theorem upd_imm {α : Type} [Rep α] {Γ : Slots} {H Hr : List Ent} {b : Nat} {y : α} (i : Nat) (hp : Pick (boxE b y) H Hr) (hi : look Γ i = some (ptrv b (Fld.id α))) : Upd c ⟨Γ, H⟩ ⟨(i, immv y) :: Γ, Hr⟩ := fun S a w m => by
  have hs : (boxE b y).sat S w := m.owns.get hp
  obtain ⟨o, ho, hnone, cs, T', e, hr⟩ := hs
  subst e
  have hle : S.le (S.put b cs.toList) := fun j d hj => by
    have hne : j ≠ b := by rintro rfl; rw [hnone] at hj; cases hj
    exact ⟨d, by unfold Frz.put; rw [if_neg hne]; exact hj, List.prefix_refl _⟩
  have hst : Step (keys [boxE b y]) S (S.put b cs.toList) w w := by
    refine ⟨Keep.refl _ _, ⟨hle, fun j _ hj => by unfold Frz.put; rw [if_neg (by simpa [keys, boxE] using hj)]⟩, fun j d hj => ?_⟩
    unfold Frz.put at hj
    split at hj
    · cases hj
      rename_i ej; subst ej
      exact ⟨cs, T', (0, 0), ho, List.prefix_refl _⟩
    · exact m.sub j d hj
  have m' := m.step (Hc := [boxE b y]) (H' := []) (Takes.cons hp .nil) hst (owns_nil _ _ _ _)
  refine ⟨S.put b cs.toList, hle, m'.size, m'.dfr, m'.sub, m'.keep, m'.grow, fun j R hj => ?_, m'.owns, m'.pins⟩
  unfold look at hj
  cases hk : Nat.beq i j with
  | true =>
    rw [hk] at hj
    have e : i = j := Nat.eq_of_beq_eq_true hk
    subst e
    cases hj
    obtain ⟨v, h1, h2⟩ := m'.env i _ hi
    have h2' : v = .pointer (some ⟨b, 0, none⟩) := h2
    exact ⟨v, h1, ⟨b, 0, none⟩, cs.toList, h2', ⟨rfl, cs.toList, by show (if b = b then _ else _) = _; rw [if_pos rfl], fun j u hj => by simpa using hj⟩, Rep.mono hle hr⟩
  | false => rw [hk] at hj; exact m'.env j R hj

theorem w_pinN {α β : Type} [Rep α] [Rep β] {P : Program} {n : Nat} {w0 : World} {S0 : Frz} {M : List Nat} {pin : List (Nat × Obj)} {code : Code} {Γ : Slots} {H Hr : List Ent} {b : Nat} {L : Fld α β} {x : α} (i : Nat) (hp : Pick (boxE b x) H Hr) (hi : look Γ i = some (ptrv b L))
    (k : ∀ o, b ∉ pin.map (·.1) → Wp ⟨P, n, w0, S0, M, (b, o) :: pin⟩ code ⟨(i, pinv o b L x) :: Γ, Hr⟩ Q) : Wp ⟨P, n, w0, S0, M, pin⟩ code ⟨Γ, H⟩ Q := fun S a w m => by
  refine w_pin hp hi (fun o => k o fun hb => ?_) S a w m
  obtain ⟨y, hy, rfl⟩ := List.mem_map.1 hb
  refine (m.pins y hy).2.2.1 ?_
  have hkp := keys_perm hp.perm
  exact hkp.mem_iff.2 (by simp [keys, boxE])
theorem fin_unpinN {α β : Type} [Rep α] [Rep β] {P : Program} {n : Nat} {w0 : World} {S0 : Frz} {M : List Nat} {pin : List (Nat × Obj)} {Γ : Slots} {H : List Ent} {b : Nat} {L : Fld α β} {x : α} {o : Obj} (i : Nat) (hnd : b ∉ pin.map (·.1)) (hi : look Γ i = some (pinv o b L x))
    (k : Fin ⟨P, n, w0, S0, M, pin⟩ ⟨(i, ptrv b L) :: Γ, boxE b x :: H⟩ Q) : Fin ⟨P, n, w0, S0, M, (b, o) :: pin⟩ ⟨Γ, H⟩ Q := fin_unpin hnd hi k

section ops
variable {ty : TypeId} {pos : String} {af : Array Edge} {g : Option (Nat × Bool)} {σ : St} {d : Option Nat}
theorem v_lpC {α β : Type} [Rep α] [Rep β] {b : Nat} {L : Fld α β} {y : α} {R : VP} {x : Operand} {T : TypeId} {o : Obj} (ht : TyB c.P T (Rep.n β) (Rep.agg β) = true) (hx : opnd σ.Γ x = some (pinv o b L y))
    (hp : (b, o) ∈ c.pin) (hc : ∀ S v, (isv (L.get y)).p S v → R.p S v) : OpV c ⟨d, .load T x, ty, pos, af, g⟩ σ R := fun S a w m => by
  obtain ⟨v, hv, hr⟩ := v_loadP (d := d) (ty := ty) (pos := pos) (af := af) (g := g) ht hx hp S a w m
  exact ⟨v, hc _ _ hv, hr⟩
theorem v_liC {α : Type} [Rep α] {y : α} {R : VP} {x : Operand} {T : TypeId} (ht : TyB c.P T (Rep.n α) (Rep.agg α) = true) (hx : opnd σ.Γ x = some (immv y)) (hc : ∀ S v, (isv y).p S v → R.p S v) :
    OpV c ⟨d, .load T x, ty, pos, af, g⟩ σ R := fun S a w m => by
  obtain ⟨v, hv, hr⟩ := v_loadI (d := d) (ty := ty) (pos := pos) (af := af) (g := g) ht hx S a w m
  exact ⟨v, hc _ _ hv, hr⟩
theorem v_nilV {α β : Type} [Rep α] [Rep β] {t : Vt} {i : Nat} {L : Fld α β} {x : Operand} (hx : opnd σ.Γ x = some (veltv t i L)) : OpV c ⟨d, .nilCheck x, ty, pos, af, g⟩ σ (veltv t i L) := fun S a w m => by
  obtain ⟨b, cap, h1, h2⟩ := opnd_sound m hx
  exact ⟨_, ⟨b, cap, h1, rfl⟩, fun w' _ => by simp [execOp, h2]⟩
end ops

theorem upd_drop {Γ : Slots} {H Hr : List Ent} {e : Ent} (hp : Pick e H Hr) : Upd c ⟨Γ, H⟩ ⟨Γ, Hr⟩ := fun S a w m => ⟨S, S.le_refl, m.weak ⟨fun i R h => ⟨R, h, fun _ _ h => h⟩, [e], takes_pick hp⟩⟩
theorem Cv.vhe {S : Frz} {t : Vt} {n m : Nat} (e : n = m) : Cv S (Vh.mk t n) (Vh.mk t m) := fun _ h => e ▸ h
section vec
variable {ty : TypeId} {pos : String} {af : Array Edge} {g : Option (Nat × Bool)}
theorem t_vappF {Γ : Slots} {H : List Ent} {α : Type} [Rep α] {x y : Operand} {t : Vt} {n : Nat} {l m : List α} {R : VP} {T U : TypeId} {dd : Nat} {K : St → Prop} {Hr : List Ent} (hT : appB c.P T U (Rep.n α) = true)
    (hx : opnd Γ x = some (vecv t n)) (hy : opnd Γ y = some R) (hc : ∀ S v, R.p S v → (isv m).p S v) (hp : Pick (vecE t l) H Hr) (hnl : n = l.length)
    (hb : Nat.ble (l.length + m.length) 68719476736 = true)
    (k : ∀ t', K ⟨(dd, vecv t' (l ++ m).length) :: Γ, vecE t' (l ++ m) :: Hr⟩) (hd : Nat.blt dd c.n = true := by rfl) :
    OpT c ⟨some dd, .call ⟨.builtin .append, #[x, y], #[T, U]⟩, ty, pos, af, g⟩ ⟨Γ, H⟩ K := by
  subst hnl
  exact t_vapp hT hx hy hc hp (Nat.le_refl _) hb (fun t' => by rw [List.take_length]; exact k t') hd
theorem upd_frzF {α : Type} [Rep α] {Γ : Slots} {H Hr : List Ent} {t : Vt} {n : Nat} {l : List α} (i : Nat) (hp : Pick (vecE t l) H Hr) (hi : look Γ i = some (vecv t n)) (hn : n = l.length) : Upd c ⟨Γ, H⟩ ⟨(i, isv l) :: Γ, Hr⟩ := by
  have := upd_frz (c := c) i hp hi (by omega)
  rw [hn, List.take_length] at this
  exact this
end vec
section more
variable {ty : TypeId} {pos : String} {af : Array Edge} {g : Option (Nat × Bool)} {σ : St} {d : Option Nat}
theorem v_uu {x : Operand} {u : UInt64} {T U : TypeId} {k : IntKind} (hT : c.P.underlying T = some (.int k)) (hU : c.P.underlying U = some (.int .u64)) (hx : opnd σ.Γ x = some (isv u)) :
    OpV c ⟨d, .convert T U x, ty, pos, af, g⟩ σ (isv u) := fun S a w m => by
  have h1 := isv_u64.1 (opnd_sound m hx)
  have h := u.toNat_lt
  exact ⟨.int .u64 u.toNat, isv_u64.2 rfl, fun w' _ => by
    have e : ((u.toNat : Nat) : Int) % 18446744073709551616 = (u.toNat : Int) := by omega
    simp [execOp, convert, underlying, hT, hU, h1, Conv.intToInt, wrap_u64, e]⟩
theorem v_u8i {x : Operand} {u : UInt8} {T U : TypeId} {k : IntKind} (hT : c.P.underlying T = some (.int k)) (hU : c.P.underlying U = some (.int .i64)) (hx : opnd σ.Γ x = some (isv u)) :
    OpV c ⟨d, .convert T U x, ty, pos, af, g⟩ σ (isv (u.toNat : Int)) := fun S a w m => by
  have h1 := isv_u8.1 (opnd_sound m hx)
  have h := u.toNat_lt
  have hb : inI64 (u.toNat : Int) := in_mk (by omega) (by omega)
  exact ⟨.int .i64 u.toNat, isv_int.2 ⟨rfl, hb⟩, fun w' _ => by
    simp [execOp, convert, underlying, hT, hU, h1, Conv.intToInt, wrap_i64 hb]⟩
theorem v_remI {x y : Operand} {T U : TypeId} {p q : Int} (hx : opnd σ.Γ x = some (isv p)) (hy : opnd σ.Γ y = some (isv q)) (hq : (!decide (q = 0)) = true) : OpV c ⟨d, .binOp .rem T x y U, ty, pos, af, g⟩ σ (isv (p.tmod q)) := fun S a w m => by
  obtain ⟨h1, hp⟩ := isv_int.1 (opnd_sound m hx)
  obtain ⟨h2, _⟩ := isv_int.1 (opnd_sound m hy)
  have hq0 : ¬ q = 0 := by simpa using hq
  have hb : inI64 (p.tmod q) := by
    unfold inI64 at hp ⊢
    have h3 : (p.tmod q).natAbs ≤ p.natAbs := by rw [Int.natAbs_tmod]; exact Nat.mod_le _ _
    rcases Int.le_total 0 p with h4 | h4
    · have := Int.tmod_nonneg q h4; omega
    · have h5 : p.tmod q ≤ 0 := by
        have h6 : p = -(-p) := by omega
        rw [h6, Int.neg_tmod]
        have := Int.tmod_nonneg (a := -p) q (by omega)
        omega
      omega
  exact ⟨.int .i64 (p.tmod q), isv_int.2 ⟨rfl, hb⟩, fun w' _ => by
    have hr : (Op.intDiv .rem .i64 p q).run c.P w' = .ok (.int .i64 (p.tmod q)) w' := by
      unfold Op.intDiv; rw [if_neg hq0]; rfl
    simp [execOp, binOp, eqGuard, h1, h2, hr]⟩
theorem v_lenN' {x : Operand} {T n : Nat} {agg : Bool} (hT : SlB c.P T n agg = true) (hx : opnd σ.Γ x = some nilv) :
    OpV c ⟨d, .call ⟨.builtin .len, #[x], #[T]⟩, ty, pos, af, g⟩ σ (isv (0 : Int)) := fun S a w m => by
  have h1 : a.eval x = .slice none 0 0 := opnd_sound m hx
  exact ⟨.int .i64 0, isv_int.2 ⟨rfl, in_mk (by omega) (by omega)⟩, fun w' _ => by
    simp [execOp, resolve, invoke, builtin, h1, run_len hT]⟩
end more

theorem isvL {α : Type} [Rep α] {x y : α} (e : x = y) (S : Frz) (v : Value) (h : (isv x).p S v) : (isv y).p S v := e ▸ h
theorem ptr_ret {P : Program} {n : Nat} {w0 : World} {S0 : Frz} {H0 : List Ent} {σ : St} {fn : Func} {post : VP → List Ent → Prop} {Rs : List VP} {H' Hr : List Ent} (h : Results P σ fn.results.toList Rs) (ht : Takes σ.H H' Hr) (hp : post (oneOf Rs) H') :
    Ret ⟨P, n, w0, S0, keys H0, []⟩ σ (postQ P fn w0 S0 H0 post) := ret_post h ht hp
theorem some_inj {α : Type} {x y : α} (h : some x = some y) {g : Prop} (k : x = y → g) : g := k (Option.some.inj h)
end rules
end Go.Sy


namespace Go.Sy
section short
variable {c : Ctx} {ops : Array Oper} {Q : Exit → Act → World → Prop} {Γ : Slots} {H : List Ent} {σ : St}
theorem oT {o : Oper} {rest : List Oper} (h : OpT c o σ fun σ' => Rl c ops rest σ' Q) (hg : o.guard = none := by rfl) : Rl c ops (o :: rest) σ Q := op_cons hg h
theorem oV {d : Nat} {op : Op} {ty : TypeId} {pos : String} {af : Array Edge} {rest : List Oper} {R : VP} (h : OpV c ⟨some d, op, ty, pos, af, none⟩ ⟨Γ, H⟩ R) (k : Rl c ops rest ⟨(d, R) :: Γ, H⟩ Q) (hd : Nat.blt d c.n = true := by rfl) : Rl c ops (⟨some d, op, ty, pos, af, none⟩ :: rest) ⟨Γ, H⟩ Q :=
  op_cons rfl (OpV.t h k hd)
theorem wsr {id : Nat} {y : Code} (h : Rl c ops ops.toList σ (nxt c y Q)) : Wp c (.seq (.region id ops false) y) σ Q := w_seq (w_region h)
theorem rnf {y : Code} (h : Wp c y σ Q) : Rl c ops [] σ (nxt c y Q) := rl_nil (fin_nxt h)
theorem wkf {y : Code} (h : Wp c y σ Q) : Wp c .skip σ (nxt c y Q) := w_skip (fin_nxt h)
end short
end Go.Sy


namespace Go.Sy

/-! ### Pins of owned lists -/
def pinV (t : Vt) (o : Obj) (pin : List (Nat × Obj)) : List (Nat × Obj) := match t with
  | none => pin
  | some x => (x.1, o) :: pin
def Pm (pin : List (Nat × Obj)) (t : Vt) (o : Obj) : Prop := ∀ b cap, t = some (b, cap) → (b, o) ∈ pin
theorem pm_here {t : Vt} {o : Obj} {pin : List (Nat × Obj)} : Pm (pinV t o pin) t o := fun b cap e => by subst e; exact .head _
theorem pm_tail {t : Vt} {o : Obj} {x : Nat × Obj} {pin : List (Nat × Obj)} (h : Pm pin t o) : Pm (x :: pin) t o := fun b cap e => .tail _ (h b cap e)
theorem mem_pv {t : Vt} {o : Obj} {x : Nat × Obj} {pin : List (Nat × Obj)} (h : x ∈ pin) : x ∈ pinV t o pin := by
  cases t with
  | none => exact h
  | some t => exact .tail _ h
theorem pm_pv {t t' : Vt} {o o' : Obj} {pin : List (Nat × Obj)} (h : Pm pin t o) : Pm (pinV t' o' pin) t o := fun b cap e => mem_pv (h b cap e)
def VHold {α : Type} [Rep α] (t : Vt) (o : Obj) (S : Frz) (l : List α) : Prop := ∀ b cap, t = some (b, cap) → ∃ cs T, o = .cells cs T (0, 0) ∧ cs.size = cap * Rep.n α ∧ l.length ≤ cap ∧ rdL (Rep.rd S) l (cs.toList.take (l.length * Rep.n α))
/-- The head of a pinned owned list. -/
def pvecv {α : Type} [Rep α] (o : Obj) (t : Vt) (l : List α) : VP where
  p := fun S v => (vecv t l.length).p S v ∧ VHold t o S l
  mono := fun h ⟨h1, h2⟩ => ⟨(vecv t l.length).mono h h1, fun b cap e => by
    obtain ⟨cs, T, h3, h4, h5, h6⟩ := h2 b cap e
    exact ⟨cs, T, h3, h4, h5, rdL_mono (fun _ _ => Rep.mono h) h6⟩⟩
/-- A place of a pinned owned list, or a part of it, that holds y. -/
def pev {β : Type} [Rep β] (o : Obj) (t : Vt) (y : β) : VP where
  p := fun S v => ∃ b cap off, t = some (b, cap) ∧ v = .pointer (some ⟨b, off, none⟩) ∧ ∃ cs T, o = .cells cs T (0, 0) ∧ Rep.rd S ((cs.toList.drop off).take (Rep.n β)) y
  mono := fun h ⟨b, cap, off, h1, h2, cs, T, h3, h4⟩ => ⟨b, cap, off, h1, h2, cs, T, h3, Rep.mono h h4⟩

theorem w_pinV {α : Type} [Rep α] {Q : Exit → Act → World → Prop} {P : Program} {n : Nat} {w0 : World} {S0 : Frz} {M : List Nat} {pin : List (Nat × Obj)} {code : Code} {Γ : Slots} {H Hr : List Ent} {t : Vt} {m : Nat} {l : List α} (i : Nat) (hp : Pick (vecE t l) H Hr) (hi : look Γ i = some (vecv t m)) (hm : m = l.length)
    (k : ∀ o, (∀ b cap, t = some (b, cap) → b ∉ pin.map (·.1)) → Wp ⟨P, n, w0, S0, M, pinV t o pin⟩ code ⟨(i, pvecv o t l) :: Γ, Hr⟩ Q) : Wp ⟨P, n, w0, S0, M, pin⟩ code ⟨Γ, H⟩ Q := fun S a w mm => by
  subst hm
  have hs : (vecE t l).sat S w := mm.owns.get hp
  have hperm := hp.perm
  have hkp := keys_perm hperm
  have henv : ∀ o, VHold t o S l → ∀ j R, look ((i, pvecv o t l) :: Γ) j = some R → ∃ v, a.tmps[j]? = some v ∧ R.p S v := fun o ho j R hj => by
    obtain ⟨v, hv, hvr⟩ := mm.env i _ hi
    unfold look at hj
    cases hk : Nat.beq i j with
    | true =>
      rw [hk] at hj
      have e' : i = j := Nat.eq_of_beq_eq_true hk
      subst e'
      cases hj
      exact ⟨v, hv, hvr, ho⟩
    | false => rw [hk] at hj; exact mm.env j R hj
  cases t with
  | none =>
    have hkc : keys (vecE none l :: Hr) = keys Hr := by simp [keys, vecE]
    rw [hkc] at hkp
    refine k (.cells #[] 0 (0, 0)) (fun b cap e => by cases e) S a w ⟨mm.size, mm.dfr, mm.sub, mm.keep, mm.grow, henv _ (fun b cap e => by cases e), ⟨fun e he => mm.owns.sat e (hperm.mem_iff.2 (List.mem_cons_of_mem _ he)), hkp.nodup_iff.1 mm.owns.nodup, fun b' hb' => mm.owns.own b' (hkp.mem_iff.2 hb')⟩, fun y hy => ?_⟩
    obtain ⟨h1, h2, h3, h4⟩ := mm.pins y hy
    exact ⟨h1, h2, fun h5 => h3 (hkp.mem_iff.2 h5), h4⟩
  | some t =>
    obtain ⟨b, cap⟩ := t
    obtain ⟨o, ho, hnone, cs, T, e, h1, h2, h3⟩ := hs
    have hkc : keys (vecE (some (b, cap)) l :: Hr) = b :: keys Hr := by simp [keys, vecE]
    rw [hkc] at hkp
    have hnd := hkp.nodup_iff.1 mm.owns.nodup
    refine k o (fun b' cap' e' hb => ?_) S a w ⟨mm.size, mm.dfr, mm.sub, mm.keep, mm.grow, henv _ (fun b' cap' e' => by cases e'; exact ⟨cs, T, e, h1, h2, h3⟩), ⟨fun e he => mm.owns.sat e (hperm.mem_iff.2 (List.mem_cons_of_mem _ he)), (List.nodup_cons.1 hnd).2, fun b' hb' => mm.owns.own b' (hkp.mem_iff.2 (List.mem_cons_of_mem _ hb'))⟩, fun y hy => ?_⟩
    · cases e'
      obtain ⟨y, hy, he⟩ := List.mem_map.1 hb
      exact (mm.pins y hy).2.2.1 (he ▸ hkp.mem_iff.2 (List.mem_cons_self ..))
    · rcases List.mem_cons.1 hy with h | h
      · subst h
        exact ⟨ho, hnone, (List.nodup_cons.1 hnd).1, mm.owns.own b (hkp.mem_iff.2 (List.mem_cons_self ..))⟩
      · obtain ⟨k1, k2, k3, k4⟩ := mm.pins y h
        exact ⟨k1, k2, fun h5 => k3 (hkp.mem_iff.2 (List.mem_cons_of_mem _ h5)), k4⟩

theorem fin_unpinV {α : Type} [Rep α] {Q : Exit → Act → World → Prop} {P : Program} {n : Nat} {w0 : World} {S0 : Frz} {M : List Nat} {pin : List (Nat × Obj)} {Γ : Slots} {H : List Ent} {t : Vt} {l : List α} {o : Obj} (i : Nat) (hnd : ∀ b cap, t = some (b, cap) → b ∉ pin.map (·.1)) (hi : look Γ i = some (pvecv o t l))
    (k : Fin ⟨P, n, w0, S0, M, pin⟩ ⟨(i, vecv t l.length) :: Γ, vecE t l :: H⟩ Q) : Fin ⟨P, n, w0, S0, M, pinV t o pin⟩ ⟨Γ, H⟩ Q := fun S a w m => by
  obtain ⟨v, hv, hv1, hh⟩ := m.env i _ hi
  have henv : ∀ j R, look ((i, vecv t l.length) :: Γ) j = some R → ∃ v, a.tmps[j]? = some v ∧ R.p S v := fun j R hj => by
    unfold look at hj
    cases hk : Nat.beq i j with
    | true =>
      rw [hk] at hj
      have e' : i = j := Nat.eq_of_beq_eq_true hk
      subst e'
      cases hj
      exact ⟨v, hv, hv1⟩
    | false => rw [hk] at hj; exact m.env j R hj
  cases t with
  | none =>
    have hkc : keys (vecE none l :: H) = keys H := by simp [keys, vecE]
    refine k S a w ⟨m.size, m.dfr, m.sub, m.keep, m.grow, henv, ⟨fun e' he => ?_, by rw [hkc]; exact m.owns.nodup, fun b' hb' => m.owns.own b' (by rw [← hkc]; exact hb')⟩, fun y hy => ?_⟩
    · rcases List.mem_cons.1 he with h | h
      · subst h; trivial
      · exact m.owns.sat e' h
    · obtain ⟨h1, h2, h3, h4⟩ := m.pins y hy
      exact ⟨h1, h2, by rw [hkc]; exact h3, h4⟩
  | some t =>
    obtain ⟨b, cap⟩ := t
    obtain ⟨h1, h2, h3, h4⟩ := m.pins (b, o) (.head _)
    have hkc : keys (vecE (some (b, cap)) l :: H) = b :: keys H := by simp [keys, vecE]
    refine k S a w ⟨m.size, m.dfr, m.sub, m.keep, m.grow, henv, ⟨fun e' he => ?_, by rw [hkc]; exact List.nodup_cons.2 ⟨h3, m.owns.nodup⟩, fun b' hb' => ?_⟩, fun y hy => ?_⟩
    · rcases List.mem_cons.1 he with h | h
      · subst h
        obtain ⟨cs, T, e, q1, q2, q3⟩ := hh b cap rfl
        exact ⟨o, h1, h2, cs, T, e, q1, q2, q3⟩
      · exact m.owns.sat e' h
    · rw [hkc] at hb'
      rcases List.mem_cons.1 hb' with h | h
      · subst h; exact h4
      · exact m.owns.own b' h
    · obtain ⟨k1, k2, k3, k4⟩ := m.pins y (.tail _ hy)
      refine ⟨k1, k2, fun h => ?_, k4⟩
      rw [hkc] at h
      rcases List.mem_cons.1 h with h | h
      · exact hnd b cap rfl (List.mem_map.2 ⟨y, hy, h⟩)
      · exact k3 h

section ops
variable {c : Ctx} {ty : TypeId} {pos : String} {af : Array Edge} {g : Option (Nat × Bool)} {σ : St} {d : Option Nat}
theorem v_pvlen {α : Type} [Rep α] {x : Operand} {t : Vt} {l : List α} {o : Obj} {T m : Nat} {agg : Bool} (hT : SlB c.P T m agg = true) (hx : opnd σ.Γ x = some (pvecv o t l)) :
    OpV c ⟨d, .call ⟨.builtin .len, #[x], #[T]⟩, ty, pos, af, g⟩ σ (isv (l.length : Int)) := fun S a w m => by
  obtain ⟨⟨hn, h1⟩, _⟩ := opnd_sound m hx
  refine ⟨.int .i64 l.length, isv_int.2 ⟨rfl, by unfold inI64; unfold maxList at hn; omega⟩, fun w' _ => ?_⟩
  cases t with
  | none => obtain ⟨h1, h2⟩ := h1; rw [h2] at hn ⊢; simp [execOp, resolve, invoke, builtin, h1, run_len hT]
  | some t => simp only at h1; simp [execOp, resolve, invoke, builtin, h1, run_len hT]
theorem v_pvi {α : Type} [Rep α] {x i : Operand} {t : Vt} {l : List α} {o : Obj} {k : Int} {y : α} {T : Nat} (hT : SlB c.P T (Rep.n α) (Rep.agg α) = true) (hx : opnd σ.Γ x = some (pvecv o t l)) (hi : opnd σ.Γ i = some (isv k))
    (hy : getI l k = some y) : OpV c ⟨d, .indexAddr T x i, ty, pos, af, g⟩ σ (pev o t y) := fun S a w m => by
  obtain ⟨hk, hy⟩ := getI_inv hy
  obtain ⟨⟨hn, h1⟩, hh⟩ := opnd_sound m hx
  obtain ⟨h5, _⟩ := isv_int.1 (opnd_sound m hi)
  obtain ⟨e, hu, hte⟩ := SlB.spec hT
  have hlt := (List.getElem?_eq_some_iff.1 hy).1
  cases t with
  | none => obtain ⟨_, h2⟩ := h1; omega
  | some t =>
    obtain ⟨b, cap⟩ := t
    simp only at h1
    obtain ⟨cs, T', eo, q1, q2, q3⟩ := hh b cap rfl
    have hb : 0 ≤ k ∧ k < (l.length : Int) := ⟨hk, by omega⟩
    refine ⟨.pointer (some ⟨b, k.toNat * Rep.n α, none⟩), ⟨b, cap, _, rfl, rfl, cs, T', eo, ?_⟩, fun w' _ => by
      simp [execOp, h1, h5, Instr.indexAt, asIntOf, underlying, hu, hb, TyB.size hte, add_none]⟩
    have h9 := rdL_get (r := Rep.rd S) (fun _ _ h => Rep.len h) q3 hy
    have hfit1 : k.toNat * Rep.n α + Rep.n α ≤ l.length * Rep.n α := by rw [← Nat.succ_mul]; exact Nat.mul_le_mul_right _ hlt
    rw [List.drop_take, List.take_take, Nat.min_eq_left (by omega)] at h9
    exact h9
theorem v_pvf {β γ : Type} [Rep β] [Rep γ] {y : β} {z : γ} {t : Vt} {o : Obj} {x : Operand} {T f : Nat} (hx : opnd σ.Γ x = some (pev o t y)) (M : Fld β γ) (hf : FldB c.P T f M.off (Rep.n γ) (Rep.agg γ) = true) (hz : M.get y = z) :
    OpV c ⟨d, .fieldAddr T x f, ty, pos, af, g⟩ σ (pev o t z) := fun S a w m => by
  subst hz
  obtain ⟨b, cap, off, h1, h2, cs, T', h3, h4⟩ := opnd_sound m hx
  refine ⟨.pointer (some ⟨b, off + M.off, none⟩), ⟨b, cap, off + M.off, h1, rfl, cs, T', h3, ?_⟩, fun w' _ => by simp [execOp, h2, run_fieldAt hf, add_none]⟩
  have h5 := M.rget h4
  rw [take_mid _ _ _ _ _ M.fits] at h5
  exact h5
theorem v_pvl {β : Type} [Rep β] {y : β} {t : Vt} {o : Obj} {x : Operand} {T : TypeId} (ht : TyB c.P T (Rep.n β) (Rep.agg β) = true) (hx : opnd σ.Γ x = some (pev o t y)) (hp : Pm c.pin t o) : OpV c ⟨d, .load T x, ty, pos, af, g⟩ σ (isv y) := fun S a w m => by
  obtain ⟨b, cap, off, h1, h2, cs, T', h3, h4⟩ := opnd_sound m hx
  subst h3
  obtain ⟨v, hv, hrun⟩ := run_loadVar (ad := ⟨b, off, none⟩) ht h4
  refine ⟨v, hv, fun w' hw' => ?_⟩
  simp only [execOp, h2, Instr.loadAt, Instr.sureAddr]
  have h5 := hrun w' fun i u hi => by
    rw [add_none]
    unfold World.cell?
    rw [hw'.2 _ (hp b cap h1)]
    simp only
    rw [List.getElem?_take] at hi
    split at hi
    · rw [List.getElem?_drop] at hi
      simpa using hi
    · cases hi
  simp [h5]
theorem v_pvn {β : Type} [Rep β] {y : β} {t : Vt} {o : Obj} {x : Operand} (hx : opnd σ.Γ x = some (pev o t y)) : OpV c ⟨d, .nilCheck x, ty, pos, af, g⟩ σ (pev o t y) := fun S a w m => by
  obtain ⟨b, cap, off, h1, h2, h3⟩ := opnd_sound m hx
  exact ⟨_, ⟨b, cap, off, h1, rfl, h3⟩, fun w' _ => by simp [execOp, h2]⟩

/-! ### Numbers -/
theorem v_quoI {x y : Operand} {T U : TypeId} {p q : Int} (hx : opnd σ.Γ x = some (isv p)) (hy : opnd σ.Γ y = some (isv q)) (hq : (!decide (q = 0)) = true) (hb : inI64 (p.tdiv q)) : OpV c ⟨d, .binOp .quo T x y U, ty, pos, af, g⟩ σ (isv (p.tdiv q)) := fun S a w m => by
  obtain ⟨h1, hp⟩ := isv_int.1 (opnd_sound m hx)
  obtain ⟨h2, _⟩ := isv_int.1 (opnd_sound m hy)
  have hq0 : ¬ q = 0 := by simpa using hq
  exact ⟨.int .i64 (p.tdiv q), isv_int.2 ⟨rfl, hb⟩, fun w' _ => by
    have hr : (Op.intDiv .quo .i64 p q).run c.P w' = .ok (.int .i64 (p.tdiv q)) w' := by
      unfold Op.intDiv; rw [if_neg hq0]; simp only [wrap_i64 hb]; rfl
    simp [execOp, binOp, eqGuard, h1, h2, hr]⟩
theorem v_shr64 {x y : Operand} {t u : TypeId} {p q : UInt64} (hx : opnd σ.Γ x = some (isv p)) (hy : opnd σ.Γ y = some (isv q)) (hn : q.toNat < 64) : OpV c ⟨d, .binOp .shr t x y u, ty, pos, af, g⟩ σ (isv (p >>> q)) := fun S a w m => by
  have h1 := isv_u64.1 (opnd_sound m hx)
  have h2 := isv_u64.1 (opnd_sound m hy)
  have e : (((p >>> q).toNat : Nat) : Int) = ((p.toNat : Int)).fdiv (2 ^ q.toNat) := by
    rw [UInt64.toNat_shiftRight, Nat.mod_eq_of_lt hn, Nat.shiftRight_eq_div_pow, Int.fdiv_eq_ediv_of_nonneg _ (Int.pow_nonneg (by decide))]
    simp
  have hmin : min q.toNat 64 = q.toNat := Nat.min_eq_left (by omega)
  exact ⟨.int .u64 ((p >>> q).toNat : Int), isv_u64.2 rfl, fun w' _ => by
    rw [e]
    simp [execOp, binOp, eqGuard, h1, h2, Op.shift, IntKind.bits, hmin]
    exact (Int.fdiv_eq_ediv_of_nonneg _ (Int.pow_nonneg (by decide))).symm⟩
theorem v_min {x y : Operand} {p q : Int} {T1 T2 : TypeId} (hx : opnd σ.Γ x = some (isv p)) (hy : opnd σ.Γ y = some (isv q)) : OpV c ⟨d, .call ⟨.builtin .min, #[x, y], #[T1, T2]⟩, ty, pos, af, g⟩ σ (isv (min p q)) := fun S a w m => by
  obtain ⟨h1, k1⟩ := isv_int.1 (opnd_sound m hx)
  obtain ⟨h2, k2⟩ := isv_int.1 (opnd_sound m hy)
  refine ⟨.int .i64 (min p q), isv_int.2 ⟨rfl, by unfold inI64 at *; omega⟩, fun w' _ => ?_⟩
  simp [execOp, resolve, invoke, builtin, Builtin.min_, h1, h2, Builtin.min2]
  split <;> omega
theorem v_max {x y : Operand} {p q : Int} {T1 T2 : TypeId} (hx : opnd σ.Γ x = some (isv p)) (hy : opnd σ.Γ y = some (isv q)) : OpV c ⟨d, .call ⟨.builtin .max, #[x, y], #[T1, T2]⟩, ty, pos, af, g⟩ σ (isv (max p q)) := fun S a w m => by
  obtain ⟨h1, k1⟩ := isv_int.1 (opnd_sound m hx)
  obtain ⟨h2, k2⟩ := isv_int.1 (opnd_sound m hy)
  refine ⟨.int .i64 (max p q), isv_int.2 ⟨rfl, by unfold inI64 at *; omega⟩, fun w' _ => ?_⟩
  simp [execOp, resolve, invoke, builtin, Builtin.max_, h1, h2, Builtin.max2]
  split <;> omega
end ops
end Go.Sy


namespace Go.Sy

structure GAcc where
  lo : UInt8
  hi : UInt8
abbrev GAcc.to (x : GAcc) : UInt8 × UInt8 := (x.lo, x.hi)
instance : Rep GAcc := Rep.iso GAcc.to
@[reducible] def GAcc.f0 : Fld GAcc (UInt8) := Fld.of GAcc.to pf0 (fun x => x.lo) (fun x y => { x with lo := y }) (fun _ => rfl) (fun _ _ => rfl)
@[reducible] def GAcc.f1 : Fld GAcc (UInt8) := Fld.of GAcc.to pl1 (fun x => x.hi) (fun x y => { x with hi := y }) (fun _ => rfl) (fun _ _ => rfl)
@[reducible] def GAcc.zero : GAcc := ⟨0, 0⟩

def tab1 (x : UInt8) : UInt8 := UInt8.ofNat (Lib.firstT x.toNat)
def tab2 (x : UInt8) : GAcc := ⟨UInt8.ofNat (Lib.accLo x.toNat), UInt8.ofNat (Lib.accHi x.toNat)⟩
theorem tab1_nat (x : UInt8) : (tab1 x).toNat = Lib.firstT x.toNat := by
  unfold tab1
  rw [UInt8.toNat_ofNat']
  refine Nat.mod_eq_of_lt ?_
  unfold Lib.firstT
  repeat' split
  all_goals decide
theorem accLo_lt (i : Nat) : Lib.accLo i < 256 := by unfold Lib.accLo; repeat' split
                                                     all_goals decide
theorem accHi_lt (i : Nat) : Lib.accHi i < 256 := by unfold Lib.accHi; repeat' split
                                                     all_goals decide

/-- A place of the table utf8.first, of utf8.acceptRanges. -/
def t1v (P : Program) (x : UInt8) : VP where
  p := fun _ v => ∃ g, P.globals.findIdx? (·.name == "unicode/utf8.first") = some g ∧ v = .pointer (some ⟨g, x.toNat, none⟩)
  mono := fun _ h => h
def t2v (P : Program) (x : UInt8) : VP where
  p := fun _ v => ∃ g, P.globals.findIdx? (·.name == "unicode/utf8.acceptRanges") = some g ∧ v = .pointer (some ⟨g, 2 * x.toNat, none⟩)
  mono := fun _ h => h
/-- Is it an array type of so many, each of so many cells? -/
def ArrB (P : Program) (T len n : Nat) (agg : Bool) : Bool :=
  match P.underlying T with
  | some (.array l e) => l == len && TyB P e n agg
  | _ => false
theorem ArrB.spec {P : Program} {T len n : Nat} {agg : Bool} (h : ArrB P T len n agg = true) : ∃ e, P.underlying T = some (.array len e) ∧ TyB P e n agg = true := by
  unfold ArrB at h
  split at h
  · rename_i l e hu
    simp only [Bool.and_eq_true, beq_iff_eq] at h
    obtain ⟨rfl, h2⟩ := h
    exact ⟨e, hu, h2⟩
  · cases h
section ops
variable {c : Ctx} {ty : TypeId} {pos : String} {af : Array Edge} {gd : Option (Nat × Bool)} {σ : St} {d : Option Nat}
theorem v_t1 {x : Operand} {k : UInt8} {T g : Nat} (hg : c.P.globals.findIdx? (·.name == "unicode/utf8.first") = some g) (hT : ArrB c.P T 256 1 false = true) (hx : opnd σ.Γ x = some (isv k)) :
    OpV c ⟨d, .indexAddr T (.global g) x, ty, pos, af, gd⟩ σ (t1v c.P k) := fun S a w m => by
  have h1 := isv_u8.1 (opnd_sound m hx)
  obtain ⟨e, hu, hte⟩ := ArrB.spec hT
  have hlt := k.toNat_lt
  refine ⟨.pointer (some ⟨g, k.toNat, none⟩), ⟨g, hg, rfl⟩, fun w' _ => ?_⟩
  have hb : (k.toNat : Int) < 256 := by omega
  have hg2 : a.eval (.global g) = .pointer (some ⟨g, 0, none⟩) := rfl
  simp [execOp, h1, hg2, Instr.indexAt, asIntOf, underlying, hu, TyB.size hte, add_none, Instr.sureAddr, hb]
  intro h; omega
theorem v_t2 {x : Operand} {k : UInt8} {T g : Nat} (hg : c.P.globals.findIdx? (·.name == "unicode/utf8.acceptRanges") = some g) (hT : ArrB c.P T 16 2 true = true) (hx : opnd σ.Γ x = some (isv k)) (hk : Nat.blt k.toNat 16 = true) :
    OpV c ⟨d, .indexAddr T (.global g) x, ty, pos, af, gd⟩ σ (t2v c.P k) := fun S a w m => by
  have h1 := isv_u8.1 (opnd_sound m hx)
  obtain ⟨e, hu, hte⟩ := ArrB.spec hT
  have hlt : k.toNat < 16 := by simpa using hk
  refine ⟨.pointer (some ⟨g, 2 * k.toNat, none⟩), ⟨g, hg, rfl⟩, fun w' _ => ?_⟩
  have hb : (k.toNat : Int) < 16 := by omega
  have hg2 : a.eval (.global g) = .pointer (some ⟨g, 0, none⟩) := rfl
  simp [execOp, h1, hg2, Instr.indexAt, asIntOf, underlying, hu, TyB.size hte, add_none, Instr.sureAddr, hb, Nat.mul_comm]
  intro h; omega
theorem tabs_at (hT : Tabs c.P c.S0) {S : Frz} {a : Act} {w : World} (m : Models c σ S a w) {w' : World} (h : cls c S w') : TabsW c.P w' := hT.mono m.grow.le w' h.1
theorem v_t1l {x : Operand} {k : UInt8} {T : Nat} (hT : Tabs c.P c.S0) (ht : TyB c.P T 1 false = true) (hx : opnd σ.Γ x = some (t1v c.P k)) (g2 : Nat) (h2 : c.P.globals.findIdx? (·.name == "unicode/utf8.acceptRanges") = some g2) :
    OpV c ⟨d, .load T x, ty, pos, af, gd⟩ σ (isv (tab1 k)) := fun S a w m => by
  obtain ⟨g, hg, h1⟩ := opnd_sound m hx
  refine ⟨.int .u8 ((tab1 k).toNat : Int), isv_u8.2 rfl, fun w' hw' => ?_⟩
  obtain ⟨h3, _⟩ := tabs_at hT m hw' g g2 hg h2
  obtain ⟨v, hv, hrun⟩ := run_loadVar (α := UInt8) (S := S) (cs := [Value.int .u8 ((tab1 k).toNat : Int)]) (x := tab1 k) (ad := ⟨g, k.toNat, none⟩) ht rfl
  have h4 := hrun w' fun i u hi => by
    match i, hi with
    | 0, hi =>
      simp at hi; subst hi
      rw [add_none, tab1_nat]
      exact h3 _ k.toNat_lt
  simp only [execOp, h1, Instr.loadAt, Instr.sureAddr]
  have e := isv_u8.1 hv
  subst e
  simp [h4]
theorem v_t2l {x : Operand} {k : UInt8} {T : Nat} (hT : Tabs c.P c.S0) (ht : TyB c.P T 2 true = true) (hx : opnd σ.Γ x = some (t2v c.P k)) (hk : Nat.blt k.toNat 16 = true) (g1 : Nat) (h1 : c.P.globals.findIdx? (·.name == "unicode/utf8.first") = some g1) :
    OpV c ⟨d, .load T x, ty, pos, af, gd⟩ σ (isv (tab2 k)) := fun S a w m => by
  obtain ⟨g, hg, h2⟩ := opnd_sound m hx
  have hlt : k.toNat < 16 := by simpa using hk
  have hrd : Rep.rd S [Value.int .u8 (Lib.accLo k.toNat : Int), Value.int .u8 (Lib.accHi k.toNat : Int)] (tab2 k) := by
    refine ⟨[_], [_], rfl, ?_, ?_⟩
    · show _ = _
      unfold tab2
      rw [UInt8.toNat_ofNat', Nat.mod_eq_of_lt (accLo_lt _)]
    · show _ = _
      unfold tab2
      rw [UInt8.toNat_ofNat', Nat.mod_eq_of_lt (accHi_lt _)]
  obtain ⟨v, hv, hrun⟩ := run_loadVar (α := GAcc) (S := S) (x := tab2 k) (ad := ⟨g, 2 * k.toNat, none⟩) ht hrd
  refine ⟨v, hv, fun w' hw' => ?_⟩
  obtain ⟨_, h3⟩ := tabs_at hT m hw' g1 g h1 hg
  obtain ⟨h4, h5⟩ := h3 _ hlt
  have h6 := hrun w' fun i u hi => by
    match i, hi with
    | 0, hi => simp at hi; subst hi; rw [add_none]; exact h4
    | 1, hi => simp at hi; subst hi; rw [add_none]; exact h5
  simp only [execOp, h2, Instr.loadAt, Instr.sureAddr]
  simp [h6]
/-- A list, cut to so many, with no room behind. -/
theorem v_sl3 {α : Type} [Rep α] {x hi mx : Operand} {l : List α} {R : VP} {q : Int} {T : Nat} (hx : opnd σ.Γ x = some R) (hc : ∀ S v, R.p S v → (isv l).p S v) (hT : SlB c.P T (Rep.n α) (Rep.agg α) = true)
    (hhi : opnd σ.Γ hi = some (isv q)) (hmx : opnd σ.Γ mx = some (isv q)) (hq0 : 0 ≤ q) (hq : q ≤ l.length) : OpV c ⟨d, .slice T x none (some hi) (some mx), ty, pos, af, gd⟩ σ (isv (l.take q.toNat)) := fun S a w m => by
  obtain ⟨p, cap, h1, h2, h3, h4⟩ := isv_list.1 (hc _ _ (opnd_sound m hx))
  obtain ⟨e, hu, hte⟩ := SlB.spec hT
  have hlen : (l.take q.toNat).length = q.toNat := by rw [List.length_take]; omega
  have b1 : ∀ (w' : World) (code : BoundsCode), (Instr.sliceBound (a.eval mx) cap code).run c.P w' = .ok q.toNat w' := fun w' code => by
    rw [(isv_int.1 (opnd_sound m hmx)).1]; exact sliceBound_ok (by omega) (by omega)
  have b2 : ∀ (w' : World) (code : BoundsCode), (Instr.sliceBound (a.eval hi) q.toNat code).run c.P w' = .ok q.toNat w' := fun w' code => by
    rw [(isv_int.1 (opnd_sound m hhi)).1]; exact sliceBound_ok (by omega) (by omega)
  refine ⟨.slice (if q.toNat = 0 then p else p.map (·.add 0)) q.toNat q.toNat, isv_list.2 ⟨_, q.toNat, by rw [hlen], by rw [hlen]; exact Nat.le_refl _, by rw [hlen]; omega, ?_⟩, fun w' _ => ?_⟩
  · by_cases he : l.take q.toNat = []
    · exact .inl he
    right
    rcases h4 with h4 | ⟨ad, cs, h6, h7, h8, h9⟩
    · subst h4; simp at he
    subst h6
    have h10 : q.toNat * Rep.n α ≤ l.length * Rep.n α := Nat.mul_le_mul_right _ (by omega)
    refine ⟨ad, cs.take (q.toNat * Rep.n α), ?_, Frz.has_take h7 _, by rw [hlen, List.length_take, h8, Nat.min_eq_left h10], rdL_take (fun _ _ h => Rep.len h) _ h9⟩
    split
    · rfl
    · show some (ad.add 0) = some ad
      unfold Addr.add; simp
  · simp [execOp, h1, Instr.sliceAt, Instr.slice, Instr.sliceBounds, underlying, hu, TyB.size hte, b1, b2]
end ops

section bits
variable {c : Ctx} {ty : TypeId} {pos : String} {af : Array Edge} {g : Option (Nat × Bool)} {σ : St} {d : Option Nat} {x y : Operand} {t u : TypeId}
theorem bv64 (p : UInt64) : BitVec.ofInt 64 (p.toNat : Int) = p.toBitVec := by
  apply BitVec.eq_of_toNat_eq
  rw [BitVec.toNat_ofInt]
  have h := p.toNat_lt
  have e : p.toBitVec.toNat = p.toNat := rfl
  rw [e]
  omega
theorem v_or64 {p q : UInt64} (hx : opnd σ.Γ x = some (isv p)) (hy : opnd σ.Γ y = some (isv q)) : OpV c ⟨d, .binOp .or t x y u, ty, pos, af, g⟩ σ (isv (p ||| q)) := fun S a w m => by
  have h1 := isv_u64.1 (opnd_sound m hx)
  have h2 := isv_u64.1 (opnd_sound m hy)
  have h := (p ||| q).toNat_lt
  have e : (((p ||| q).toNat : Nat) : Int) = ((BitVec.ofInt 64 (p.toNat : Int) ||| BitVec.ofInt 64 (q.toNat : Int)).toNat : Int) % 18446744073709551616 := by
    rw [bv64, bv64]
    have : (p.toBitVec ||| q.toBitVec).toNat = (p ||| q).toNat := rfl
    rw [this]; omega
  exact ⟨.int .u64 ((p ||| q).toNat : Int), isv_u64.2 rfl, fun w' _ => by
    have hr : (Op.intBits .or .u64 (p.toNat : Int) (q.toNat : Int)).run c.P w' = .ok (.int .u64 ((p ||| q).toNat : Int)) w' := by
      rw [e]; unfold Op.intBits; simp only [Sem.run_pure, wrap_u64]; rfl
    simp [execOp, binOp, eqGuard, h1, h2, hr]⟩
theorem v_and64 {p q : UInt64} (hx : opnd σ.Γ x = some (isv p)) (hy : opnd σ.Γ y = some (isv q)) : OpV c ⟨d, .binOp .and t x y u, ty, pos, af, g⟩ σ (isv (p &&& q)) := fun S a w m => by
  have h1 := isv_u64.1 (opnd_sound m hx)
  have h2 := isv_u64.1 (opnd_sound m hy)
  have h := (p &&& q).toNat_lt
  have e : (((p &&& q).toNat : Nat) : Int) = ((BitVec.ofInt 64 (p.toNat : Int) &&& BitVec.ofInt 64 (q.toNat : Int)).toNat : Int) % 18446744073709551616 := by
    rw [bv64, bv64]
    have : (p.toBitVec &&& q.toBitVec).toNat = (p &&& q).toNat := rfl
    rw [this]; omega
  exact ⟨.int .u64 ((p &&& q).toNat : Int), isv_u64.2 rfl, fun w' _ => by
    have hr : (Op.intBits .and .u64 (p.toNat : Int) (q.toNat : Int)).run c.P w' = .ok (.int .u64 ((p &&& q).toNat : Int)) w' := by
      rw [e]; unfold Op.intBits; simp only [Sem.run_pure, wrap_u64]; rfl
    simp [execOp, binOp, eqGuard, h1, h2, hr]⟩
def shl64 (x : UInt64) (n : Nat) : UInt64 := UInt64.ofNat (x.toNat * 2 ^ n)
theorem v_shl64 {p n : UInt64} (hx : opnd σ.Γ x = some (isv p)) (hy : opnd σ.Γ y = some (isv n)) (hn : Nat.ble n.toNat 64 = true) : OpV c ⟨d, .binOp .shl t x y u, ty, pos, af, g⟩ σ (isv (shl64 p n.toNat)) := fun S a w m => by
  have h1 := isv_u64.1 (opnd_sound m hx)
  have h2 := isv_u64.1 (opnd_sound m hy)
  have hn' := Nat.le_of_ble_eq_true hn
  have e : (((shl64 p n.toNat).toNat : Nat) : Int) = ((p.toNat : Int) * 2 ^ n.toNat) % 18446744073709551616 := by
    unfold shl64
    rw [UInt64.toNat_ofNat']
    simp
  have hmin : min n.toNat 64 = n.toNat := Nat.min_eq_left hn'
  exact ⟨.int .u64 ((shl64 p n.toNat).toNat : Int), isv_u64.2 rfl, fun w' _ => by rw [e]; simp [execOp, binOp, eqGuard, h1, h2, Op.shift, wrap_u64, IntKind.bits, hmin]⟩
theorem v_shr8 {p : UInt8} {n : UInt64} (hx : opnd σ.Γ x = some (isv p)) (hy : opnd σ.Γ y = some (isv n)) (hn : Nat.ble n.toNat 8 = true) : OpV c ⟨d, .binOp .shr t x y u, ty, pos, af, g⟩ σ (isv (shr8 p n.toNat)) := fun S a w m => by
  have h1 := isv_u8.1 (opnd_sound m hx)
  have h2 := isv_u64.1 (opnd_sound m hy)
  have hn' := Nat.le_of_ble_eq_true hn
  have hlt : p.toNat / 2 ^ n.toNat < 256 := Nat.lt_of_le_of_lt (Nat.div_le_self _ _) p.toNat_lt
  have e : (((shr8 p n.toNat).toNat : Nat) : Int) = ((p.toNat : Int)).fdiv (2 ^ n.toNat) := by
    unfold shr8
    rw [UInt8.toNat_ofNat', Nat.mod_eq_of_lt hlt, Int.fdiv_eq_ediv_of_nonneg _ (Int.pow_nonneg (by decide))]
    simp
  have hmin : min n.toNat 8 = n.toNat := Nat.min_eq_left hn'
  exact ⟨.int .u8 ((shr8 p n.toNat).toNat : Int), isv_u8.2 rfl, fun w' _ => by
    rw [e]
    simp [execOp, binOp, eqGuard, h1, h2, Op.shift, IntKind.bits, hmin]
    exact (Int.fdiv_eq_ediv_of_nonneg _ (Int.pow_nonneg (by decide))).symm⟩
end bits
end Go.Sy


namespace Go.Proofs.YtdcdndflfhaejaaDoor
open Go.Sy
def utf8_ValidString (s : Str) : Option Bool := some (Lib.validD s.b)
end Go.Proofs.YtdcdndflfhaejaaDoor


namespace Go.Proofs.YtdcdndflfhaejaaDoor
open Go.Sy
set_option maxRecDepth 4000
def r04_at (a_s : Str) (a_i : Int) : Option (UInt8) :=
  jp (ι := Bool) (fun J2 => br (decide (a_i < (0 : Int))) (J2 (true)) (J2 ((decide ((a_s.b.length : Int) ≤ a_i))))) (fun q1 => br q1 (some ((0 : UInt8))) (cal (getI a_s.b a_i) fun y4 => some (y4)))

def r04_white (a_s : Str) (a_i : Int) : Option (Int) :=
  lp (ι := Int) (fun L2 q1 => br (decide (q1 < (a_s.b.length : Int))) (cal (getI a_s.b q1) fun y51 => jp (ι := Bool) (fun J53 => br (decide (y51 = (32 : UInt8))) (J53 (true)) (cal (getI a_s.b q1) fun y55 => J53 ((decide (y55 = (9 : UInt8)))))) (fun q52 => jp (ι := Bool) (fun J57 => br q52 (J57 (true)) (cal (getI a_s.b q1) fun y59 => J57 ((decide (y59 = (10 : UInt8)))))) (fun q56 => jp (ι := Bool) (fun J61 => br q56 (J61 (true)) (cal (getI a_s.b q1) fun y63 => J61 ((decide (y63 = (13 : UInt8)))))) (fun q60 => br q60 (ck ((q1 + (1 : Int))) <| L2 ((q1 + (1 : Int)))) (cal (getI a_s.b q1) fun y65 => jp (ι := Bool) (fun J67 => br (decide (y65 = (45 : UInt8))) (ck ((q1 + (1 : Int))) <| cal (r04_at a_s (q1 + (1 : Int))) fun y70 => J67 ((decide (y70 = (45 : UInt8))))) (J67 (false))) (fun q66 => br q66 (ck ((q1 + (2 : Int))) <| lp (ι := Int) (fun L73 q72 => jp (ι := Bool) (fun J87 => br (decide (q72 < (a_s.b.length : Int))) (cal (getI a_s.b q72) fun y89 => J87 ((!decide (y89 = (10 : UInt8))))) (J87 (false))) (fun q86 => br q86 (cal (getI a_s.b q72) fun y90 => jp (ι := Bool) (fun J92 => br (decide (y90 = (45 : UInt8))) (ck ((q72 + (1 : Int))) <| cal (r04_at a_s (q72 + (1 : Int))) fun y95 => J92 ((decide (y95 = (45 : UInt8))))) (J92 (false))) (fun q91 => br q91 (ck ((q72 + (2 : Int))) <| L2 ((q72 + (2 : Int)))) (ck ((q72 + (1 : Int))) <| L73 ((q72 + (1 : Int)))))) (L2 (q72)))) (((q1 + (2 : Int))))) (some (q1)))))))) (some (q1))) ((a_i))

def r04_letter (a_c : UInt8) : Option (Bool) :=
  jp (ι := Bool) (fun J2 => br (decide ((97 : UInt8) ≤ a_c)) (J2 ((decide (a_c ≤ (122 : UInt8))))) (J2 (false))) (fun q1 => jp (ι := Bool) (fun J5 => br q1 (J5 (true)) (jp (ι := Bool) (fun J8 => br (decide ((65 : UInt8) ≤ a_c)) (J8 ((decide (a_c ≤ (90 : UInt8))))) (J8 (false))) (fun q7 => J5 (q7)))) (fun q4 => some (q4)))

def r04_digit (a_c : UInt8) : Option (Bool) :=
  jp (ι := Bool) (fun J2 => br (decide ((48 : UInt8) ≤ a_c)) (J2 ((decide (a_c ≤ (57 : UInt8))))) (J2 (false))) (fun q1 => some (q1))

def r04_name (a_s : Str) (a_i : Int) : Option (Int) :=
  lp (ι := Int) (fun L2 q1 => jp (ι := Bool) (fun J30 => br (decide (q1 < (a_s.b.length : Int))) (cal (getI a_s.b q1) fun y32 => cal (r04_letter y32) fun y33 => jp (ι := Bool) (fun J35 => br y33 (J35 (true)) (cal (getI a_s.b q1) fun y37 => cal (r04_digit y37) fun y38 => J35 (y38))) (fun q34 => jp (ι := Bool) (fun J40 => br q34 (J40 (true)) (cal (getI a_s.b q1) fun y42 => jp (ι := Bool) (fun J44 => br (decide (y42 = (45 : UInt8))) (ck ((q1 + (1 : Int))) <| cal (r04_at a_s (q1 + (1 : Int))) fun y47 => J44 ((!decide (y47 = (45 : UInt8))))) (J44 (false))) (fun q43 => J40 (q43)))) (fun q39 => J30 (q39)))) (J30 (false))) (fun q29 => br q29 (ck ((q1 + (1 : Int))) <| L2 ((q1 + (1 : Int)))) (ck ((q1 - (1 : Int))) <| cal (getI a_s.b (q1 - (1 : Int))) fun y50 => jp (ι := Bool) (fun J52 => br (decide (y50 = (45 : UInt8))) (J52 (true)) (ck ((q1 - a_i)) <| J52 ((decide ((60 : Int) < (q1 - a_i)))))) (fun q51 => br q51 (some ((-1 : Int))) (some (q1)))))) ((a_i))

def r04_words  : Option ((List Str)) :=
  some (([(Str.mk [68, 69, 70, 73, 78, 73, 84, 73, 79, 78, 83]), (Str.mk [69, 88, 80, 76, 73, 67, 73, 84]), (Str.mk [73, 77, 80, 76, 73, 67, 73, 84]), (Str.mk [65, 85, 84, 79, 77, 65, 84, 73, 67]), (Str.mk [84, 65, 71, 83]), (Str.mk [66, 69, 71, 73, 78]), (Str.mk [69, 78, 68]), (Str.mk [66, 79, 79, 76, 69, 65, 78]), (Str.mk [73, 78, 84, 69, 71, 69, 82]), (Str.mk [69, 78, 85, 77, 69, 82, 65, 84, 69, 68]), (Str.mk [78, 85, 76, 76]), (Str.mk [79, 67, 84, 69, 84]), (Str.mk [83, 84, 82, 73, 78, 71]), (Str.mk [85, 84, 70, 56, 83, 116, 114, 105, 110, 103]), (Str.mk [83, 69, 81, 85, 69, 78, 67, 69]), (Str.mk [83, 69, 84]), (Str.mk [67, 72, 79, 73, 67, 69]), (Str.mk [79, 70]), (Str.mk [79, 80, 84, 73, 79, 78, 65, 76]), (Str.mk [68, 69, 70, 65, 85, 76, 84]), (Str.mk [83, 73, 90, 69]), (Str.mk [77, 73, 78]), (Str.mk [77, 65, 88]), (Str.mk [84, 82, 85, 69]), (Str.mk [70, 65, 76, 83, 69])] : (List Str)))

def h_In_string (a_l : (List Str)) (a_x : Str) : Option (Bool) :=
  lp (ι := Int) (fun L2 q1 => br (decide (q1 < (a_l.length : Int))) (cal (getI a_l q1) fun y5 => br (decide (y5 = a_x)) (some (true)) (ck ((q1 + (1 : Int))) <| L2 ((q1 + (1 : Int))))) (some (false))) (((0 : Int)))

def r04_Word (a_s : Str) : Option (Bool) :=
  cal (r04_words ) fun y1 => cal (h_In_string y1 a_s) fun y2 => some (y2)

def r04_number (a_s : Str) (a_i : Int) : Option (Int) :=
  cal (getI a_s.b a_i) fun y1 => jp (ι := Int) (fun J3 => br (decide (y1 = (45 : UInt8))) (ck ((a_i + (1 : Int))) <| J3 ((a_i + (1 : Int)))) (J3 (a_i))) (fun q2 => lp (ι := Int × UInt64) (fun L6 q5 => jp (ι := Bool) (fun J50 => br (decide (q5.1 < (a_s.b.length : Int))) (cal (getI a_s.b q5.1) fun y52 => cal (r04_digit y52) fun y53 => J50 (y53)) (J50 (false))) (fun q49 => br q49 (ck ((q5.1 - q2)) <| jp (ι := UInt64) (fun J56 => br (decide ((q5.1 - q2) < (19 : Int))) (cal (getI a_s.b q5.1) fun y57 => J56 ((((10 : UInt64) * q5.2) + (y57 - (48 : UInt8)).toUInt64))) (J56 (q5.2))) (fun q55 => ck ((q5.1 + (1 : Int))) <| L6 ((q5.1 + (1 : Int)), q55))) (ck ((q5.1 - q2)) <| jp (ι := Bool) (fun J61 => br (decide ((q5.1 - q2) < (1 : Int))) (J61 (true)) (J61 ((decide ((19 : Int) < (q5.1 - q2)))))) (fun q60 => jp (ι := Bool) (fun J64 => br q60 (J64 (true)) (jp (ι := Bool) (fun J67 => br (decide ((1 : Int) < (q5.1 - q2))) (cal (getI a_s.b q2) fun y69 => J67 ((decide (y69 = (48 : UInt8))))) (J67 (false))) (fun q66 => J64 (q66)))) (fun q63 => jp (ι := Bool) (fun J71 => br q63 (J71 (true)) (jp (ι := Bool) (fun J74 => br (decide (y1 = (45 : UInt8))) (cal (getI a_s.b q2) fun y76 => J74 ((decide (y76 = (48 : UInt8))))) (J74 (false))) (fun q73 => J71 (q73)))) (fun q70 => jp (ι := Bool) (fun J78 => br q70 (J78 (true)) (cal (r04_at a_s q5.1) fun y80 => cal (r04_letter y80) fun y81 => J78 (y81))) (fun q77 => jp (ι := Bool) (fun J83 => br q77 (J83 (true)) (J83 ((decide ((9223372036854775808 : UInt64) < q5.2))))) (fun q82 => jp (ι := Bool) (fun J86 => br q82 (J86 (true)) (jp (ι := Bool) (fun J89 => br (!(decide (y1 = (45 : UInt8)))) (J89 ((decide (q5.2 = (9223372036854775808 : UInt64))))) (J89 (false))) (fun q88 => J86 (q88)))) (fun q85 => br q85 (some ((-1 : Int))) (some (q5.1))))))))))) ((q2, (0 : UInt64))))

def r04_hex (a_s : Str) (a_i : Int) : Option (Int × Str) :=
  ck ((a_i + (1 : Int))) <| lp (ι := Int) (fun L3 q2 => jp (ι := Bool) (fun J32 => br (decide (q2 < (a_s.b.length : Int))) (cal (getI a_s.b q2) fun y34 => cal (r04_digit y34) fun y35 => jp (ι := Bool) (fun J37 => br y35 (J37 (true)) (cal (getI a_s.b q2) fun y39 => jp (ι := Bool) (fun J41 => br (decide ((65 : UInt8) ≤ y39)) (cal (getI a_s.b q2) fun y43 => J41 ((decide (y43 ≤ (70 : UInt8))))) (J41 (false))) (fun q40 => J37 (q40)))) (fun q36 => J32 (q36))) (J32 (false))) (fun q31 => br q31 (ck ((q2 + (1 : Int))) <| L3 ((q2 + (1 : Int)))) (ck ((q2 - (a_i + (1 : Int)))) <| asr (!decide ((2 : Int) = 0)) <| jp (ι := Bool) (fun J48 => br (!decide (((q2 - (a_i + (1 : Int))).tmod (2 : Int)) = (0 : Int))) (J48 (true)) (cal (r04_at a_s q2) fun y50 => J48 ((!decide (y50 = (39 : UInt8)))))) (fun q47 => jp (ι := Bool) (fun J52 => br q47 (J52 (true)) (ck ((q2 + (1 : Int))) <| cal (r04_at a_s (q2 + (1 : Int))) fun y55 => J52 ((!decide (y55 = (72 : UInt8)))))) (fun q51 => br q51 (some ((-1 : Int), (Str.mk []))) (ck ((q2 + (2 : Int))) <| asr (decide (0 ≤ (a_i + (1 : Int)) ∧ (a_i + (1 : Int)) ≤ q2 ∧ q2 ≤ (a_s.b.length : Int))) <| some ((q2 + (2 : Int)), (Str.mk ((a_s.b.take (q2).toNat).drop ((a_i + (1 : Int))).toNat))))))))) (((a_i + (1 : Int))))

def r04_quoted (a_s : Str) (a_i : Int) : Option (Int × Str) :=
  ck ((a_i + (1 : Int))) <| lp (ι := Int × Str) (fun L3 q2 => br (decide (q2.1 < (a_s.b.length : Int))) (jp (ι := Int × Str) (fun J18 => cal (getI a_s.b q2.1) fun y19 => br (!decide (y19 = (34 : UInt8))) (ck ((q2.1 + (1 : Int))) <| asr (decide (0 ≤ q2.1 ∧ q2.1 ≤ (q2.1 + (1 : Int)) ∧ (q2.1 + (1 : Int)) ≤ (a_s.b.length : Int))) <| asr (Nat.ble (q2.2.b.length + (Str.mk ((a_s.b.take ((q2.1 + (1 : Int))).toNat).drop (q2.1).toNat)).b.length) 4611686018427387904) <| J18 (q2.1, (Str.mk (q2.2.b ++ (Str.mk ((a_s.b.take ((q2.1 + (1 : Int))).toNat).drop (q2.1).toNat)).b)))) (ck ((q2.1 + (1 : Int))) <| cal (r04_at a_s (q2.1 + (1 : Int))) fun y24 => br (!decide (y24 = (34 : UInt8))) (cal (utf8_ValidString q2.2) fun y25 => br (!y25) (some ((-1 : Int), (Str.mk []))) (ck ((q2.1 + (1 : Int))) <| some ((q2.1 + (1 : Int)), q2.2))) (asr (Nat.ble (q2.2.b.length + (Str.mk [34]).b.length) 4611686018427387904) <| ck ((q2.1 + (1 : Int))) <| J18 ((q2.1 + (1 : Int)), (Str.mk (q2.2.b ++ (Str.mk [34]).b)))))) (fun q17 => ck ((q17.1 + (1 : Int))) <| L3 ((q17.1 + (1 : Int)), q17.2))) (some ((-1 : Int), (Str.mk [])))) (((a_i + (1 : Int)), (Str.mk [])))

def r04_sign (a_s : Str) (a_i : Int) : Option (Int) :=
  asr (decide (0 ≤ a_i ∧ a_i ≤ (a_s.b.length : Int) ∧ (a_s.b.length : Int) ≤ (a_s.b.length : Int))) <| lp (ι := Int) (fun L4 q3 => br (decide (q3 < (([(Str.mk [58, 58, 61]), (Str.mk [46, 46, 46]), (Str.mk [46, 46]), (Str.mk [91, 91]), (Str.mk [93, 93]), (Str.mk [123]), (Str.mk [125]), (Str.mk [91]), (Str.mk [93]), (Str.mk [40]), (Str.mk [41]), (Str.mk [44]), (Str.mk [58])] : (List Str)).length : Int))) (cal (getI ([(Str.mk [58, 58, 61]), (Str.mk [46, 46, 46]), (Str.mk [46, 46]), (Str.mk [91, 91]), (Str.mk [93, 93]), (Str.mk [123]), (Str.mk [125]), (Str.mk [91]), (Str.mk [93]), (Str.mk [40]), (Str.mk [41]), (Str.mk [44]), (Str.mk [58])] : (List Str)) q3) fun y12 => jp (ι := Bool) (fun J14 => br (decide ((y12.b.length : Int) ≤ ((Str.mk ((a_s.b.take ((a_s.b.length : Int)).toNat).drop (a_i).toNat)).b.length : Int))) (asr (decide (0 ≤ (0 : Int) ∧ (0 : Int) ≤ (y12.b.length : Int) ∧ (y12.b.length : Int) ≤ ((Str.mk ((a_s.b.take ((a_s.b.length : Int)).toNat).drop (a_i).toNat)).b.length : Int))) <| cal (getI ([(Str.mk [58, 58, 61]), (Str.mk [46, 46, 46]), (Str.mk [46, 46]), (Str.mk [91, 91]), (Str.mk [93, 93]), (Str.mk [123]), (Str.mk [125]), (Str.mk [91]), (Str.mk [93]), (Str.mk [40]), (Str.mk [41]), (Str.mk [44]), (Str.mk [58])] : (List Str)) q3) fun y17 => J14 ((decide ((Str.mk (((Str.mk ((a_s.b.take ((a_s.b.length : Int)).toNat).drop (a_i).toNat)).b.take ((y12.b.length : Int)).toNat).drop (0 : Int).toNat)) = y17)))) (J14 (false))) (fun q13 => br q13 (some ((y12.b.length : Int))) (ck ((q3 + (1 : Int))) <| L4 ((q3 + (1 : Int)))))) (some ((0 : Int)))) (((0 : Int)))

def r04_one (a_s : Str) (a_i : Int) : Option (GTok × Int) :=
  cal (getI a_s.b a_i) fun y3 => jp (ι := Int × GTok) (fun J5 => cal (r04_letter y3) fun y6 => br y6 (cal (r04_name a_s a_i) fun y7 => br (decide (y7 < (0 : Int))) (some ((GTok.mk (0 : Int) (Str.mk []) a_i), (-1 : Int))) (asr (decide (0 ≤ a_i ∧ a_i ≤ y7 ∧ y7 ≤ (a_s.b.length : Int))) <| jp (ι := GTok) (fun J10 => br (decide (y3 ≤ (90 : UInt8))) (J10 ((GTok.mk (1 : Int) (Str.mk ((a_s.b.take (y7).toNat).drop (a_i).toNat)) a_i))) (J10 ((GTok.mk (2 : Int) (Str.mk ((a_s.b.take (y7).toNat).drop (a_i).toNat)) a_i)))) (fun q9 => cal (r04_Word q9.text) fun y11 => br y11 (J5 (y7, { q9 with kind := (5 : Int) })) (J5 (y7, q9))))) (cal (r04_digit y3) fun y12 => jp (ι := Bool) (fun J14 => br y12 (J14 (true)) (jp (ι := Bool) (fun J17 => br (decide (y3 = (45 : UInt8))) (ck ((a_i + (1 : Int))) <| cal (r04_at a_s (a_i + (1 : Int))) fun y20 => cal (r04_digit y20) fun y21 => J17 (y21)) (J17 (false))) (fun q16 => J14 (q16)))) (fun q13 => br q13 (cal (r04_number a_s a_i) fun y22 => br (decide (y22 < (0 : Int))) (some ((GTok.mk (0 : Int) (Str.mk []) a_i), (-1 : Int))) (asr (decide (0 ≤ a_i ∧ a_i ≤ y22 ∧ y22 ≤ (a_s.b.length : Int))) <| J5 (y22, (GTok.mk (3 : Int) (Str.mk ((a_s.b.take (y22).toNat).drop (a_i).toNat)) a_i)))) (br (decide (y3 = (39 : UInt8))) (cal (r04_hex a_s a_i) fun y24 => J5 (y24.1, (GTok.mk (4 : Int) y24.2 a_i))) (br (decide (y3 = (34 : UInt8))) (cal (r04_quoted a_s a_i) fun y25 => J5 (y25.1, (GTok.mk (7 : Int) y25.2 a_i))) (cal (r04_sign a_s a_i) fun y26 => br (decide ((0 : Int) < y26)) (ck ((a_i + y26)) <| asr (decide (0 ≤ a_i ∧ a_i ≤ (a_i + y26) ∧ (a_i + y26) ≤ (a_s.b.length : Int))) <| ck ((a_i + y26)) <| J5 ((a_i + y26), (GTok.mk (6 : Int) (Str.mk ((a_s.b.take ((a_i + y26)).toNat).drop (a_i).toNat)) a_i))) (J5 ((-1 : Int), (GTok.mk (0 : Int) (Str.mk []) a_i))))))))) (fun q4 => some (q4.2, q4.1))

def r04_Tokens (a_text : Str) : Option ((List GTok) × Int × Int) :=
  br (decide ((8000 : Int) < (a_text.b.length : Int))) (some (([] : (List GTok)), (0 : Int), (5 : Int))) (lp (ι := (List GTok) × Int) (fun L2 q1 => cal (r04_white a_text q1.2) fun y12 => br (decide ((a_text.b.length : Int) ≤ y12)) (asr (Nat.ble (q1.1.length + ([(GTok.mk (0 : Int) (Str.mk []) (a_text.b.length : Int))] : (List GTok)).length) 68719476736) <| some ((q1.1 ++ ([(GTok.mk (0 : Int) (Str.mk []) (a_text.b.length : Int))] : (List GTok))), (0 : Int), (0 : Int))) (cal (r04_one a_text y12) fun y16 => br (decide (y16.2 < (0 : Int))) (some (([] : (List GTok)), y12, (6 : Int))) (asr (Nat.ble (q1.1.length + ([y16.1] : (List GTok)).length) 68719476736) <| L2 ((q1.1 ++ ([y16.1] : (List GTok))), y16.2)))) ((([] : (List GTok)), (0 : Int))))

def r05_parser_now (a_x : GPar) : Option (GTok × GPar) :=
  cal (getI a_x.l a_x.at_) fun y7 => some (y7, a_x)

def r05_parser_fail (a_x : GPar) (a_e : Int) (a_t : GTok) : Option (GPar) :=
  br (decide (a_x.e = (0 : Int))) (some ((GPar.mk a_x.l a_x.at_ a_x.m a_e a_t.at_))) (some (a_x))

def r05_parser_next (a_x : GPar) : Option (GTok × GPar) :=
  cal (getI a_x.l a_x.at_) fun y7 => ck ((a_x.at_ + (1 : Int))) <| jp (ι := GPar) (fun J13 => br (decide ((a_x.at_ + (1 : Int)) < (a_x.l.length : Int))) (ck ((a_x.at_ + (1 : Int))) <| J13 ((GPar.mk a_x.l (a_x.at_ + (1 : Int)) a_x.m a_x.e a_x.p))) (J13 (a_x))) (fun q12 => some (y7, q12))

def r05_parser_kind (a_x : GPar) (a_k : Int) : Option (Str × GPar) :=
  cal (r05_parser_now a_x) fun y4 => jp (ι := Bool) (fun J9 => br (!decide (y4.2.e = (0 : Int))) (J9 (true)) (J9 ((!decide (y4.1.kind = a_k))))) (fun q8 => br q8 (cal (r05_parser_fail y4.2 (7 : Int) y4.1) fun y11 => some ((Str.mk []), y11)) (cal (r05_parser_next y4.2) fun y14 => some (y14.1.text, y14.2)))

def r05_parser_is (a_x : GPar) (a_s : Str) : Option (Bool × GPar) :=
  cal (r05_parser_now a_x) fun y4 => jp (ι := Bool) (fun J9 => br (decide (y4.2.e = (0 : Int))) (jp (ι := Bool) (fun J12 => br (decide (y4.1.kind = (5 : Int))) (J12 (true)) (J12 ((decide (y4.1.kind = (6 : Int)))))) (fun q11 => J9 (q11))) (J9 (false))) (fun q8 => jp (ι := Bool) (fun J15 => br q8 (J15 ((decide (y4.1.text = a_s)))) (J15 (false))) (fun q14 => br q14 (cal (r05_parser_next y4.2) fun y17 => some (true, y17.2)) (some (false, y4.2))))

def r05_parser_must (a_x : GPar) (a_s : Str) : Option (GPar) :=
  jp (ι := Bool × GPar) (fun J5 => br (decide (a_x.e = (0 : Int))) (cal (r05_parser_is a_x a_s) fun y7 => J5 ((!y7.1), y7.2)) (J5 (false, a_x))) (fun q4 => br q4.1 (cal (r05_parser_now q4.2) fun y10 => cal (r05_parser_fail y10.2 (7 : Int) y10.1) fun y13 => some (y13)) (some (q4.2)))

def r05_begins (a_t : GTok) : Option (Bool) :=
  lp (ι := Int) (fun L3 q2 => br (decide (q2 < (([(Str.mk [91]), (Str.mk [66, 79, 79, 76, 69, 65, 78]), (Str.mk [78, 85, 76, 76]), (Str.mk [85, 84, 70, 56, 83, 116, 114, 105, 110, 103]), (Str.mk [73, 78, 84, 69, 71, 69, 82]), (Str.mk [79, 67, 84, 69, 84]), (Str.mk [69, 78, 85, 77, 69, 82, 65, 84, 69, 68]), (Str.mk [83, 69, 84]), (Str.mk [67, 72, 79, 73, 67, 69]), (Str.mk [83, 69, 81, 85, 69, 78, 67, 69])] : (List Str)).length : Int))) (cal (getI ([(Str.mk [91]), (Str.mk [66, 79, 79, 76, 69, 65, 78]), (Str.mk [78, 85, 76, 76]), (Str.mk [85, 84, 70, 56, 83, 116, 114, 105, 110, 103]), (Str.mk [73, 78, 84, 69, 71, 69, 82]), (Str.mk [79, 67, 84, 69, 84]), (Str.mk [69, 78, 85, 77, 69, 82, 65, 84, 69, 68]), (Str.mk [83, 69, 84]), (Str.mk [67, 72, 79, 73, 67, 69]), (Str.mk [83, 69, 81, 85, 69, 78, 67, 69])] : (List Str)) q2) fun y12 => jp (ι := Bool) (fun J14 => br (decide (y12 = a_t.text)) (jp (ι := Bool) (fun J17 => br (decide (a_t.kind = (5 : Int))) (J17 (true)) (J17 ((decide (a_t.kind = (6 : Int)))))) (fun q16 => J14 (q16))) (J14 (false))) (fun q13 => br q13 (some (true)) (ck ((q2 + (1 : Int))) <| L3 ((q2 + (1 : Int)))))) (some ((decide (a_t.kind = (1 : Int)))))) (((0 : Int)))

def r05_Whole (a_s : Str) : Option (Int) :=
  cal (getI a_s.b (0 : Int)) fun y1 => jp (ι := Str) (fun J3 => br (decide (y1 = (45 : UInt8))) (asr (decide (0 ≤ (1 : Int) ∧ (1 : Int) ≤ (a_s.b.length : Int) ∧ (a_s.b.length : Int) ≤ (a_s.b.length : Int))) <| J3 ((Str.mk ((a_s.b.take ((a_s.b.length : Int)).toNat).drop ((1 : Int)).toNat)))) (J3 (a_s))) (fun q2 => lp (ι := UInt64 × Int) (fun L6 q5 => br (decide (q5.2 < (q2.b.length : Int))) (cal (getI q2.b q5.2) fun y13 => ck ((q5.2 + (1 : Int))) <| L6 ((((10 : UInt64) * q5.1) + (y13 - (48 : UInt8)).toUInt64), (q5.2 + (1 : Int)))) (br (decide (y1 = (45 : UInt8))) (ck (((q5.1 - (1 : UInt64)).toNat : Int)) <| ck ((-((q5.1 - (1 : UInt64)).toNat : Int))) <| ck (((-((q5.1 - (1 : UInt64)).toNat : Int)) - (1 : Int))) <| some (((-((q5.1 - (1 : UInt64)).toNat : Int)) - (1 : Int)))) (ck ((q5.1.toNat : Int)) <| some ((q5.1.toNat : Int))))) (((0 : UInt64), (0 : Int))))

def r05_parser_number (a_x : GPar) : Option (Int × GPar) :=
  cal (r05_parser_kind a_x (3 : Int)) fun y4 => br (decide (y4.1 = (Str.mk []))) (some ((0 : Int), y4.2)) (cal (r05_Whole y4.1) fun y7 => some (y7, y4.2))

def r05_parser_bounds (a_x : GPar) : Option (GCon × GPar) :=
  cal (r05_parser_is a_x (Str.mk [77, 73, 78])) fun y6 => jp (ι := GPar × GCon) (fun J10 => br (!y6.1) (cal (r05_parser_number y6.2) fun y11 => J10 (y11.2, (GCon.mk true true false false y11.1 (0 : Int)))) (J10 (y6.2, (GCon.mk true false false false (0 : Int) (0 : Int))))) (fun q9 => jp (ι := GPar × GCon) (fun J15 => cal (r05_parser_is q9.1 (Str.mk [46, 46])) fun y16 => br y16.1 (cal (r05_parser_is y16.2 (Str.mk [77, 65, 88])) fun y19 => br (!y19.1) (cal (r05_parser_number y19.2) fun y22 => J15 (y22.2, { { q9.2 with hasHigh := true } with high := y22.1 })) (J15 (y19.2, q9.2))) (br q9.2.hasLow (J15 (y16.2, { { q9.2 with hasHigh := true } with high := q9.2.low })) (J15 (y16.2, q9.2)))) (fun q14 => cal (r05_parser_is q14.1 (Str.mk [44])) fun y25 => jp (ι := GPar × GCon) (fun J29 => br y25.1 (cal (r05_parser_must y25.2 (Str.mk [46, 46, 46])) fun y30 => J29 (y30, { q14.2 with more := true })) (J29 (y25.2, q14.2))) (fun q28 => some (q28.2, q28.1))))

def r05_parser_size (a_x : GPar) : Option (GCon × GPar) :=
  cal (r05_parser_is a_x (Str.mk [40])) fun y5 => br (!y5.1) (some ((GCon.mk false false false false (0 : Int) (0 : Int)), y5.2)) (cal (r05_parser_must y5.2 (Str.mk [83, 73, 90, 69])) fun y8 => cal (r05_parser_must y8 (Str.mk [40])) fun y11 => cal (r05_parser_bounds y11) fun y14 => cal (r05_parser_must y14.2 (Str.mk [41])) fun y18 => cal (r05_parser_must y18 (Str.mk [41])) fun y21 => some (y14.1, y21))

def r05_parser_items (a_x : GPar) (a_n_ : GNode) : Option (GPar × GNode) :=
  jp (ι := GPar × GNode) (fun J7 => lp (ι := GPar × GNode) (fun L9 q8 => br (decide (q8.1.e = (0 : Int))) (jp (ι := Bool) (fun J47 => br (decide ((0 : Int) < (q8.2.items.length : Int))) (J47 ((!q8.2.more))) (J47 (false))) (fun q46 => jp (ι := Bool × GPar) (fun J50 => br q46 (cal (r05_parser_is q8.1 (Str.mk [46, 46, 46])) fun y52 => J50 (y52.1, y52.2)) (J50 (false, q8.1))) (fun q49 => jp (ι := GPar × GNode) (fun J56 => br q49.1 (J56 (q49.2, (GNode.mk q8.2.kind q8.2.name q8.2.mark q8.2.con q8.2.items q8.2.fields (q8.2.items.length : Int) true q8.2.of))) (cal (r05_parser_kind q49.2 (2 : Int)) fun y57 => cal (r05_parser_is y57.2 (Str.mk [40])) fun y61 => jp (ι := GPar × GItem) (fun J65 => br y61.1 (cal (r05_parser_number y61.2) fun y66 => cal (r05_parser_must y66.2 (Str.mk [41])) fun y69 => J65 (y69, (GItem.mk y57.1 y66.1 true))) (J65 (y61.2, (GItem.mk y57.1 (0 : Int) false)))) (fun q64 => asr (Nat.ble (q8.2.items.length + ([q64.2] : (List GItem)).length) 68719476736) <| J56 (q64.1, (GNode.mk q8.2.kind q8.2.name q8.2.mark q8.2.con (q8.2.items ++ ([q64.2] : (List GItem))) q8.2.fields q8.2.root q8.2.more q8.2.of))))) (fun q55 => cal (r05_parser_is q55.1 (Str.mk [44])) fun y79 => br (!y79.1) (J7 (y79.2, q55.2)) (L9 (y79.2, q55.2)))))) (J7 (q8.1, q8.2))) ((a_x, a_n_))) (fun q6 => br (!q6.2.more) (some (q6.1, (GNode.mk q6.2.kind q6.2.name q6.2.mark q6.2.con q6.2.items q6.2.fields (q6.2.items.length : Int) q6.2.more q6.2.of))) (some (q6.1, q6.2)))

def r05_Hex (a_s : Str) : Option ((List UInt8)) :=
  lp (ι := (List UInt8) × Int) (fun L2 q1 => ck ((q1.2 + (1 : Int))) <| br (decide ((q1.2 + (1 : Int)) < (a_s.b.length : Int))) (lp (ι := UInt8 × Int) (fun L33 q32 => ck ((q1.2 + (2 : Int))) <| br (decide (q32.2 < (q1.2 + (2 : Int)))) (cal (getI a_s.b q32.2) fun y47 => cal (getI a_s.b q32.2) fun y48 => jp (ι := UInt8) (fun J50 => br (decide ((65 : UInt8) ≤ y48)) (cal (getI a_s.b q32.2) fun y51 => J50 (((y51 - (65 : UInt8)) + (10 : UInt8)))) (J50 ((y47 - (48 : UInt8))))) (fun q49 => asr (Nat.ble (4 : UInt64).toNat 8) <| ck ((q32.2 + (1 : Int))) <| L33 (((shl8 q32.1 (4 : UInt64).toNat) ||| q49), (q32.2 + (1 : Int))))) (asr (Nat.ble (q1.1.length + ([q32.1] : (List UInt8)).length) 68719476736) <| ck ((q1.2 + (2 : Int))) <| L2 ((q1.1 ++ ([q32.1] : (List UInt8))), (q1.2 + (2 : Int))))) (((0 : UInt8), q1.2))) (some (q1.1))) ((([] : (List UInt8)), (0 : Int)))

def r05_parser_value (a_x : GPar) : Option (Val × GPar) :=
  cal (r05_parser_now a_x) fun y5 => jp (ι := GPar) (fun J10 => br (!decide (y5.2.e = (0 : Int))) (J10 (y5.2)) (cal (r05_parser_is y5.2 (Str.mk [84, 82, 85, 69])) fun y11 => br y11.1 (some ((Val.mk (1 : Int) (1 : Int) ([] : (List UInt8)) ([] : (List Val)) (0 : Int) ([] : (List Raw))), y11.2)) (cal (r05_parser_is y11.2 (Str.mk [70, 65, 76, 83, 69])) fun y14 => br y14.1 (some ((Val.mk (1 : Int) (0 : Int) ([] : (List UInt8)) ([] : (List Val)) (0 : Int) ([] : (List Raw))), y14.2)) (cal (r05_parser_is y14.2 (Str.mk [78, 85, 76, 76])) fun y17 => br y17.1 (some ((Val.mk (4 : Int) (0 : Int) ([] : (List UInt8)) ([] : (List Val)) (0 : Int) ([] : (List Raw))), y17.2)) (br (decide (y5.1.kind = (3 : Int))) (cal (r05_parser_next y17.2) fun y20 => cal (r05_Whole y20.1.text) fun y23 => some ((Val.mk (2 : Int) y23 ([] : (List UInt8)) ([] : (List Val)) (0 : Int) ([] : (List Raw))), y20.2)) (br (decide (y5.1.kind = (2 : Int))) (cal (r05_parser_next y17.2) fun y24 => asr (Nat.ble y24.1.text.b.length 68719476736) <| some ((Val.mk (3 : Int) (0 : Int) y24.1.text.b ([] : (List Val)) (0 : Int) ([] : (List Raw))), y24.2)) (br (decide (y5.1.kind = (4 : Int))) (cal (r05_parser_next y17.2) fun y28 => cal (r05_Hex y28.1.text) fun y31 => some ((Val.mk (5 : Int) (0 : Int) y31 ([] : (List Val)) (0 : Int) ([] : (List Raw))), y28.2)) (br (decide (y5.1.kind = (7 : Int))) (cal (r05_parser_next y17.2) fun y32 => asr (Nat.ble y32.1.text.b.length 68719476736) <| some ((Val.mk (6 : Int) (0 : Int) y32.1.text.b ([] : (List Val)) (0 : Int) ([] : (List Raw))), y32.2)) (cal (r05_parser_fail y17.2 (7 : Int) y5.1) fun y36 => J10 (y36)))))))))) (fun q9 => some ((Val.mk (0 : Int) (0 : Int) ([] : (List UInt8)) ([] : (List Val)) (0 : Int) ([] : (List Raw))), q9))

def r05_parser_field_F (r05_parser_field' : GPar → GNode → Int → Int → Option (GPar × GNode)) (r05_parser_typ' : GPar → Int → Option (Int × GPar)) (r05_parser_base' : GPar → GNode → Int → Option (GPar × GNode)) (r05_parser_fields' : GPar → GNode → Int → Option (GPar × GNode)) (a_x : GPar) (a_n_ : GNode) (a_depth : Int) (a_group : Int) : Option (GPar × GNode) :=
  cal (r05_parser_kind a_x (2 : Int)) fun y6 => ck ((a_depth + (1 : Int))) <| cal (r05_parser_typ' y6.2 (a_depth + (1 : Int))) fun y11 => jp (ι := GFld × GPar) (fun J16 => br (decide (a_n_.kind = (9 : Int))) (J16 ((GFld.mk y6.1 y11.1 false false (Val.mk (0 : Int) (0 : Int) ([] : (List UInt8)) ([] : (List Val)) (0 : Int) ([] : (List Raw))) a_group), y11.2)) (cal (r05_parser_is y11.2 (Str.mk [79, 80, 84, 73, 79, 78, 65, 76])) fun y17 => br y17.1 (J16 ((GFld.mk y6.1 y11.1 true false (Val.mk (0 : Int) (0 : Int) ([] : (List UInt8)) ([] : (List Val)) (0 : Int) ([] : (List Raw))) a_group), y17.2)) (cal (r05_parser_is y17.2 (Str.mk [68, 69, 70, 65, 85, 76, 84])) fun y20 => br y20.1 (cal (r05_parser_value y20.2) fun y23 => J16 ((GFld.mk y6.1 y11.1 false true y23.1 a_group), y23.2)) (J16 ((GFld.mk y6.1 y11.1 false false (Val.mk (0 : Int) (0 : Int) ([] : (List UInt8)) ([] : (List Val)) (0 : Int) ([] : (List Raw))) a_group), y20.2))))) (fun q15 => asr (Nat.ble (a_n_.fields.length + ([q15.1] : (List GFld)).length) 68719476736) <| some (q15.2, (GNode.mk a_n_.kind a_n_.name a_n_.mark a_n_.con a_n_.items (a_n_.fields ++ ([q15.1] : (List GFld))) a_n_.root a_n_.more a_n_.of)))
def r05_parser_typ_F (r05_parser_field' : GPar → GNode → Int → Int → Option (GPar × GNode)) (r05_parser_typ' : GPar → Int → Option (Int × GPar)) (r05_parser_base' : GPar → GNode → Int → Option (GPar × GNode)) (r05_parser_fields' : GPar → GNode → Int → Option (GPar × GNode)) (a_x : GPar) (a_depth : Int) : Option (Int × GPar) :=
  br (!decide (a_x.e = (0 : Int))) (some ((0 : Int), a_x)) (cal (r05_parser_now a_x) fun y4 => cal (r05_begins y4.1) fun y7 => br (!y7) (cal (r05_parser_now y4.2) fun y8 => cal (r05_parser_fail y8.2 (7 : Int) y8.1) fun y11 => some ((0 : Int), y11)) (jp (ι := Bool) (fun J15 => br (decide ((16 : Int) < a_depth)) (J15 (true)) (J15 ((decide ((300 : Int) ≤ ((y4.2.m.nodes.length : Nat) : Int)))))) (fun q14 => br q14 (cal (r05_parser_now y4.2) fun y17 => cal (r05_parser_fail y17.2 (5 : Int) y17.1) fun y20 => some ((0 : Int), y20)) (asr (Nat.ble (y4.2.m.nodes.length + ([(GNode.mk (0 : Int) (Str.mk []) (GMark.mk false (0 : Int) (0 : Int)) (GCon.mk false false false false (0 : Int) (0 : Int)) ([] : (List GItem)) ([] : (List GFld)) (0 : Int) false (0 : Int))] : (List GNode)).length) 68719476736) <| cal (r05_parser_is (GPar.mk y4.2.l y4.2.at_ (GMod.mk y4.2.m.name y4.2.m.tagging y4.2.m.names y4.2.m.types (y4.2.m.nodes ++ ([(GNode.mk (0 : Int) (Str.mk []) (GMark.mk false (0 : Int) (0 : Int)) (GCon.mk false false false false (0 : Int) (0 : Int)) ([] : (List GItem)) ([] : (List GFld)) (0 : Int) false (0 : Int))] : (List GNode)))) y4.2.e y4.2.p) (Str.mk [91])) fun y31 => jp (ι := GPar × GNode) (fun J35 => br y31.1 (cal (r05_parser_now y31.2) fun y36 => cal (r05_parser_number y36.2) fun y40 => jp (ι := Bool) (fun J44 => br (decide (y40.2.e = (0 : Int))) (jp (ι := Bool) (fun J47 => br (decide (y40.1 < (0 : Int))) (J47 (true)) (J47 ((decide ((268435456 : Int) < y40.1))))) (fun q46 => J44 (q46))) (J44 (false))) (fun q43 => jp (ι := GPar) (fun J50 => br q43 (cal (r05_parser_fail y40.2 (12 : Int) y36.1) fun y51 => J50 (y51)) (J50 (y40.2))) (fun q49 => cal (r05_parser_must q49 (Str.mk [93])) fun y54 => cal (r05_parser_is y54 (Str.mk [69, 88, 80, 76, 73, 67, 73, 84])) fun y57 => br y57.1 (J35 (y57.2, (GNode.mk (0 : Int) (Str.mk []) (GMark.mk true y40.1 (1 : Int)) (GCon.mk false false false false (0 : Int) (0 : Int)) ([] : (List GItem)) ([] : (List GFld)) (0 : Int) false (0 : Int)))) (cal (r05_parser_is y57.2 (Str.mk [73, 77, 80, 76, 73, 67, 73, 84])) fun y60 => br y60.1 (J35 (y60.2, (GNode.mk (0 : Int) (Str.mk []) (GMark.mk true y40.1 (2 : Int)) (GCon.mk false false false false (0 : Int) (0 : Int)) ([] : (List GItem)) ([] : (List GFld)) (0 : Int) false (0 : Int)))) (J35 (y60.2, (GNode.mk (0 : Int) (Str.mk []) (GMark.mk true y40.1 (0 : Int)) (GCon.mk false false false false (0 : Int) (0 : Int)) ([] : (List GItem)) ([] : (List GFld)) (0 : Int) false (0 : Int)))))))) (J35 (y31.2, (GNode.mk (0 : Int) (Str.mk []) (GMark.mk false (0 : Int) (0 : Int)) (GCon.mk false false false false (0 : Int) (0 : Int)) ([] : (List GItem)) ([] : (List GFld)) (0 : Int) false (0 : Int))))) (fun q34 => cal (r05_parser_base' q34.1 q34.2 a_depth) fun y63 => br (!decide (y63.1.e = (0 : Int))) (some ((0 : Int), y63.1)) (asr (decide (0 ≤ ((y4.2.m.nodes.length : Nat) : Int) ∧ ((y4.2.m.nodes.length : Nat) : Int) < ((y63.1.m.nodes.length : Nat) : Int))) <| cal (y63.1.m.nodes[((y4.2.m.nodes.length : Nat) : Int).toNat]?) fun y74 => some (((y4.2.m.nodes.length : Nat) : Int), (GPar.mk y63.1.l y63.1.at_ (GMod.mk y63.1.m.name y63.1.m.tagging y63.1.m.names y63.1.m.types (y63.1.m.nodes.set (((y4.2.m.nodes.length : Nat) : Int).toNat) y63.2)) y63.1.e y63.1.p))))))))
def r05_parser_base_F (r05_parser_field' : GPar → GNode → Int → Int → Option (GPar × GNode)) (r05_parser_typ' : GPar → Int → Option (Int × GPar)) (r05_parser_base' : GPar → GNode → Int → Option (GPar × GNode)) (r05_parser_fields' : GPar → GNode → Int → Option (GPar × GNode)) (a_x : GPar) (a_n_ : GNode) (a_depth : Int) : Option (GPar × GNode) :=
  cal (r05_parser_now a_x) fun y6 => br (!decide (y6.2.e = (0 : Int))) (some (y6.2, a_n_)) (cal (r05_parser_is y6.2 (Str.mk [66, 79, 79, 76, 69, 65, 78])) fun y10 => br y10.1 (some (y10.2, (GNode.mk (1 : Int) a_n_.name a_n_.mark a_n_.con a_n_.items a_n_.fields a_n_.root a_n_.more a_n_.of))) (cal (r05_parser_is y10.2 (Str.mk [78, 85, 76, 76])) fun y13 => br y13.1 (some (y13.2, (GNode.mk (4 : Int) a_n_.name a_n_.mark a_n_.con a_n_.items a_n_.fields a_n_.root a_n_.more a_n_.of))) (cal (r05_parser_is y13.2 (Str.mk [85, 84, 70, 56, 83, 116, 114, 105, 110, 103])) fun y16 => br y16.1 (cal (r05_parser_size y16.2) fun y19 => some (y19.2, (GNode.mk (6 : Int) a_n_.name a_n_.mark y19.1 a_n_.items a_n_.fields a_n_.root a_n_.more a_n_.of))) (cal (r05_parser_is y16.2 (Str.mk [73, 78, 84, 69, 71, 69, 82])) fun y22 => br y22.1 (cal (r05_parser_is y22.2 (Str.mk [40])) fun y25 => br y25.1 (cal (r05_parser_bounds y25.2) fun y28 => cal (r05_parser_must y28.2 (Str.mk [41])) fun y31 => some (y31, (GNode.mk (2 : Int) a_n_.name a_n_.mark y28.1 a_n_.items a_n_.fields a_n_.root a_n_.more a_n_.of))) (some (y25.2, (GNode.mk (2 : Int) a_n_.name a_n_.mark a_n_.con a_n_.items a_n_.fields a_n_.root a_n_.more a_n_.of)))) (cal (r05_parser_is y22.2 (Str.mk [79, 67, 84, 69, 84])) fun y34 => br y34.1 (cal (r05_parser_must y34.2 (Str.mk [83, 84, 82, 73, 78, 71])) fun y37 => cal (r05_parser_size y37) fun y40 => some (y40.2, (GNode.mk (5 : Int) a_n_.name a_n_.mark y40.1 a_n_.items a_n_.fields a_n_.root a_n_.more a_n_.of))) (cal (r05_parser_is y34.2 (Str.mk [69, 78, 85, 77, 69, 82, 65, 84, 69, 68])) fun y43 => br y43.1 (cal (r05_parser_must y43.2 (Str.mk [123])) fun y46 => cal (r05_parser_items y46 (GNode.mk (3 : Int) a_n_.name a_n_.mark a_n_.con a_n_.items a_n_.fields a_n_.root a_n_.more a_n_.of)) fun y49 => cal (r05_parser_must y49.1 (Str.mk [125])) fun y54 => some (y54, y49.2)) (cal (r05_parser_is y43.2 (Str.mk [83, 69, 84])) fun y57 => br y57.1 (cal (r05_parser_must y57.2 (Str.mk [123])) fun y60 => cal (r05_parser_fields' y60 (GNode.mk (8 : Int) a_n_.name a_n_.mark a_n_.con a_n_.items a_n_.fields a_n_.root a_n_.more a_n_.of) a_depth) fun y63 => some (y63.1, y63.2)) (cal (r05_parser_is y57.2 (Str.mk [67, 72, 79, 73, 67, 69])) fun y69 => br y69.1 (cal (r05_parser_must y69.2 (Str.mk [123])) fun y72 => cal (r05_parser_fields' y72 (GNode.mk (9 : Int) a_n_.name a_n_.mark a_n_.con a_n_.items a_n_.fields a_n_.root a_n_.more a_n_.of) a_depth) fun y75 => some (y75.1, y75.2)) (cal (r05_parser_is y69.2 (Str.mk [83, 69, 81, 85, 69, 78, 67, 69])) fun y81 => br y81.1 (cal (r05_parser_is y81.2 (Str.mk [123])) fun y84 => br y84.1 (cal (r05_parser_fields' y84.2 (GNode.mk (7 : Int) a_n_.name a_n_.mark a_n_.con a_n_.items a_n_.fields a_n_.root a_n_.more a_n_.of) a_depth) fun y87 => some (y87.1, y87.2)) (cal (r05_parser_size y84.2) fun y93 => cal (r05_parser_must y93.2 (Str.mk [79, 70])) fun y96 => ck ((a_depth + (1 : Int))) <| cal (r05_parser_typ' y96 (a_depth + (1 : Int))) fun y100 => some (y100.2, (GNode.mk (10 : Int) a_n_.name a_n_.mark y93.1 a_n_.items a_n_.fields a_n_.root a_n_.more y100.1)))) (br (decide (y6.1.kind = (1 : Int))) (cal (r05_parser_next y81.2) fun y104 => some (y104.2, (GNode.mk (11 : Int) y6.1.text a_n_.mark a_n_.con a_n_.items a_n_.fields a_n_.root a_n_.more a_n_.of))) (cal (r05_parser_fail y81.2 (7 : Int) y6.1) fun y107 => some (y107, a_n_))))))))))))
def r05_parser_fields_F (r05_parser_field' : GPar → GNode → Int → Int → Option (GPar × GNode)) (r05_parser_typ' : GPar → Int → Option (Int × GPar)) (r05_parser_base' : GPar → GNode → Int → Option (GPar × GNode)) (r05_parser_fields' : GPar → GNode → Int → Option (GPar × GNode)) (a_x : GPar) (a_n_ : GNode) (a_depth : Int) : Option (GPar × GNode) :=
  cal (r05_parser_is a_x (Str.mk [125])) fun y6 => br y6.1 (some (y6.2, a_n_)) (jp (ι := GPar × GNode) (fun J10 => lp (ι := Int × GPar × GNode) (fun L12 q11 => br (decide (q11.2.1.e = (0 : Int))) (jp (ι := Int × GPar × GNode) (fun J64 => jp (ι := Bool × GPar) (fun J66 => br (!q11.2.2.more) (cal (r05_parser_is q11.2.1 (Str.mk [46, 46, 46])) fun y68 => J66 (y68.1, y68.2)) (J66 (false, q11.2.1))) (fun q65 => br q65.1 (J64 (q11.1, q65.2, (GNode.mk q11.2.2.kind q11.2.2.name q11.2.2.mark q11.2.2.con q11.2.2.items q11.2.2.fields (q11.2.2.fields.length : Int) true q11.2.2.of))) (jp (ι := Bool × GPar) (fun J72 => br q11.2.2.more (cal (r05_parser_is q65.2 (Str.mk [91, 91])) fun y74 => J72 (y74.1, y74.2)) (J72 (false, q65.2))) (fun q71 => br q71.1 (ck ((q11.1 + (1 : Int))) <| jp (ι := GPar × GNode) (fun J79 => lp (ι := GPar × GNode) (fun L81 q80 => br (decide (q80.1.e = (0 : Int))) (cal (r05_parser_field' q80.1 q80.2 a_depth (q11.1 + (1 : Int))) fun y91 => cal (r05_parser_is y91.1 (Str.mk [44])) fun y97 => br (!y97.1) (J79 (y97.2, y91.2)) (L81 (y97.2, y91.2))) (J79 (q80.1, q80.2))) ((q71.2, q11.2.2))) (fun q78 => cal (r05_parser_must q78.1 (Str.mk [93, 93])) fun y101 => J64 ((q11.1 + (1 : Int)), y101, q78.2))) (cal (r05_parser_field' q71.2 q11.2.2 a_depth (0 : Int)) fun y104 => J64 (q11.1, y104.1, y104.2)))))) (fun q63 => cal (r05_parser_is q63.2.1 (Str.mk [44])) fun y110 => br (!y110.1) (J10 (y110.2, q63.2.2)) (L12 (q63.1, y110.2, q63.2.2)))) (J10 (q11.2.1, q11.2.2))) (((0 : Int), y6.2, a_n_))) (fun q9 => cal (r05_parser_must q9.1 (Str.mk [125])) fun y114 => br (!q9.2.more) (some (y114, (GNode.mk q9.2.kind q9.2.name q9.2.mark q9.2.con q9.2.items q9.2.fields (q9.2.fields.length : Int) q9.2.more q9.2.of))) (some (y114, q9.2))))
def r05_parser_field_grp : Nat → (GPar → GNode → Int → Int → Option (GPar × GNode)) × (GPar → Int → Option (Int × GPar)) × (GPar → GNode → Int → Option (GPar × GNode)) × (GPar → GNode → Int → Option (GPar × GNode))
  | 0 => (fun _ _ _ _ => none, fun _ _ => none, fun _ _ _ => none, fun _ _ _ => none)
  | n + 1 => let p := r05_parser_field_grp n; (r05_parser_field_F p.1 p.2.1 p.2.2.1 p.2.2.2, r05_parser_typ_F p.1 p.2.1 p.2.2.1 p.2.2.2, r05_parser_base_F p.1 p.2.1 p.2.2.1 p.2.2.2, r05_parser_fields_F p.1 p.2.1 p.2.2.1 p.2.2.2)
def r05_parser_field (n : Nat) : GPar → GNode → Int → Int → Option (GPar × GNode) := (r05_parser_field_grp n).1
def r05_parser_typ (n : Nat) : GPar → Int → Option (Int × GPar) := (r05_parser_field_grp n).2.1
def r05_parser_base (n : Nat) : GPar → GNode → Int → Option (GPar × GNode) := (r05_parser_field_grp n).2.2.1
def r05_parser_fields (n : Nat) : GPar → GNode → Int → Option (GPar × GNode) := (r05_parser_field_grp n).2.2.2

def r05_Parse (a_text : Str) : Option (GMod × Int × Int) :=
  cal (r04_Tokens a_text) fun y2 => br (!decide (y2.2.2 = (0 : Int))) (some ((GMod.mk (Str.mk []) (0 : Int) ([] : (List Str)) ([] : (List Int)) ([] : (List GNode))), y2.2.1, y2.2.2)) (cal (r05_parser_kind (GPar.mk y2.1 (0 : Int) (GMod.mk (Str.mk []) (0 : Int) ([] : (List Str)) ([] : (List Int)) ([] : (List GNode))) (0 : Int) (0 : Int)) (1 : Int)) fun y7 => cal (r05_parser_must (GPar.mk y7.2.l y7.2.at_ (GMod.mk y7.1 y7.2.m.tagging y7.2.m.names y7.2.m.types y7.2.m.nodes) y7.2.e y7.2.p) (Str.mk [68, 69, 70, 73, 78, 73, 84, 73, 79, 78, 83])) fun y10 => jp (ι := GPar) (fun J14 => cal (r05_parser_is y10 (Str.mk [69, 88, 80, 76, 73, 67, 73, 84])) fun y15 => br y15.1 (cal (r05_parser_must y15.2 (Str.mk [84, 65, 71, 83])) fun y18 => J14 (y18)) (cal (r05_parser_is y15.2 (Str.mk [73, 77, 80, 76, 73, 67, 73, 84])) fun y21 => br y21.1 (cal (r05_parser_must (GPar.mk y21.2.l y21.2.at_ (GMod.mk y21.2.m.name (1 : Int) y21.2.m.names y21.2.m.types y21.2.m.nodes) y21.2.e y21.2.p) (Str.mk [84, 65, 71, 83])) fun y24 => J14 (y24)) (cal (r05_parser_is y21.2 (Str.mk [65, 85, 84, 79, 77, 65, 84, 73, 67])) fun y27 => br y27.1 (cal (r05_parser_must (GPar.mk y27.2.l y27.2.at_ (GMod.mk y27.2.m.name (2 : Int) y27.2.m.names y27.2.m.types y27.2.m.nodes) y27.2.e y27.2.p) (Str.mk [84, 65, 71, 83])) fun y30 => J14 (y30)) (J14 (y27.2))))) (fun q13 => cal (r05_parser_must q13 (Str.mk [58, 58, 61])) fun y33 => cal (r05_parser_must y33 (Str.mk [66, 69, 71, 73, 78])) fun y36 => lp (ι := GPar) (fun L40 q39 => jp (ι := Bool × GPar) (fun J92 => br (decide (q39.e = (0 : Int))) (cal (r05_parser_is q39 (Str.mk [69, 78, 68])) fun y94 => J92 ((!y94.1), y94.2)) (J92 (false, q39))) (fun q91 => br q91.1 (cal (r05_parser_now q91.2) fun y97 => cal (r05_parser_kind y97.2 (1 : Int)) fun y101 => jp (ι := Bool) (fun J105 => br (decide (y101.2.e = (0 : Int))) (J105 ((decide ((40 : Int) ≤ (y101.2.m.names.length : Int))))) (J105 (false))) (fun q104 => jp (ι := GPar) (fun J108 => br q104 (cal (r05_parser_fail y101.2 (5 : Int) y97.1) fun y109 => J108 (y109)) (J108 (y101.2))) (fun q107 => cal (r05_parser_must q107 (Str.mk [58, 58, 61])) fun y112 => cal (r05_parser_typ fuel y112 (0 : Int)) fun y115 => asr (Nat.ble (y115.2.m.names.length + ([y101.1] : (List Str)).length) 68719476736) <| asr (Nat.ble (y115.2.m.types.length + ([y115.1] : (List Int)).length) 68719476736) <| L40 ((GPar.mk y115.2.l y115.2.at_ (GMod.mk y115.2.m.name y115.2.m.tagging (y115.2.m.names ++ ([y101.1] : (List Str))) (y115.2.m.types ++ ([y115.1] : (List Int))) y115.2.m.nodes) y115.2.e y115.2.p))))) (jp (ι := Bool × GPar) (fun J126 => br (decide (q91.2.e = (0 : Int))) (cal (r05_parser_now q91.2) fun y128 => J126 ((!decide (y128.1.kind = (0 : Int))), y128.2)) (J126 (false, q91.2))) (fun q125 => jp (ι := GPar) (fun J132 => br q125.1 (cal (r05_parser_now q125.2) fun y133 => cal (r05_parser_fail y133.2 (7 : Int) y133.1) fun y136 => J132 (y136)) (J132 (q125.2))) (fun q131 => br (!decide (q131.e = (0 : Int))) (some ((GMod.mk (Str.mk []) (0 : Int) ([] : (List Str)) ([] : (List Int)) ([] : (List GNode))), q131.p, q131.e)) (some (q131.m, (0 : Int), (0 : Int)))))))) ((y36))))
end Go.Proofs.YtdcdndflfhaejaaDoor


namespace Go.Proofs.YtdcdndflfhaejaaDoor
open Go.Sy
set_option maxRecDepth 4000
def refs_of (a_m : GMod) (a_at_ : Int) : Option (Int) :=
  br (decide ((a_m.types.length : Int) ≤ a_at_)) (some ((-1 : Int))) (cal (getI a_m.types a_at_) fun y1 => some (y1))

def slices_Index_Lstring_string (a_s : (List Str)) (a_v : Str) : Option (Int) :=
  lp (ι := Int) (fun L2 q1 => br (decide (q1 < (a_s.length : Int))) (cal (getI a_s q1) fun y5 => br (decide (a_v = y5)) (some (q1)) (ck ((q1 + (1 : Int))) <| L2 ((q1 + (1 : Int))))) (some ((-1 : Int)))) (((0 : Int)))

def slices_Contains_Lstring_string (a_s : (List Str)) (a_v : Str) : Option (Bool) :=
  cal (slices_Index_Lstring_string a_s a_v) fun y1 => some ((decide ((0 : Int) ≤ y1)))

def refs_with (a_l : (List Str)) (a_more : (List Str)) : Option ((List Str)) :=
  lp (ι := (List Str) × Int) (fun L2 q1 => br (decide (q1.2 < (a_more.length : Int))) (jp (ι := (List Str)) (fun J12 => cal (getI a_more q1.2) fun y13 => cal (slices_Contains_Lstring_string q1.1 y13) fun y14 => br (!y14) (asr (Nat.ble (q1.1.length + ([y13] : (List Str)).length) 68719476736) <| J12 ((q1.1 ++ ([y13] : (List Str))))) (J12 (q1.1))) (fun q11 => ck ((q1.2 + (1 : Int))) <| L2 (q11, (q1.2 + (1 : Int))))) (some (q1.1))) ((a_l, (0 : Int)))

def refs_refers_c1 (a_n_ : GNode) (a_a1 : (List Str)) : Option ((List Str)) :=
  br (decide (a_n_.kind = (11 : Int))) (cal (refs_with a_a1 ([a_n_.name] : (List Str))) fun y3 => some (y3)) (some (a_a1))

def refs_walk_F (refs_walk' : GMod → Int → (List Bool) → (List Str) → Option ((List Bool) × (List Str))) (a_m : GMod) (a_node : Int) (a_seen : (List Bool)) (a_do__0 : (List Str)) : Option ((List Bool) × (List Str)) :=
  jp (ι := Bool) (fun J3 => br (decide (a_node < (0 : Int))) (J3 (true)) (J3 ((decide ((a_m.nodes.length : Int) ≤ a_node))))) (fun q2 => jp (ι := Bool) (fun J6 => br q2 (J6 (true)) (asr (decide (0 ≤ a_node ∧ a_node < ((a_seen.length : Nat) : Int))) <| cal (a_seen[a_node.toNat]?) fun y9 => J6 (y9))) (fun q5 => br q5 (some (a_seen, a_do__0)) (asr (decide (0 ≤ a_node ∧ a_node < ((a_seen.length : Nat) : Int))) <| cal (a_seen[a_node.toNat]?) fun y11 => cal (getI a_m.nodes a_node) fun y12 => cal (refs_refers_c1 y12 a_do__0) fun y14 => br (decide (y12.kind = (11 : Int))) (some ((a_seen.set a_node.toNat true), y14)) (lp (ι := (List Bool) × Int × (List Str)) (fun L17 q16 => br (decide (q16.2.1 < (y12.fields.length : Int))) (cal (getI y12.fields q16.2.1) fun y27 => cal (refs_walk' a_m y27.ty q16.1 q16.2.2) fun y29 => asr (decide (y29.1.length = q16.1.length)) <| ck ((q16.2.1 + (1 : Int))) <| L17 (y29.1, (q16.2.1 + (1 : Int)), y29.2)) (br (decide (y12.kind = (10 : Int))) (cal (refs_walk' a_m y12.of q16.1 q16.2.2) fun y33 => asr (decide (y33.1.length = q16.1.length)) <| some (y33.1, y33.2)) (some (q16.1, q16.2.2)))) (((a_seen.set a_node.toNat true), (0 : Int), y14))))))
def refs_walk_grp : Nat → (GMod → Int → (List Bool) → (List Str) → Option ((List Bool) × (List Str)))
  | 0 => (fun _ _ _ _ => none)
  | n + 1 => let p := refs_walk_grp n; (refs_walk_F p)
def refs_walk (n : Nat) : GMod → Int → (List Bool) → (List Str) → Option ((List Bool) × (List Str)) := (refs_walk_grp n)

def refs_refers (a_m : GMod) (a_node : Int) : Option ((List Str)) :=
  asr (decide (0 ≤ (a_m.nodes.length : Int) ∧ (a_m.nodes.length : Int) ≤ 68719476736)) <| cal (refs_walk fuel a_m a_node (List.replicate ((a_m.nodes.length : Int)).toNat false) ([] : (List Str))) fun y5 => asr (decide (y5.1.length = (List.replicate ((a_m.nodes.length : Int)).toNat false).length)) <| some (y5.2)

def refs_Find (a_m : GMod) (a_name : Str) : Option (Int) :=
  cal (slices_Index_Lstring_string a_m.names a_name) fun y1 => some (y1)

def refs_Uses (a_m : GMod) (a_node : Int) : Option ((List Int)) :=
  cal (refs_refers a_m a_node) fun y1 => lp (ι := (List Int) × Int) (fun L3 q2 => br (decide (q2.2 < (y1.length : Int))) (jp (ι := (List Int)) (fun J14 => cal (getI y1 q2.2) fun y15 => cal (refs_Find a_m y15) fun y16 => br (decide ((0 : Int) ≤ y16)) (asr (Nat.ble (q2.1.length + ([y16] : (List Int)).length) 68719476736) <| J14 ((q2.1 ++ ([y16] : (List Int))))) (J14 (q2.1))) (fun q13 => ck ((q2.2 + (1 : Int))) <| L3 (q13, (q2.2 + (1 : Int))))) (some (q2.1))) ((([] : (List Int)), (0 : Int)))

def refs_lost_c1 (a_s : Str) (a_a1 : GMod) : Option (Bool) :=
  cal (refs_Find a_a1 a_s) fun y1 => some ((decide (y1 < (0 : Int))))

def slices_IndexFunc_Lstring_string (a_s : (List Str)) (a_f_0 : GMod) : Option (Int) :=
  lp (ι := Int) (fun L2 q1 => br (decide (q1 < (a_s.length : Int))) (cal (getI a_s q1) fun y6 => cal (refs_lost_c1 y6 a_f_0) fun y7 => br y7 (some (q1)) (ck ((q1 + (1 : Int))) <| L2 ((q1 + (1 : Int))))) (some ((-1 : Int)))) (((0 : Int)))

def slices_ContainsFunc_Lstring_string (a_s : (List Str)) (a_f_0 : GMod) : Option (Bool) :=
  cal (slices_IndexFunc_Lstring_string a_s a_f_0) fun y1 => some ((decide ((0 : Int) ≤ y1)))

def refs_lost (a_m : GMod) (a_node : Int) : Option (Bool) :=
  cal (refs_refers a_m a_node) fun y1 => cal (slices_ContainsFunc_Lstring_string y1 a_m) fun y2 => some (y2)

def refs_reaches_F (refs_reaches' : (List (List Int)) → Int → (List Bool) → Option ((List Bool))) (a_uses : (List (List Int))) (a_at_ : Int) (a_seen : (List Bool)) : Option ((List Bool)) :=
  cal (getI a_uses a_at_) fun y1 => lp (ι := (List Bool) × Int) (fun L3 q2 => br (decide (q2.2 < (y1.length : Int))) (jp (ι := (List Bool)) (fun J15 => cal (getI y1 q2.2) fun y16 => asr (decide (0 ≤ y16 ∧ y16 < ((q2.1.length : Nat) : Int))) <| cal (q2.1[y16.toNat]?) fun y18 => br (!y18) (asr (decide (0 ≤ y16 ∧ y16 < ((q2.1.length : Nat) : Int))) <| cal (q2.1[y16.toNat]?) fun y20 => cal (refs_reaches' a_uses y16 (q2.1.set y16.toNat true)) fun y21 => asr (decide (y21.length = q2.1.length)) <| J15 (y21)) (J15 (q2.1))) (fun q14 => ck ((q2.2 + (1 : Int))) <| L3 (q14, (q2.2 + (1 : Int))))) (some (q2.1))) ((a_seen, (0 : Int)))
def refs_reaches_grp : Nat → ((List (List Int)) → Int → (List Bool) → Option ((List Bool)))
  | 0 => (fun _ _ _ => none)
  | n + 1 => let p := refs_reaches_grp n; (refs_reaches_F p)
def refs_reaches (n : Nat) : (List (List Int)) → Int → (List Bool) → Option ((List Bool)) := (refs_reaches_grp n)

def refs_wrong (a_m : GMod) (a_uses : (List (List Int))) : Option (Int × Int) :=
  lp (ι := Int) (fun L2 q1 => br (decide (q1 < (a_m.names.length : Int))) (cal (getI a_m.names q1) fun y49 => cal (refs_Find a_m y49) fun y50 => br (decide (y50 < q1)) (some (q1, (8 : Int))) (ck ((q1 + (1 : Int))) <| L2 ((q1 + (1 : Int))))) (lp (ι := Int) (fun L53 q52 => br (decide (q52 < (a_m.names.length : Int))) (cal (refs_of a_m q52) fun y74 => cal (refs_lost a_m y74) fun y75 => br y75 (some (q52, (9 : Int))) (ck ((q52 + (1 : Int))) <| L53 ((q52 + (1 : Int))))) (lp (ι := Int) (fun L78 q77 => br (decide (q77 < (a_m.names.length : Int))) (asr (decide (0 ≤ (a_m.names.length : Int) ∧ (a_m.names.length : Int) ≤ 68719476736)) <| cal (refs_reaches fuel a_uses q77 (List.replicate ((a_m.names.length : Int)).toNat false)) fun y88 => asr (decide (y88.length = (List.replicate ((a_m.names.length : Int)).toNat false).length)) <| asr (decide (0 ≤ q77 ∧ q77 < ((y88.length : Nat) : Int))) <| cal (y88[q77.toNat]?) fun y91 => br y91 (some (q77, (10 : Int))) (ck ((q77 + (1 : Int))) <| L78 ((q77 + (1 : Int))))) (some ((0 : Int), (0 : Int)))) (((0 : Int))))) (((0 : Int))))) (((0 : Int)))

def slices_Index_Lint_int (a_s : (List Int)) (a_v : Int) : Option (Int) :=
  lp (ι := Int) (fun L2 q1 => br (decide (q1 < (a_s.length : Int))) (cal (getI a_s q1) fun y5 => br (decide (a_v = y5)) (some (q1)) (ck ((q1 + (1 : Int))) <| L2 ((q1 + (1 : Int))))) (some ((-1 : Int)))) (((0 : Int)))

def slices_Contains_Lint_int (a_s : (List Int)) (a_v : Int) : Option (Bool) :=
  cal (slices_Index_Lint_int a_s a_v) fun y1 => some ((decide ((0 : Int) ≤ y1)))

def refs_Order_c1 (a_k : Int) (a_a1 : (List Int)) : Option (Bool × (List Int)) :=
  cal (slices_Contains_Lint_int a_a1 a_k) fun y2 => some ((!y2), a_a1)

def slices_IndexFunc_Lint_int (a_s : (List Int)) (a_f_0 : (List Int)) : Option (Int × (List Int)) :=
  lp (ι := Int × (List Int)) (fun L3 q2 => br (decide (q2.1 < (a_s.length : Int))) (cal (getI a_s q2.1) fun y8 => cal (refs_Order_c1 y8 q2.2) fun y9 => br y9.1 (some (q2.1, y9.2)) (ck ((q2.1 + (1 : Int))) <| L3 ((q2.1 + (1 : Int)), y9.2))) (some ((-1 : Int), q2.2))) (((0 : Int), a_f_0))

def slices_ContainsFunc_Lint_int (a_s : (List Int)) (a_f_0 : (List Int)) : Option (Bool × (List Int)) :=
  cal (slices_IndexFunc_Lint_int a_s a_f_0) fun y2 => some ((decide ((0 : Int) ≤ y2.1)), y2.2)

def refs_Order (a_m : GMod) : Option ((List Int) × Int × Int) :=
  lp (ι := (List (List Int)) × Int) (fun L2 q1 => br (decide (q1.2 < (a_m.names.length : Int))) (cal (refs_of a_m q1.2) fun y65 => cal (refs_Uses a_m y65) fun y66 => asr (Nat.ble (q1.1.length + ([y66] : (List (List Int))).length) 68719476736) <| ck ((q1.2 + (1 : Int))) <| L2 ((q1.1 ++ ([y66] : (List (List Int)))), (q1.2 + (1 : Int)))) (cal (refs_wrong a_m q1.1) fun y71 => br (!decide (y71.2 = (0 : Int))) (some (([] : (List Int)), y71.1, y71.2)) (lp (ι := (List Int)) (fun L75 q74 => br (decide ((q74.length : Int) < (a_m.names.length : Int))) (lp (ι := Int × (List Int)) (fun L102 q101 => br (decide (q101.1 < (a_m.names.length : Int))) (cal (slices_Contains_Lint_int q101.2 q101.1) fun y114 => jp (ι := Bool × (List Int)) (fun J116 => br (!y114) (cal (getI q1.1 q101.1) fun y118 => cal (slices_ContainsFunc_Lint_int y118 q101.2) fun y119 => J116 ((!y119.1), y119.2)) (J116 (false, q101.2))) (fun q115 => br q115.1 (asr (Nat.ble (q115.2.length + ([q101.1] : (List Int)).length) 68719476736) <| L75 ((q115.2 ++ ([q101.1] : (List Int))))) (ck ((q101.1 + (1 : Int))) <| L102 ((q101.1 + (1 : Int)), q115.2)))) (L75 (q101.2))) (((0 : Int), q74))) (some (q74, (0 : Int), (0 : Int)))) ((([] : (List Int))))))) ((([] : (List (List Int))), (0 : Int)))

def law07_awake  : Option (Bool) :=
  cal (r05_Parse (Str.mk [77, 32, 68, 69, 70, 73, 78, 73, 84, 73, 79, 78, 83, 32, 58, 58, 61, 32, 66, 69, 71, 73, 78, 32, 65, 32, 58, 58, 61, 32, 66, 32, 66, 32, 58, 58, 61, 32, 78, 85, 76, 76, 32, 69, 78, 68])) fun y1 => cal (refs_Order y1.1) fun y3 => jp (ι := Bool) (fun J5 => br (decide (y3.2.2 = (0 : Int))) (J5 ((decide ((y3.1.length : Int) = (2 : Int))))) (J5 (false))) (fun q4 => jp (ι := Bool) (fun J8 => br q4 (cal (getI y3.1 (0 : Int)) fun y10 => J8 ((decide (y10 = (1 : Int))))) (J8 (false))) (fun q7 => jp (ι := Bool) (fun J12 => br q7 (cal (refs_Find y1.1 (Str.mk [66])) fun y14 => J12 ((decide (y14 = (1 : Int))))) (J12 (false))) (fun q11 => some (q11))))

def r07_Find (a_m : GMod) (a_name : Str) : Option (Int) :=
  lp (ι := Int) (fun L2 q1 => br (decide (q1 < (a_m.names.length : Int))) (cal (getI a_m.names q1) fun y5 => br (decide (y5 = a_name)) (some (q1)) (ck ((q1 + (1 : Int))) <| L2 ((q1 + (1 : Int))))) (some ((-1 : Int)))) (((0 : Int)))

def h_In_int (a_l : (List Int)) (a_x : Int) : Option (Bool) :=
  lp (ι := Int) (fun L2 q1 => br (decide (q1 < (a_l.length : Int))) (cal (getI a_l q1) fun y5 => br (decide (y5 = a_x)) (some (true)) (ck ((q1 + (1 : Int))) <| L2 ((q1 + (1 : Int))))) (some (false))) (((0 : Int)))

def r07_uses_F (r07_uses' : GMod → Int → Int → (List Int) → Option ((List Int) × Bool)) (a_m : GMod) (a_node : Int) (a_depth : Int) (a_l : (List Int)) : Option ((List Int) × Bool) :=
  jp (ι := Bool) (fun J2 => br (decide (a_node < (0 : Int))) (J2 (true)) (J2 ((decide ((a_m.nodes.length : Int) ≤ a_node))))) (fun q1 => jp (ι := Bool) (fun J5 => br q1 (J5 (true)) (J5 ((decide ((16 : Int) < a_depth))))) (fun q4 => br q4 (some (a_l, false)) (cal (getI a_m.nodes a_node) fun y7 => br (decide (y7.kind = (11 : Int))) (cal (r07_Find a_m y7.name) fun y9 => br (decide (y9 < (0 : Int))) (some (a_l, true)) (cal (h_In_int a_l y9) fun y10 => jp (ι := (List Int)) (fun J12 => br (!y10) (asr (Nat.ble (a_l.length + ([y9] : (List Int)).length) 68719476736) <| J12 ((a_l ++ ([y9] : (List Int))))) (J12 (a_l))) (fun q11 => some (q11, false)))) (lp (ι := (List Int) × Bool × Int) (fun L17 q16 => br (decide (q16.2.2 < (y7.fields.length : Int))) (cal (getI y7.fields q16.2.2) fun y28 => ck ((a_depth + (1 : Int))) <| cal (r07_uses' a_m y28.ty (a_depth + (1 : Int)) q16.1) fun y30 => jp (ι := Bool) (fun J33 => br q16.2.1 (J33 (true)) (J33 (y30.2))) (fun q32 => ck ((q16.2.2 + (1 : Int))) <| L17 (y30.1, q32, (q16.2.2 + (1 : Int))))) (jp (ι := (List Int) × Bool) (fun J37 => br (decide (y7.kind = (10 : Int))) (ck ((a_depth + (1 : Int))) <| cal (r07_uses' a_m y7.of (a_depth + (1 : Int)) q16.1) fun y39 => jp (ι := Bool) (fun J42 => br q16.2.1 (J42 (true)) (J42 (y39.2))) (fun q41 => J37 (y39.1, q41))) (J37 (q16.1, q16.2.1))) (fun q36 => some (q36.1, q36.2)))) ((a_l, false, (0 : Int)))))))
def r07_uses_grp : Nat → (GMod → Int → Int → (List Int) → Option ((List Int) × Bool))
  | 0 => (fun _ _ _ _ => none)
  | n + 1 => let p := r07_uses_grp n; (r07_uses_F p)
def r07_uses (n : Nat) : GMod → Int → Int → (List Int) → Option ((List Int) × Bool) := (r07_uses_grp n)

def r07_reach (a_graph : (List (List Int))) (a_from_ : Int) (a_to : Int) : Option (Bool) :=
  cal (getI a_graph a_from_) fun y2 => asr (Nat.ble (([] : (List Int)).length + y2.length) 68719476736) <| lp (ι := (List Int) × (List Int)) (fun L6 q5 => br (decide ((0 : Int) < (q5.2.length : Int))) (cal (getI q5.2 (0 : Int)) fun y17 => asr (decide (0 ≤ (1 : Int) ∧ (1 : Int) ≤ (q5.2.length : Int))) <| br (decide (y17 = a_to)) (some (true)) (cal (h_In_int q5.1 y17) fun y20 => br (!y20) (asr (Nat.ble (q5.1.length + ([y17] : (List Int)).length) 68719476736) <| cal (getI a_graph y17) fun y24 => asr (Nat.ble ((q5.2.drop ((1 : Int)).toNat).length + y24.length) 68719476736) <| L6 ((q5.1 ++ ([y17] : (List Int))), ((q5.2.drop ((1 : Int)).toNat) ++ y24))) (L6 (q5.1, (q5.2.drop ((1 : Int)).toNat))))) (some (false))) ((([] : (List Int)), (([] : (List Int)) ++ y2)))

def r07_Order (a_m : GMod) : Option ((List Int) × Int × Int) :=
  lp (ι := Int) (fun L2 q1 => br (decide (q1 < (a_m.names.length : Int))) (asr (decide (0 ≤ (0 : Int) ∧ (0 : Int) ≤ q1 ∧ q1 ≤ (a_m.names.length : Int))) <| cal (getI a_m.names q1) fun y804 => cal (h_In_string ((a_m.names.take (q1).toNat).drop (0 : Int).toNat) y804) fun y805 => br y805 (some (([] : (List Int)), q1, (8 : Int))) (ck ((q1 + (1 : Int))) <| L2 ((q1 + (1 : Int))))) (lp (ι := (List (List Int)) × Int × Int) (fun L808 q807 => br (decide (q807.2.2 < (a_m.names.length : Int))) (jp (ι := (List (List Int)) × Int) (fun J1338 => cal (getI a_m.types q807.2.2) fun y1339 => cal (r07_uses fuel a_m y1339 (0 : Int) ([] : (List Int))) fun y1341 => asr (Nat.ble (q807.1.length + ([y1341.1] : (List (List Int))).length) 68719476736) <| jp (ι := Bool) (fun J1347 => br y1341.2 (J1347 ((decide (q807.2.1 < (0 : Int))))) (J1347 (false))) (fun q1346 => br q1346 (J1338 ((q807.1 ++ ([y1341.1] : (List (List Int)))), q807.2.2)) (J1338 ((q807.1 ++ ([y1341.1] : (List (List Int)))), q807.2.1)))) (fun q1337 => ck ((q807.2.2 + (1 : Int))) <| L808 (q1337.1, q1337.2, (q807.2.2 + (1 : Int))))) (br (decide ((0 : Int) ≤ q807.2.1)) (some (([] : (List Int)), q807.2.1, (9 : Int))) (lp (ι := Int) (fun L1351 q1350 => br (decide (q1350 < (a_m.names.length : Int))) (cal (r07_reach q807.1 q1350 q1350) fun y1476 => br y1476 (some (([] : (List Int)), q1350, (10 : Int))) (ck ((q1350 + (1 : Int))) <| L1351 ((q1350 + (1 : Int))))) (lp (ι := (List Int)) (fun L1479 q1478 => br (decide ((q1478.length : Int) < (a_m.names.length : Int))) (lp (ι := Int) (fun L1540 q1539 => br (decide (q1539 < (a_m.names.length : Int))) (cal (h_In_int q1478 q1539) fun y1569 => lp (ι := Bool × Int) (fun L1571 q1570 => cal (getI q807.1 q1539) fun y1584 => br (decide (q1570.2 < (y1584.length : Int))) (jp (ι := Bool) (fun J1586 => br q1570.1 (cal (getI q807.1 q1539) fun y1588 => cal (getI y1588 q1570.2) fun y1589 => cal (h_In_int q1478 y1589) fun y1590 => J1586 (y1590)) (J1586 (false))) (fun q1585 => ck ((q1570.2 + (1 : Int))) <| L1571 (q1585, (q1570.2 + (1 : Int))))) (br q1570.1 (asr (Nat.ble (q1478.length + ([q1539] : (List Int)).length) 68719476736) <| L1479 ((q1478 ++ ([q1539] : (List Int))))) (ck ((q1539 + (1 : Int))) <| L1540 ((q1539 + (1 : Int)))))) (((!y1569), (0 : Int)))) (L1479 (q1478))) (((0 : Int)))) (some (q1478, (0 : Int), (0 : Int)))) ((([] : (List Int)))))) (((0 : Int)))))) ((([] : (List (List Int))), (-1 : Int), (0 : Int))))) (((0 : Int)))

def r07_Uses (a_m : GMod) (a_node : Int) : Option ((List Int)) :=
  cal (r07_uses fuel a_m a_node (0 : Int) ([] : (List Int))) fun y2 => some (y2.1)

def h_Plain_int_c1 (a_x : Int) (a_y : Int) : Option (Bool) :=
  some ((decide (a_x = a_y)))

def h_Same_int (a_a : (List Int)) (a_b : (List Int)) : Option (Bool) :=
  br (!decide ((a_a.length : Int) = (a_b.length : Int))) (some (false)) (lp (ι := Int) (fun L2 q1 => br (decide (q1 < (a_a.length : Int))) (cal (getI a_a q1) fun y7 => cal (getI a_b q1) fun y8 => cal (h_Plain_int_c1 y7 y8) fun y9 => br (!y9) (some (false)) (ck ((q1 + (1 : Int))) <| L2 ((q1 + (1 : Int))))) (some (true))) (((0 : Int))))

def h_Plain_int (a_a : (List Int)) (a_b : (List Int)) : Option (Bool) :=
  cal (h_Same_int a_a a_b) fun y1 => some (y1)

def law07_RefsTell (a_text : Str) (a_name : Str) (a_node : Int) : Option (Bool) :=
  cal (r05_Parse a_text) fun y1 => jp (ι := Bool) (fun J4 => br (decide ((6000 : Int) < (a_text.b.length : Int))) (J4 (true)) (J4 ((!decide (y1.2.2 = (0 : Int)))))) (fun q3 => br q3 (cal (law07_awake ) fun y6 => some (y6)) (cal (refs_Order y1.1) fun y7 => cal (r07_Order y1.1) fun y8 => cal (law07_awake ) fun y9 => jp (ι := Bool) (fun J11 => br y9 (cal (refs_Find y1.1 a_name) fun y13 => cal (r07_Find y1.1 a_name) fun y14 => J11 ((decide (y13 = y14)))) (J11 (false))) (fun q10 => jp (ι := Bool) (fun J16 => br q10 (cal (refs_Uses y1.1 a_node) fun y18 => cal (r07_Uses y1.1 a_node) fun y19 => cal (h_Plain_int y18 y19) fun y20 => J16 (y20)) (J16 (false))) (fun q15 => jp (ι := Bool) (fun J22 => br q15 (cal (h_Plain_int y7.1 y8.1) fun y24 => J22 (y24)) (J22 (false))) (fun q21 => jp (ι := Bool) (fun J26 => br q21 (J26 ((decide (y7.2.1 = y8.2.1)))) (J26 (false))) (fun q25 => jp (ι := Bool) (fun J29 => br q25 (J29 ((decide (y7.2.2 = y8.2.2)))) (J29 (false))) (fun q28 => some (q28))))))))

def law07_RefsOrder (a_text : Str) : Option (Bool) :=
  cal (r05_Parse a_text) fun y1 => jp (ι := Bool) (fun J4 => br (decide ((6000 : Int) < (a_text.b.length : Int))) (J4 (true)) (J4 ((!decide (y1.2.2 = (0 : Int)))))) (fun q3 => br q3 (cal (law07_awake ) fun y6 => some (y6)) (cal (refs_Order y1.1) fun y7 => cal (law07_awake ) fun y8 => jp (ι := Bool) (fun J10 => br (!y8) (J10 (true)) (J10 ((!decide (y7.2.2 = (0 : Int)))))) (fun q9 => br q9 (cal (law07_awake ) fun y12 => jp (ι := Bool) (fun J14 => br y12 (J14 ((decide ((y7.1.length : Int) = (0 : Int))))) (J14 (false))) (fun q13 => some (q13))) (lp (ι := Int) (fun L17 q16 => br (decide (q16 < (y7.1.length : Int))) (cal (getI y7.1 q16) fun y45 => jp (ι := Bool) (fun J47 => br (decide (y45 < (0 : Int))) (J47 (true)) (cal (getI y7.1 q16) fun y49 => J47 ((decide ((y1.1.types.length : Int) ≤ y49))))) (fun q46 => jp (ι := Bool) (fun J51 => br q46 (J51 (true)) (asr (decide (0 ≤ (0 : Int) ∧ (0 : Int) ≤ q16 ∧ q16 ≤ (y7.1.length : Int))) <| cal (getI y7.1 q16) fun y54 => cal (h_In_int ((y7.1.take (q16).toNat).drop (0 : Int).toNat) y54) fun y55 => J51 (y55))) (fun q50 => br q50 (some (false)) (cal (getI y7.1 q16) fun y56 => cal (getI y1.1.types y56) fun y57 => cal (refs_Uses y1.1 y57) fun y58 => lp (ι := Int) (fun L60 q59 => br (decide (q59 < (y58.length : Int))) (asr (decide (0 ≤ (0 : Int) ∧ (0 : Int) ≤ q16 ∧ q16 ≤ (y7.1.length : Int))) <| cal (getI y58 q59) fun y67 => cal (h_In_int ((y7.1.take (q16).toNat).drop (0 : Int).toNat) y67) fun y68 => br (!y68) (some (false)) (ck ((q59 + (1 : Int))) <| L60 ((q59 + (1 : Int))))) (ck ((q16 + (1 : Int))) <| L17 ((q16 + (1 : Int))))) (((0 : Int))))))) (some ((decide ((y7.1.length : Int) = (y1.1.names.length : Int)))))) (((0 : Int)))))))

def h_Digits_F (h_Digits' : UInt64 → Option (Str)) (a_v : UInt64) : Option (Str) :=
  br (decide (a_v < (10 : UInt64))) (some ((Str.mk ([((48 : UInt64) + a_v).toUInt8] : (List UInt8))))) (jp (ι := Str) (fun J3 => asr (!decide ((10 : UInt64) = 0)) <| asr (!decide ((10 : UInt64) = 0)) <| cal (h_Digits' (a_v / (10 : UInt64))) fun y6 => asr (Nat.ble (y6.b.length + (Str.mk ([((48 : UInt64) + (a_v % (10 : UInt64))).toUInt8] : (List UInt8))).b.length) 4611686018427387904) <| J3 ((Str.mk (y6.b ++ (Str.mk ([((48 : UInt64) + (a_v % (10 : UInt64))).toUInt8] : (List UInt8))).b)))) (fun q2 => some (q2)))
def h_Digits_grp : Nat → (UInt64 → Option (Str))
  | 0 => (fun _ => none)
  | n + 1 => let p := h_Digits_grp n; (h_Digits_F p)
def h_Digits (n : Nat) : UInt64 → Option (Str) := (h_Digits_grp n)

def law07_RefsCircles (a_n_ : Int) (a_back : Int) (a_closed : Bool) : Option (Bool) :=
  asr (!decide ((15 : UInt64) = 0)) <| ck ((((UInt64.ofNat (a_n_ % 18446744073709551616).toNat) % (15 : UInt64)).toNat : Int)) <| ck (((1 : Int) + (((UInt64.ofNat (a_n_ % 18446744073709551616).toNat) % (15 : UInt64)).toNat : Int))) <| asr (!decide ((UInt64.ofNat (((1 : Int) + (((UInt64.ofNat (a_n_ % 18446744073709551616).toNat) % (15 : UInt64)).toNat : Int)) % 18446744073709551616).toNat) = 0)) <| ck ((((UInt64.ofNat (a_back % 18446744073709551616).toNat) % (UInt64.ofNat (((1 : Int) + (((UInt64.ofNat (a_n_ % 18446744073709551616).toNat) % (15 : UInt64)).toNat : Int)) % 18446744073709551616).toNat)).toNat : Int)) <| lp (ι := Str × Int) (fun L7 q6 => br (decide (q6.2 < ((1 : Int) + (((UInt64.ofNat (a_n_ % 18446744073709551616).toNat) % (15 : UInt64)).toNat : Int)))) (ck ((q6.2 + (1 : Int))) <| cal (h_Digits fuel (UInt64.ofNat ((q6.2 + (1 : Int)) % 18446744073709551616).toNat)) fun y54 => asr (Nat.ble ((Str.mk [83, 69, 81, 85, 69, 78, 67, 69, 32, 79, 70, 32, 84]).b.length + y54.b.length) 4611686018427387904) <| ck ((q6.2 + (1 : Int))) <| jp (ι := Str) (fun J58 => br (decide ((q6.2 + (1 : Int)) = ((1 : Int) + (((UInt64.ofNat (a_n_ % 18446744073709551616).toNat) % (15 : UInt64)).toNat : Int)))) (br a_closed (cal (h_Digits fuel (UInt64.ofNat ((((UInt64.ofNat (a_back % 18446744073709551616).toNat) % (UInt64.ofNat (((1 : Int) + (((UInt64.ofNat (a_n_ % 18446744073709551616).toNat) % (15 : UInt64)).toNat : Int)) % 18446744073709551616).toNat)).toNat : Int) % 18446744073709551616).toNat)) fun y59 => asr (Nat.ble ((Str.mk [83, 69, 84, 32, 123, 32, 97, 32, 78, 85, 76, 76, 44, 32, 98, 32, 84]).b.length + y59.b.length) 4611686018427387904) <| asr (Nat.ble ((Str.mk ((Str.mk [83, 69, 84, 32, 123, 32, 97, 32, 78, 85, 76, 76, 44, 32, 98, 32, 84]).b ++ y59.b)).b.length + (Str.mk [32, 125]).b.length) 4611686018427387904) <| J58 ((Str.mk ((Str.mk ((Str.mk [83, 69, 84, 32, 123, 32, 97, 32, 78, 85, 76, 76, 44, 32, 98, 32, 84]).b ++ y59.b)).b ++ (Str.mk [32, 125]).b)))) (J58 ((Str.mk [78, 85, 76, 76])))) (J58 ((Str.mk ((Str.mk [83, 69, 81, 85, 69, 78, 67, 69, 32, 79, 70, 32, 84]).b ++ y54.b))))) (fun q57 => asr (Nat.ble (q6.1.b.length + (Str.mk [32, 84]).b.length) 4611686018427387904) <| cal (h_Digits fuel (UInt64.ofNat (q6.2 % 18446744073709551616).toNat)) fun y63 => asr (Nat.ble ((Str.mk (q6.1.b ++ (Str.mk [32, 84]).b)).b.length + y63.b.length) 4611686018427387904) <| asr (Nat.ble ((Str.mk ((Str.mk (q6.1.b ++ (Str.mk [32, 84]).b)).b ++ y63.b)).b.length + (Str.mk [32, 58, 58, 61, 32]).b.length) 4611686018427387904) <| asr (Nat.ble ((Str.mk ((Str.mk ((Str.mk (q6.1.b ++ (Str.mk [32, 84]).b)).b ++ y63.b)).b ++ (Str.mk [32, 58, 58, 61, 32]).b)).b.length + q57.b.length) 4611686018427387904) <| ck ((q6.2 + (1 : Int))) <| L7 ((Str.mk ((Str.mk ((Str.mk ((Str.mk (q6.1.b ++ (Str.mk [32, 84]).b)).b ++ y63.b)).b ++ (Str.mk [32, 58, 58, 61, 32]).b)).b ++ q57.b)), (q6.2 + (1 : Int))))) (asr (Nat.ble ((Str.mk [77, 32, 68, 69, 70, 73, 78, 73, 84, 73, 79, 78, 83, 32, 58, 58, 61, 32, 66, 69, 71, 73, 78]).b.length + q6.1.b.length) 4611686018427387904) <| asr (Nat.ble ((Str.mk ((Str.mk [77, 32, 68, 69, 70, 73, 78, 73, 84, 73, 79, 78, 83, 32, 58, 58, 61, 32, 66, 69, 71, 73, 78]).b ++ q6.1.b)).b.length + (Str.mk [32, 69, 78, 68]).b.length) 4611686018427387904) <| cal (r05_Parse (Str.mk ((Str.mk ((Str.mk [77, 32, 68, 69, 70, 73, 78, 73, 84, 73, 79, 78, 83, 32, 58, 58, 61, 32, 66, 69, 71, 73, 78]).b ++ q6.1.b)).b ++ (Str.mk [32, 69, 78, 68]).b))) fun y70 => cal (refs_Order y70.1) fun y72 => cal (law07_awake ) fun y73 => jp (ι := Bool) (fun J75 => br y73 (J75 ((decide (y70.2.2 = (0 : Int))))) (J75 (false))) (fun q74 => jp (ι := Bool) (fun J78 => br q74 (jp (ι := Bool) (fun J81 => br a_closed (J81 ((decide (y72.2.2 = (10 : Int))))) (J81 (false))) (fun q80 => jp (ι := Bool) (fun J84 => br q80 (J84 ((decide (y72.2.1 = (((UInt64.ofNat (a_back % 18446744073709551616).toNat) % (UInt64.ofNat (((1 : Int) + (((UInt64.ofNat (a_n_ % 18446744073709551616).toNat) % (15 : UInt64)).toNat : Int)) % 18446744073709551616).toNat)).toNat : Int))))) (J84 (false))) (fun q83 => jp (ι := Bool) (fun J87 => br q83 (J87 ((decide ((y72.1.length : Int) = (0 : Int))))) (J87 (false))) (fun q86 => jp (ι := Bool) (fun J90 => br q86 (J90 (true)) (jp (ι := Bool) (fun J93 => br (!a_closed) (J93 ((decide (y72.2.2 = (0 : Int))))) (J93 (false))) (fun q92 => jp (ι := Bool) (fun J96 => br q92 (J96 ((decide ((y72.1.length : Int) = ((1 : Int) + (((UInt64.ofNat (a_n_ % 18446744073709551616).toNat) % (15 : UInt64)).toNat : Int)))))) (J96 (false))) (fun q95 => J90 (q95))))) (fun q89 => J78 (q89)))))) (J78 (false))) (fun q77 => some (q77))))) (((Str.mk []), (0 : Int)))

def law07_RefsMissing (a_n_ : Int) (a_at_ : Int) (a_twice : Bool) : Option (Bool) :=
  asr (!decide ((10 : UInt64) = 0)) <| ck ((((UInt64.ofNat (a_n_ % 18446744073709551616).toNat) % (10 : UInt64)).toNat : Int)) <| ck (((2 : Int) + (((UInt64.ofNat (a_n_ % 18446744073709551616).toNat) % (10 : UInt64)).toNat : Int))) <| asr (!decide ((UInt64.ofNat (((2 : Int) + (((UInt64.ofNat (a_n_ % 18446744073709551616).toNat) % (10 : UInt64)).toNat : Int)) % 18446744073709551616).toNat) = 0)) <| ck ((((UInt64.ofNat (a_at_ % 18446744073709551616).toNat) % (UInt64.ofNat (((2 : Int) + (((UInt64.ofNat (a_n_ % 18446744073709551616).toNat) % (10 : UInt64)).toNat : Int)) % 18446744073709551616).toNat)).toNat : Int)) <| lp (ι := Str × Int) (fun L7 q6 => br (decide (q6.2 < ((2 : Int) + (((UInt64.ofNat (a_n_ % 18446744073709551616).toNat) % (10 : UInt64)).toNat : Int)))) (cal (h_Digits fuel (UInt64.ofNat (q6.2 % 18446744073709551616).toNat)) fun y55 => asr (Nat.ble ((Str.mk [84]).b.length + y55.b.length) 4611686018427387904) <| jp (ι := Str) (fun J58 => br (decide (q6.2 = (((UInt64.ofNat (a_at_ % 18446744073709551616).toNat) % (UInt64.ofNat (((2 : Int) + (((UInt64.ofNat (a_n_ % 18446744073709551616).toNat) % (10 : UInt64)).toNat : Int)) % 18446744073709551616).toNat)).toNat : Int))) (J58 ((Str.mk [67, 72, 79, 73, 67, 69, 32, 123, 32, 97, 32, 78, 111, 116, 104, 105, 110, 103, 32, 125]))) (J58 ((Str.mk [78, 85, 76, 76])))) (fun q57 => jp (ι := Bool) (fun J60 => br a_twice (ck ((((2 : Int) + (((UInt64.ofNat (a_n_ % 18446744073709551616).toNat) % (10 : UInt64)).toNat : Int)) - (1 : Int))) <| J60 ((decide (q6.2 = (((2 : Int) + (((UInt64.ofNat (a_n_ % 18446744073709551616).toNat) % (10 : UInt64)).toNat : Int)) - (1 : Int)))))) (J60 (false))) (fun q59 => jp (ι := Str) (fun J64 => br q59 (J64 ((Str.mk [84, 48]))) (J64 ((Str.mk ((Str.mk [84]).b ++ y55.b))))) (fun q63 => asr (Nat.ble (q6.1.b.length + (Str.mk [32]).b.length) 4611686018427387904) <| asr (Nat.ble ((Str.mk (q6.1.b ++ (Str.mk [32]).b)).b.length + q63.b.length) 4611686018427387904) <| asr (Nat.ble ((Str.mk ((Str.mk (q6.1.b ++ (Str.mk [32]).b)).b ++ q63.b)).b.length + (Str.mk [32, 58, 58, 61, 32]).b.length) 4611686018427387904) <| asr (Nat.ble ((Str.mk ((Str.mk ((Str.mk (q6.1.b ++ (Str.mk [32]).b)).b ++ q63.b)).b ++ (Str.mk [32, 58, 58, 61, 32]).b)).b.length + q57.b.length) 4611686018427387904) <| ck ((q6.2 + (1 : Int))) <| L7 ((Str.mk ((Str.mk ((Str.mk ((Str.mk (q6.1.b ++ (Str.mk [32]).b)).b ++ q63.b)).b ++ (Str.mk [32, 58, 58, 61, 32]).b)).b ++ q57.b)), (q6.2 + (1 : Int))))))) (asr (Nat.ble ((Str.mk [77, 32, 68, 69, 70, 73, 78, 73, 84, 73, 79, 78, 83, 32, 58, 58, 61, 32, 66, 69, 71, 73, 78]).b.length + q6.1.b.length) 4611686018427387904) <| asr (Nat.ble ((Str.mk ((Str.mk [77, 32, 68, 69, 70, 73, 78, 73, 84, 73, 79, 78, 83, 32, 58, 58, 61, 32, 66, 69, 71, 73, 78]).b ++ q6.1.b)).b.length + (Str.mk [32, 69, 78, 68]).b.length) 4611686018427387904) <| cal (r05_Parse (Str.mk ((Str.mk ((Str.mk [77, 32, 68, 69, 70, 73, 78, 73, 84, 73, 79, 78, 83, 32, 58, 58, 61, 32, 66, 69, 71, 73, 78]).b ++ q6.1.b)).b ++ (Str.mk [32, 69, 78, 68]).b))) fun y72 => cal (refs_Order y72.1) fun y74 => br a_twice (cal (law07_awake ) fun y75 => jp (ι := Bool) (fun J77 => br y75 (J77 ((decide (y72.2.2 = (0 : Int))))) (J77 (false))) (fun q76 => jp (ι := Bool) (fun J80 => br q76 (J80 ((decide (y74.2.2 = (8 : Int))))) (J80 (false))) (fun q79 => jp (ι := Bool) (fun J83 => br q79 (ck ((((2 : Int) + (((UInt64.ofNat (a_n_ % 18446744073709551616).toNat) % (10 : UInt64)).toNat : Int)) - (1 : Int))) <| J83 ((decide (y74.2.1 = (((2 : Int) + (((UInt64.ofNat (a_n_ % 18446744073709551616).toNat) % (10 : UInt64)).toNat : Int)) - (1 : Int)))))) (J83 (false))) (fun q82 => jp (ι := Bool) (fun J87 => br q82 (J87 ((decide ((y74.1.length : Int) = (0 : Int))))) (J87 (false))) (fun q86 => some (q86)))))) (cal (law07_awake ) fun y89 => jp (ι := Bool) (fun J91 => br y89 (J91 ((decide (y72.2.2 = (0 : Int))))) (J91 (false))) (fun q90 => jp (ι := Bool) (fun J94 => br q90 (J94 ((decide (y74.2.2 = (9 : Int))))) (J94 (false))) (fun q93 => jp (ι := Bool) (fun J97 => br q93 (J97 ((decide (y74.2.1 = (((UInt64.ofNat (a_at_ % 18446744073709551616).toNat) % (UInt64.ofNat (((2 : Int) + (((UInt64.ofNat (a_n_ % 18446744073709551616).toNat) % (10 : UInt64)).toNat : Int)) % 18446744073709551616).toNat)).toNat : Int))))) (J97 (false))) (fun q96 => jp (ι := Bool) (fun J100 => br q96 (J100 ((decide ((y74.1.length : Int) = (0 : Int))))) (J100 (false))) (fun q99 => some (q99)))))))) (((Str.mk []), (0 : Int)))

def law07_RefsChain (a_turns : (List Int)) : Option (Bool) :=
  jp (ι := Bool) (fun J2 => br (decide ((a_turns.length : Int) = (0 : Int))) (J2 (true)) (J2 ((decide ((15 : Int) < (a_turns.length : Int)))))) (fun q1 => br q1 (cal (law07_awake ) fun y4 => some (y4)) (lp (ι := (List Int) × Int) (fun L7 q6 => br (decide (q6.2 < (a_turns.length : Int))) (asr (Nat.ble (q6.1.length + ([q6.2] : (List Int)).length) 68719476736) <| ck ((q6.2 + (1 : Int))) <| L7 ((q6.1 ++ ([q6.2] : (List Int))), (q6.2 + (1 : Int)))) (lp (ι := (List Int) × Int) (fun L449 q448 => br (decide (q448.2 < (a_turns.length : Int))) (cal (getI a_turns q448.2) fun y736 => asr (!decide ((UInt64.ofNat ((a_turns.length : Int) % 18446744073709551616).toNat) = 0)) <| ck ((((UInt64.ofNat (y736 % 18446744073709551616).toNat) % (UInt64.ofNat ((a_turns.length : Int) % 18446744073709551616).toNat)).toNat : Int)) <| asr (decide (0 ≤ (((UInt64.ofNat (y736 % 18446744073709551616).toNat) % (UInt64.ofNat ((a_turns.length : Int) % 18446744073709551616).toNat)).toNat : Int) ∧ (((UInt64.ofNat (y736 % 18446744073709551616).toNat) % (UInt64.ofNat ((a_turns.length : Int) % 18446744073709551616).toNat)).toNat : Int) < ((q448.1.length : Nat) : Int))) <| asr (decide (0 ≤ q448.2 ∧ q448.2 < ((q448.1.length : Nat) : Int))) <| cal (q448.1[(((UInt64.ofNat (y736 % 18446744073709551616).toNat) % (UInt64.ofNat ((a_turns.length : Int) % 18446744073709551616).toNat)).toNat : Int).toNat]?) fun y741 => cal (q448.1[q448.2.toNat]?) fun y742 => asr (decide (0 ≤ q448.2 ∧ q448.2 < ((q448.1.length : Nat) : Int))) <| cal (q448.1[q448.2.toNat]?) fun y744 => asr (decide (0 ≤ (((UInt64.ofNat (y736 % 18446744073709551616).toNat) % (UInt64.ofNat ((a_turns.length : Int) % 18446744073709551616).toNat)).toNat : Int) ∧ (((UInt64.ofNat (y736 % 18446744073709551616).toNat) % (UInt64.ofNat ((a_turns.length : Int) % 18446744073709551616).toNat)).toNat : Int) < ((q448.1.length : Nat) : Int))) <| cal ((q448.1.set q448.2.toNat y741)[(((UInt64.ofNat (y736 % 18446744073709551616).toNat) % (UInt64.ofNat ((a_turns.length : Int) % 18446744073709551616).toNat)).toNat : Int).toNat]?) fun y746 => ck ((q448.2 + (1 : Int))) <| L449 (((q448.1.set q448.2.toNat y741).set ((((UInt64.ofNat (y736 % 18446744073709551616).toNat) % (UInt64.ofNat ((a_turns.length : Int) % 18446744073709551616).toNat)).toNat : Int).toNat) y742), (q448.2 + (1 : Int)))) (lp (ι := Str × Int) (fun L749 q748 => br (decide (q748.2 < (a_turns.length : Int))) (asr (decide (0 ≤ q748.2 ∧ q748.2 < ((q448.1.length : Nat) : Int))) <| cal (q448.1[q748.2.toNat]?) fun y815 => ck ((y815 + (1 : Int))) <| jp (ι := Str) (fun J818 => br (decide ((y815 + (1 : Int)) < (a_turns.length : Int))) (asr (decide (0 ≤ q748.2 ∧ q748.2 < ((q448.1.length : Nat) : Int))) <| cal (q448.1[q748.2.toNat]?) fun y820 => ck ((y820 + (1 : Int))) <| cal (h_Digits fuel (UInt64.ofNat ((y820 + (1 : Int)) % 18446744073709551616).toNat)) fun y822 => asr (Nat.ble ((Str.mk [83, 69, 81, 85, 69, 78, 67, 69, 32, 79, 70, 32, 84]).b.length + y822.b.length) 4611686018427387904) <| J818 ((Str.mk ((Str.mk [83, 69, 81, 85, 69, 78, 67, 69, 32, 79, 70, 32, 84]).b ++ y822.b)))) (J818 ((Str.mk [78, 85, 76, 76])))) (fun q817 => asr (Nat.ble (q748.1.b.length + (Str.mk [32, 84]).b.length) 4611686018427387904) <| asr (decide (0 ≤ q748.2 ∧ q748.2 < ((q448.1.length : Nat) : Int))) <| cal (q448.1[q748.2.toNat]?) fun y826 => cal (h_Digits fuel (UInt64.ofNat (y826 % 18446744073709551616).toNat)) fun y827 => asr (Nat.ble ((Str.mk (q748.1.b ++ (Str.mk [32, 84]).b)).b.length + y827.b.length) 4611686018427387904) <| asr (Nat.ble ((Str.mk ((Str.mk (q748.1.b ++ (Str.mk [32, 84]).b)).b ++ y827.b)).b.length + (Str.mk [32, 58, 58, 61, 32]).b.length) 4611686018427387904) <| asr (Nat.ble ((Str.mk ((Str.mk ((Str.mk (q748.1.b ++ (Str.mk [32, 84]).b)).b ++ y827.b)).b ++ (Str.mk [32, 58, 58, 61, 32]).b)).b.length + q817.b.length) 4611686018427387904) <| ck ((q748.2 + (1 : Int))) <| L749 ((Str.mk ((Str.mk ((Str.mk ((Str.mk (q748.1.b ++ (Str.mk [32, 84]).b)).b ++ y827.b)).b ++ (Str.mk [32, 58, 58, 61, 32]).b)).b ++ q817.b)), (q748.2 + (1 : Int))))) (asr (Nat.ble ((Str.mk [77, 32, 68, 69, 70, 73, 78, 73, 84, 73, 79, 78, 83, 32, 58, 58, 61, 32, 66, 69, 71, 73, 78]).b.length + q748.1.b.length) 4611686018427387904) <| asr (Nat.ble ((Str.mk ((Str.mk [77, 32, 68, 69, 70, 73, 78, 73, 84, 73, 79, 78, 83, 32, 58, 58, 61, 32, 66, 69, 71, 73, 78]).b ++ q748.1.b)).b.length + (Str.mk [32, 69, 78, 68]).b.length) 4611686018427387904) <| cal (r05_Parse (Str.mk ((Str.mk ((Str.mk [77, 32, 68, 69, 70, 73, 78, 73, 84, 73, 79, 78, 83, 32, 58, 58, 61, 32, 66, 69, 71, 73, 78]).b ++ q748.1.b)).b ++ (Str.mk [32, 69, 78, 68]).b))) fun y834 => cal (refs_Order y834.1) fun y836 => cal (law07_awake ) fun y837 => jp (ι := Bool) (fun J839 => br (!y837) (J839 (true)) (J839 ((!decide (y834.2.2 = (0 : Int)))))) (fun q838 => jp (ι := Bool) (fun J842 => br q838 (J842 (true)) (J842 ((!decide (y836.2.2 = (0 : Int)))))) (fun q841 => jp (ι := Bool) (fun J845 => br q841 (J845 (true)) (J845 ((!decide ((y836.1.length : Int) = (a_turns.length : Int)))))) (fun q844 => br q844 (some (false)) (lp (ι := Int) (fun L848 q847 => br (decide (q847 < (a_turns.length : Int))) (cal (getI y836.1 q847) fun y863 => jp (ι := Bool) (fun J865 => br (decide (y863 < (0 : Int))) (J865 (true)) (cal (getI y836.1 q847) fun y867 => J865 ((decide ((a_turns.length : Int) ≤ y867))))) (fun q864 => jp (ι := Bool) (fun J869 => br q864 (J869 (true)) (cal (getI y836.1 q847) fun y871 => asr (decide (0 ≤ y871 ∧ y871 < ((q448.1.length : Nat) : Int))) <| cal (q448.1[y871.toNat]?) fun y873 => ck (((a_turns.length : Int) - (1 : Int))) <| ck ((((a_turns.length : Int) - (1 : Int)) - q847)) <| J869 ((!decide (y873 = (((a_turns.length : Int) - (1 : Int)) - q847)))))) (fun q868 => br q868 (some (false)) (ck ((q847 + (1 : Int))) <| L848 ((q847 + (1 : Int))))))) (some (true))) (((0 : Int))))))))) (((Str.mk []), (0 : Int))))) ((q6.1, (0 : Int))))) ((([] : (List Int)), (0 : Int)))))
end Go.Proofs.YtdcdndflfhaejaaDoor


namespace Go.Proofs.YtdcdndflfhaejaaDoor
open Go.Sy
def valRen : Shelf.Ren := ⟨fun x => bif Nat.beq x 196 then 69 else bif Nat.beq x 259 then 72 else x, fun x => bif Nat.beq x 0 then 0 else bif Nat.beq x 3 then 3 else bif Nat.beq x 4 then 4 else bif Nat.beq x 5 then 5 else bif Nat.beq x 9 then 9 else bif Nat.beq x 12 then 12 else bif Nat.beq x 46 then 39 else bif Nat.beq x 53 then 41 else bif Nat.beq x 119 then 115 else bif Nat.beq x 138 then 117 else bif Nat.beq x 139 then 118 else x, fun x => bif Nat.beq x 3 then 0 else bif Nat.beq x 4 then 1 else x⟩
set_option maxRecDepth 100000 in
theorem valLays : Lays.n196 Tryd.prog valRen := {
  mixed := by kernel_rfl
  f196 := Tryd.func69.trans (by kernel_rfl)
  f259 := Tryd.func72.trans (by kernel_rfl)
  t0 := Tryd.underlying0
  a0 := Tryd.isAgg0
  z0 := Tryd.sizeOf0
  v0 := Tryd.zeroValue0
  t3 := Tryd.underlying3
  a3 := Tryd.isAgg3
  z3 := Tryd.sizeOf3
  v3 := Tryd.zeroValue3
  t4 := Tryd.underlying4
  a4 := Tryd.isAgg4
  z4 := Tryd.sizeOf4
  v4 := Tryd.zeroValue4
  t5 := Tryd.underlying5
  a5 := Tryd.isAgg5
  z5 := Tryd.sizeOf5
  v5 := Tryd.zeroValue5
  t9 := Tryd.underlying9
  a9 := Tryd.isAgg9
  z9 := Tryd.sizeOf9
  v9 := Tryd.zeroValue9
  t12 := Tryd.underlying12
  a12 := Tryd.isAgg12
  z12 := Tryd.sizeOf12
  v12 := Tryd.zeroValue12
  t46 := Tryd.underlying39
  a46 := Tryd.isAgg39
  z46 := Tryd.sizeOf39
  v46 := Tryd.zeroValue39
  t53 := Tryd.underlying41
  a53 := Tryd.isAgg41
  z53 := Tryd.sizeOf41
  v53 := Tryd.zeroValue41
  t119 := Tryd.underlying115
  a119 := Tryd.isAgg115
  z119 := Tryd.sizeOf115
  t138 := Tryd.underlying117
  a138 := Tryd.isAgg117
  z138 := Tryd.sizeOf117
  v138 := Tryd.zeroValue117
  t139 := Tryd.underlying118
  a139 := Tryd.isAgg118
  z139 := Tryd.sizeOf118
  v139 := Tryd.zeroValue118
  g3 := by kernel_rfl
  g4 := by kernel_rfl }
theorem utf8_ValidString_w : ∀ {a_s : Str} {r : Bool}, utf8_ValidString a_s = some r → Ctr Tryd.prog 69 [isv (a_s)] [] (fun R H => R = oneOf [isv (r)] ∧ H = []) := by
  intro s r h
  obtain rfl := Option.some.inj h
  refine ⟨⟨_, Tryd.func69, rfl, by decide +kernel⟩, fun S w vs hT hs hv ho => ?_⟩
  match vs, hv with
  | [v], ⟨hv, _⟩ =>
    obtain ⟨rfl, hl⟩ := isv_str.1 hv
    have hb := Any.utf8_ValidString valLays s.ba w (by rw [Str.ba_size]; unfold maxText at hl; omega) (hT w hs _ _ valLays.g3 valLays.g4)
    refine hb.mono fun e w' ⟨he, hk⟩ => ⟨.bool (Lib.validD s.ba.data.toList), S, _, [], ⟨rfl, rfl⟩, he, ?_, ⟨⟨hk.os, hk.tape, hk.output, hk.size, fun k hk' _ => hk.block k hk'⟩, Grow.refl _ _ _, fun b cs hb => ?_⟩, owns_nil _ _ _ _⟩
    · refine isv_bool.2 ?_
      show Value.bool (Lib.validD s.b.toArray.toList) = _
      rfl
    · obtain ⟨c, T, fr, h1, h2⟩ := hs b cs hb
      exact ⟨c, T, fr, by rw [hk.block b (Array.getElem?_eq_some_iff.1 h1).1]; exact h1, h2⟩
end Go.Proofs.YtdcdndflfhaejaaDoor


namespace Go.Proofs.YtdcdndflfhaejaaDoor
open Go.Sy
set_option maxRecDepth 4000
@[reducible] def pt49_0_0 : Fld ((List GTok) × Int × (Str × Int × (TList Str) × (TList Int) × Vh) × Int × Int) (List GTok) := pf0
@[reducible] def pt49_0_1 : Fld ((List GTok) × Int × (Str × Int × (TList Str) × (TList Int) × Vh) × Int × Int) Int := pf1
@[reducible] def pt49_0_3 : Fld ((List GTok) × Int × (Str × Int × (TList Str) × (TList Int) × Vh) × Int × Int) Int := pf3
@[reducible] def pt49_0_4 : Fld ((List GTok) × Int × (Str × Int × (TList Str) × (TList Int) × Vh) × Int × Int) Int := pl4
@[reducible] def pt49_0_2 : Fld ((List GTok) × Int × (Str × Int × (TList Str) × (TList Int) × Vh) × Int × Int) (Str × Int × (TList Str) × (TList Int) × Vh) := pf2
@[reducible] def pt26_0_0 : Fld (Str × Int × (TList Str) × (TList Int) × Vh) Str := pf0
@[reducible] def pt26_0_1 : Fld (Str × Int × (TList Str) × (TList Int) × Vh) Int := pf1
@[reducible] def pt26_0_2 : Fld (Str × Int × (TList Str) × (TList Int) × Vh) (TList Str) := pf2
@[reducible] def pt26_0_4 : Fld (Str × Int × (TList Str) × (TList Int) × Vh) Vh := pl4
@[reducible] def pt83_0_2 : Fld (Int × Str × GMark × GCon × (TList GItem) × (TList GFld) × Int × Bool × Int) GMark := pf2
@[reducible] def pt83_0_0 : Fld (Int × Str × GMark × GCon × (TList GItem) × (TList GFld) × Int × Bool × Int) Int := pf0
@[reducible] def pt83_0_3 : Fld (Int × Str × GMark × GCon × (TList GItem) × (TList GFld) × Int × Bool × Int) GCon := pf3
@[reducible] def pt83_0_4 : Fld (Int × Str × GMark × GCon × (TList GItem) × (TList GFld) × Int × Bool × Int) (TList GItem) := pf4
@[reducible] def pt83_0_7 : Fld (Int × Str × GMark × GCon × (TList GItem) × (TList GFld) × Int × Bool × Int) Bool := pf7
@[reducible] def pt83_0_6 : Fld (Int × Str × GMark × GCon × (TList GItem) × (TList GFld) × Int × Bool × Int) Int := pf6
@[reducible] def pt83_0_5 : Fld (Int × Str × GMark × GCon × (TList GItem) × (TList GFld) × Int × Bool × Int) (TList GFld) := pf5
@[reducible] def pt83_0_8 : Fld (Int × Str × GMark × GCon × (TList GItem) × (TList GFld) × Int × Bool × Int) Int := pl8
@[reducible] def pt83_0_1 : Fld (Int × Str × GMark × GCon × (TList GItem) × (TList GFld) × Int × Bool × Int) Str := pf1
@[reducible] def pt26_0_3 : Fld (Str × Int × (TList Str) × (TList Int) × Vh) (TList Int) := pf3
@[reducible] def pt49_1_2 : Fld ((List GTok) × Int × (Str × Int × (TList Str) × (TList Int) × (List GNode)) × Int × Int) (Str × Int × (TList Str) × (TList Int) × (List GNode)) := pf2
theorem ze26 : ZeroOk Tryd.prog 26 ((GMod.mk (Str.mk []) (0 : Int) ([] : (List Str)) ([] : (List Int)) ([] : (List GNode))) : GMod) := zero_agg (cs := [.string ⟨#[]⟩, .int .i64 0, .slice none 0 0, .slice none 0 0, .slice none 0 0]) rfl (by kernel_rfl) (zr_pair zr_str (zr_pair zr_int (zr_pair zr_list (zr_pair zr_list zr_list))))
theorem st9 : StrB Tryd.prog 9 = true := by kernel_rfl
theorem eq5 : EqOk Tryd.prog 5 UInt8 := EqOk.u8
theorem fd53_2 : FldB Tryd.prog 53 2 2 1 false = true := by kernel_rfl
theorem bu53 : BuildB Tryd.prog 53 = true := by kernel_rfl
theorem ze53 : ZeroOk Tryd.prog 53 ((GTok.mk (0 : Int) (Str.mk []) (0 : Int)) : GTok) := zero_agg (cs := [.int .i64 0, .string ⟨#[]⟩, .int .i64 0]) rfl (by kernel_rfl) (zr_pair zr_int (zr_pair zr_str zr_int))
theorem el44 : elB Tryd.prog 44 3 = true := by kernel_rfl
theorem ap44_44 : appB Tryd.prog 44 44 3 = true := by kernel_rfl
theorem ty53 : TyB Tryd.prog 53 3 true = true := by kernel_rfl
theorem moOrd : Tryd.prog.follows .mixedOrders = true := by kernel_rfl
theorem fd53_0 : FldB Tryd.prog 53 0 0 1 false = true := by kernel_rfl
theorem ty3 : TyB Tryd.prog 3 1 false = true := by kernel_rfl
theorem fd53_1 : FldB Tryd.prog 53 1 1 1 false = true := by kernel_rfl
theorem ty9 : TyB Tryd.prog 9 1 false = true := by kernel_rfl
theorem el22 : elB Tryd.prog 22 1 = true := by kernel_rfl
theorem sl22 : SlB Tryd.prog 22 1 false = true := by kernel_rfl
theorem eq9 : EqOk Tryd.prog 9 Str := EqOk.str
theorem bu26 : BuildB Tryd.prog 26 = true := by kernel_rfl
theorem ty26 : TyB Tryd.prog 26 5 true = true := by kernel_rfl
theorem fd49_0 : FldB Tryd.prog 49 0 0 1 false = true := by kernel_rfl
theorem bu49 : BuildB Tryd.prog 49 = true := by kernel_rfl
theorem zt49_0 : ZeroOk Tryd.prog 49 ((([] : (List GTok)), (0 : Int), ((Str.mk []), (0 : Int), (TList.mk none ([] : (List Str))), (TList.mk none ([] : (List Int))), (Vh.mk none 0)), (0 : Int), (0 : Int)) : ((List GTok) × Int × (Str × Int × (TList Str) × (TList Int) × Vh) × Int × Int)) := zero_agg (cs := [.slice none 0 0, .int .i64 0, .string ⟨#[]⟩, .int .i64 0, .slice none 0 0, .slice none 0 0, .slice none 0 0, .int .i64 0, .int .i64 0]) rfl (by kernel_rfl) (zr_pair zr_list (zr_pair zr_int (zr_pair (zr_pair zr_str (zr_pair zr_int (zr_pair zr_tl (zr_pair zr_tl zr_vh)))) (zr_pair zr_int zr_int))))
theorem ty44 : TyB Tryd.prog 44 1 false = true := by kernel_rfl
theorem fd49_1 : FldB Tryd.prog 49 1 1 1 false = true := by kernel_rfl
theorem sl44 : SlB Tryd.prog 44 3 true = true := by kernel_rfl
theorem fd49_3 : FldB Tryd.prog 49 3 7 1 false = true := by kernel_rfl
theorem ty27 : TyB Tryd.prog 27 1 false = true := by kernel_rfl
theorem fd49_4 : FldB Tryd.prog 49 4 8 1 false = true := by kernel_rfl
theorem fd49_2 : FldB Tryd.prog 49 2 2 5 true = true := by kernel_rfl
theorem fd26_0 : FldB Tryd.prog 26 0 0 1 false = true := by kernel_rfl
theorem fd26_1 : FldB Tryd.prog 26 1 1 1 false = true := by kernel_rfl
theorem fd26_2 : FldB Tryd.prog 26 2 2 1 false = true := by kernel_rfl
theorem ty22 : TyB Tryd.prog 22 1 false = true := by kernel_rfl
theorem fd26_4 : FldB Tryd.prog 26 4 4 1 false = true := by kernel_rfl
theorem ty24 : TyB Tryd.prog 24 1 false = true := by kernel_rfl
theorem sl24 : SlB Tryd.prog 24 16 true = true := by kernel_rfl
theorem bu83 : BuildB Tryd.prog 83 = true := by kernel_rfl
theorem ze83 : ZeroOk Tryd.prog 83 ((GNode.mk (0 : Int) (Str.mk []) (GMark.mk false (0 : Int) (0 : Int)) (GCon.mk false false false false (0 : Int) (0 : Int)) ([] : (List GItem)) ([] : (List GFld)) (0 : Int) false (0 : Int)) : GNode) := zero_agg (cs := [.int .i64 0, .string ⟨#[]⟩, .bool false, .int .i64 0, .int .i64 0, .bool false, .bool false, .bool false, .bool false, .int .i64 0, .int .i64 0, .slice none 0 0, .slice none 0 0, .int .i64 0, .bool false, .int .i64 0]) rfl (by kernel_rfl) (zr_pair zr_int (zr_pair zr_str (zr_pair (zr_pair zr_bool (zr_pair zr_int zr_int)) (zr_pair (zr_pair zr_bool (zr_pair zr_bool (zr_pair zr_bool (zr_pair zr_bool (zr_pair zr_int zr_int))))) (zr_pair zr_list (zr_pair zr_list (zr_pair zr_int (zr_pair zr_bool zr_int))))))))
theorem el24 : elB Tryd.prog 24 16 = true := by kernel_rfl
theorem ap24_24 : appB Tryd.prog 24 24 16 = true := by kernel_rfl
theorem zt83_1 : ZeroOk Tryd.prog 83 (((0 : Int), (Str.mk []), (GMark.mk false (0 : Int) (0 : Int)), (GCon.mk false false false false (0 : Int) (0 : Int)), (TList.mk none ([] : (List GItem))), (TList.mk none ([] : (List GFld))), (0 : Int), false, (0 : Int)) : (Int × Str × GMark × GCon × (TList GItem) × (TList GFld) × Int × Bool × Int)) := zero_agg (cs := [.int .i64 0, .string ⟨#[]⟩, .bool false, .int .i64 0, .int .i64 0, .bool false, .bool false, .bool false, .bool false, .int .i64 0, .int .i64 0, .slice none 0 0, .slice none 0 0, .int .i64 0, .bool false, .int .i64 0]) rfl (by kernel_rfl) (zr_pair zr_int (zr_pair zr_str (zr_pair (zr_pair zr_bool (zr_pair zr_int zr_int)) (zr_pair (zr_pair zr_bool (zr_pair zr_bool (zr_pair zr_bool (zr_pair zr_bool (zr_pair zr_int zr_int))))) (zr_pair zr_tl (zr_pair zr_tl (zr_pair zr_int (zr_pair zr_bool zr_int))))))))
theorem ty83 : TyB Tryd.prog 83 16 true = true := by kernel_rfl
theorem fd77_1 : FldB Tryd.prog 77 1 1 1 false = true := by kernel_rfl
theorem fd77_0 : FldB Tryd.prog 77 0 0 1 false = true := by kernel_rfl
theorem bu77 : BuildB Tryd.prog 77 = true := by kernel_rfl
theorem ze77 : ZeroOk Tryd.prog 77 ((GMark.mk false (0 : Int) (0 : Int)) : GMark) := zero_agg (cs := [.bool false, .int .i64 0, .int .i64 0]) rfl (by kernel_rfl) (zr_pair zr_bool (zr_pair zr_int zr_int))
theorem fd83_2 : FldB Tryd.prog 83 2 2 3 true = true := by kernel_rfl
theorem ty77 : TyB Tryd.prog 77 3 true = true := by kernel_rfl
theorem fd77_2 : FldB Tryd.prog 77 2 2 1 false = true := by kernel_rfl
theorem fd83_0 : FldB Tryd.prog 83 0 0 1 false = true := by kernel_rfl
theorem ze79 : ZeroOk Tryd.prog 79 ((GCon.mk false false false false (0 : Int) (0 : Int)) : GCon) := zero_agg (cs := [.bool false, .bool false, .bool false, .bool false, .int .i64 0, .int .i64 0]) rfl (by kernel_rfl) (zr_pair zr_bool (zr_pair zr_bool (zr_pair zr_bool (zr_pair zr_bool (zr_pair zr_int zr_int)))))
theorem bu79 : BuildB Tryd.prog 79 = true := by kernel_rfl
theorem ty79 : TyB Tryd.prog 79 6 true = true := by kernel_rfl
theorem fd79_0 : FldB Tryd.prog 79 0 0 1 false = true := by kernel_rfl
theorem fd79_1 : FldB Tryd.prog 79 1 1 1 false = true := by kernel_rfl
theorem ty4 : TyB Tryd.prog 4 1 false = true := by kernel_rfl
theorem fd79_4 : FldB Tryd.prog 79 4 4 1 false = true := by kernel_rfl
theorem ty2 : TyB Tryd.prog 2 1 false = true := by kernel_rfl
theorem fd79_2 : FldB Tryd.prog 79 2 2 1 false = true := by kernel_rfl
theorem fd79_5 : FldB Tryd.prog 79 5 5 1 false = true := by kernel_rfl
theorem fd79_3 : FldB Tryd.prog 79 3 3 1 false = true := by kernel_rfl
theorem fd83_3 : FldB Tryd.prog 83 3 5 6 true = true := by kernel_rfl
theorem fd83_4 : FldB Tryd.prog 83 4 11 1 false = true := by kernel_rfl
theorem ty80 : TyB Tryd.prog 80 1 false = true := by kernel_rfl
theorem sl80 : SlB Tryd.prog 80 3 true = true := by kernel_rfl
theorem fd83_7 : FldB Tryd.prog 83 7 14 1 false = true := by kernel_rfl
theorem fd83_6 : FldB Tryd.prog 83 6 13 1 false = true := by kernel_rfl
theorem fd111_0 : FldB Tryd.prog 111 0 0 1 false = true := by kernel_rfl
theorem bu111 : BuildB Tryd.prog 111 = true := by kernel_rfl
theorem ze111 : ZeroOk Tryd.prog 111 ((GItem.mk (Str.mk []) (0 : Int) false) : GItem) := zero_agg (cs := [.string ⟨#[]⟩, .int .i64 0, .bool false]) rfl (by kernel_rfl) (zr_pair zr_str (zr_pair zr_int zr_bool))
theorem ty111 : TyB Tryd.prog 111 3 true = true := by kernel_rfl
theorem fd111_2 : FldB Tryd.prog 111 2 2 1 false = true := by kernel_rfl
theorem fd111_1 : FldB Tryd.prog 111 1 1 1 false = true := by kernel_rfl
theorem el80 : elB Tryd.prog 80 3 = true := by kernel_rfl
theorem ap80_80 : appB Tryd.prog 80 80 3 = true := by kernel_rfl
theorem fd83_5 : FldB Tryd.prog 83 5 12 1 false = true := by kernel_rfl
theorem ty81 : TyB Tryd.prog 81 1 false = true := by kernel_rfl
theorem sl81 : SlB Tryd.prog 81 11 true = true := by kernel_rfl
theorem fd97_5 : FldB Tryd.prog 97 5 10 1 false = true := by kernel_rfl
theorem fd97_0 : FldB Tryd.prog 97 0 0 1 false = true := by kernel_rfl
theorem bu97 : BuildB Tryd.prog 97 = true := by kernel_rfl
theorem ze97 : ZeroOk Tryd.prog 97 ((GFld.mk (Str.mk []) (0 : Int) false false (Val.mk (0 : Int) (0 : Int) ([] : (List UInt8)) ([] : (List Val)) (0 : Int) ([] : (List Raw))) (0 : Int)) : GFld) := zero_agg (cs := [.string ⟨#[]⟩, .int .i64 0, .bool false, .bool false, .int .i64 0, .int .i64 0, .slice none 0 0, .slice none 0 0, .int .i64 0, .slice none 0 0, .int .i64 0]) rfl (by kernel_rfl) (zr_pair zr_str (zr_pair zr_int (zr_pair zr_bool (zr_pair zr_bool (zr_pair zr_val zr_int)))))
theorem ty97 : TyB Tryd.prog 97 11 true = true := by kernel_rfl
theorem fd97_1 : FldB Tryd.prog 97 1 1 1 false = true := by kernel_rfl
theorem fd97_2 : FldB Tryd.prog 97 2 2 1 false = true := by kernel_rfl
theorem ze95 : ZeroOk Tryd.prog 95 ((Val.mk (0 : Int) (0 : Int) ([] : (List UInt8)) ([] : (List Val)) (0 : Int) ([] : (List Raw))) : Val) := zero_agg (cs := [.int .i64 0, .int .i64 0, .slice none 0 0, .slice none 0 0, .int .i64 0, .slice none 0 0]) rfl (by kernel_rfl) zr_val
theorem fd95_1 : FldB Tryd.prog 95 1 1 1 false = true := by kernel_rfl
theorem fd95_0 : FldB Tryd.prog 95 0 0 1 false = true := by kernel_rfl
theorem bu95 : BuildB Tryd.prog 95 = true := by kernel_rfl
theorem ty95 : TyB Tryd.prog 95 6 true = true := by kernel_rfl
theorem fd95_2 : FldB Tryd.prog 95 2 2 1 false = true := by kernel_rfl
theorem el71 : elB Tryd.prog 71 1 = true := by kernel_rfl
theorem ap71_71 : appB Tryd.prog 71 71 1 = true := by kernel_rfl
theorem fd97_3 : FldB Tryd.prog 97 3 3 1 false = true := by kernel_rfl
theorem fd97_4 : FldB Tryd.prog 97 4 4 6 true = true := by kernel_rfl
theorem el81 : elB Tryd.prog 81 11 = true := by kernel_rfl
theorem ap81_81 : appB Tryd.prog 81 81 11 = true := by kernel_rfl
theorem fd83_8 : FldB Tryd.prog 83 8 15 1 false = true := by kernel_rfl
theorem fd83_1 : FldB Tryd.prog 83 1 1 1 false = true := by kernel_rfl
theorem ap22_22 : appB Tryd.prog 22 22 1 = true := by kernel_rfl
theorem fd26_3 : FldB Tryd.prog 26 3 3 1 false = true := by kernel_rfl
theorem ty23 : TyB Tryd.prog 23 1 false = true := by kernel_rfl
theorem el23 : elB Tryd.prog 23 1 = true := by kernel_rfl
theorem ap23_23 : appB Tryd.prog 23 23 1 = true := by kernel_rfl
end Go.Proofs.YtdcdndflfhaejaaDoor


namespace Go.Proofs.YtdcdndflfhaejaaDoor
open Go.Sy
set_option maxRecDepth 4000
theorem sl23 : SlB Tryd.prog 23 1 false = true := by kernel_rfl
theorem zt22_2 : ZeroOk Tryd.prog 22 ((TList.mk none ([] : (List Str))) : (TList Str)) := zero_one (v := .slice none 0 0) rfl (by kernel_rfl) zr_tl
theorem el88 : elB Tryd.prog 88 1 = true := by kernel_rfl
theorem ze4 : ZeroOk Tryd.prog 4 (false : Bool) := zero_one (v := .bool false) rfl (by kernel_rfl) zr_bool
theorem sl88 : SlB Tryd.prog 88 1 false = true := by kernel_rfl
theorem el57 : elB Tryd.prog 57 1 = true := by kernel_rfl
theorem ap57_57 : appB Tryd.prog 57 57 1 = true := by kernel_rfl
theorem sl57 : SlB Tryd.prog 57 1 false = true := by kernel_rfl
theorem zt23_3 : ZeroOk Tryd.prog 23 ((TList.mk none ([] : (List Int))) : (TList Int)) := zero_one (v := .slice none 0 0) rfl (by kernel_rfl) zr_tl
end Go.Proofs.YtdcdndflfhaejaaDoor

