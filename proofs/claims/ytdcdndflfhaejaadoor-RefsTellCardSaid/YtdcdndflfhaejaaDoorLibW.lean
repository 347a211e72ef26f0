/- Owned lists: append, making, laying for good; stores and loads said otherwise; texts out of bytes. No condition: general lemmas. -/
import Derived.Test.YtdcdndflfhaejaaDoorLibV
namespace Go.Sy

section upd
variable {c : Ctx} {σ σ' σ'' : St} {Q : Exit → Act → World → Prop} {ops : Array Oper}
/-- The state may be said otherwise, more memory being laid for good. -/
def Upd (c : Ctx) (σ σ' : St) : Prop := ∀ S a w, Models c σ S a w → ∃ S', S.le S' ∧ Models c σ' S' a w
theorem Upd.trans (h : Upd c σ σ') (k : Upd c σ' σ'') : Upd c σ σ'' := fun S a w m => by
  obtain ⟨S1, h1, m1⟩ := h S a w m
  obtain ⟨S2, h2, m2⟩ := k S1 a w m1
  exact ⟨S2, Frz.le_trans h1 h2, m2⟩
theorem w_upd {x : Code} (h : Upd c σ σ') (k : Wp c x σ' Q) : Wp c x σ Q := fun S a w m => by
  obtain ⟨S', _, m'⟩ := h S a w m
  exact k S' a w m'
theorem rl_upd {l : List Oper} (h : Upd c σ σ') (k : Rl c ops l σ' Q) : Rl c ops l σ Q := fun i hi S a w m => by
  obtain ⟨S', _, m'⟩ := h S a w m
  exact k i hi S' a w m'
theorem fin_upd (h : Upd c σ σ') (k : Fin c σ' Q) : Fin c σ Q := fun S a w m => by
  obtain ⟨S', _, m'⟩ := h S a w m
  exact k S' a w m'
theorem ret_upd (h : Upd c σ σ') (k : Ret c σ' Q) : Ret c σ Q := fun S a w m => by
  obtain ⟨S', _, m'⟩ := h S a w m
  exact k S' a w m'
theorem runC_mono {P : Program} {Q' : Act → World → Prop} : ∀ {π : Ord} {C C' : World → Prop} {a : Act} {w : World}, (∀ w, C' w → C w) → RunC P ops Q' π C' a w → RunC P ops Q' π C a w
  | .nil, _, _, _, _, _, h => h
  | .v _ _, _, _, _, _, hC, ⟨C1, h1, h2⟩ => ⟨C1, fun w h => hC w (h1 w h), h2⟩
  | .two _ _ _ _, C, C', a, w, hC, h => ⟨wpOpC_mono (C := C') (C' := C) hC (fun _ _ ⟨C1, h1, h2⟩ => ⟨C1, fun w h => hC w (h1 w h), h2⟩) h.1, wpOpC_mono (C := C') (C' := C) hC (fun _ _ ⟨C1, h1, h2⟩ => ⟨C1, fun w h => hC w (h1 w h), h2⟩) h.2⟩
  | .t i r, C, C', a, w, hC, h => wpOpC_mono (C := C') (C' := C) hC (fun _ _ ⟨C1, h1, h2⟩ => ⟨C1, fun w h => hC w (h1 w h), h2⟩) h
theorem rd_upd {π : Ord} (h : Upd c σ σ') (k : Rd c ops π σ' Q) : Rd c ops π σ Q := fun S a w m => by
  obtain ⟨S', hS, m'⟩ := h S a w m
  exact runC_mono (fun w hw => cls_le hS hw) (k S' a w m')
theorem upd_imp {Γ Γ' : Slots} {H : List Ent} (h : Slots.imp Γ Γ') : Upd c ⟨Γ, H⟩ ⟨Γ', H⟩ := fun S a w m => ⟨S, S.le_refl, m.imp h⟩
theorem upd_slot {Γ : Slots} {H : List Ent} {R R' : VP} (i : Nat) (h : look Γ i = some R) (hr : ∀ S v, R.p S v → R'.p S v) : Upd c ⟨Γ, H⟩ ⟨(i, R') :: Γ, H⟩ := upd_imp (slots_one h hr)
theorem upd_weak (h : Imp σ σ') : Upd c σ σ' := fun S a w m => ⟨S, S.le_refl, m.weak h⟩
theorem upd_ent0 {Γ : Slots} {H : List Ent} (e : Ent) (he : e.k = none) : Upd c ⟨Γ, H⟩ ⟨Γ, e :: H⟩ := fun S a w m => by
  have hk : keys (e :: H) = keys H := by simp [keys, List.filterMap_cons, he]
  refine ⟨S, S.le_refl, m.size, m.dfr, m.sub, m.keep, m.grow, m.env, ⟨fun x hx => ?_, by rw [hk]; exact m.owns.nodup, fun b hb => m.owns.own b (by rw [← hk]; exact hb)⟩, fun x hx => by
    obtain ⟨h1, h2, h3, h4⟩ := m.pins x hx
    exact ⟨h1, h2, by rw [hk]; exact h3, h4⟩⟩
  rcases List.mem_cons.1 hx with rfl | hx
  · unfold Ent.sat; rw [he]; trivial
  · exact m.owns.sat x hx
theorem upd_tok {Γ : Slots} {H : List Ent} : Upd c ⟨Γ, H⟩ ⟨Γ, tokE none :: H⟩ := upd_ent0 _ rfl
theorem upd_vec {α : Type} [Rep α] {Γ : Slots} {H : List Ent} : Upd c ⟨Γ, H⟩ ⟨Γ, vecE none ([] : List α) :: H⟩ := upd_ent0 _ rfl

theorem upd_front {Γ : Slots} {H Hr : List Ent} {e : Ent} (hp : Pick e H Hr) : Upd c ⟨Γ, H⟩ ⟨Γ, e :: Hr⟩ := fun S a w m =>
  ⟨S, S.le_refl, m.weak ⟨fun i R h => ⟨R, h, fun _ _ h => h⟩, [], .cons hp (takes_all (Takes.nil) |> fun h => by simpa using h)⟩⟩

theorem takes_rot {e : Ent} : ∀ H, Takes (e :: H) H [e]
  | [] => .nil
  | _ :: H => .cons (.there .here) (takes_rot H)
theorem takes_pick {e : Ent} {H Hr : List Ent} (h : Pick e H Hr) : Takes H Hr [e] := by
  induction h with
  | here => exact takes_rot _
  | there _ ih => exact .cons .here ih

theorem Models.vfreeze {α : Type} [Rep α] {S : Frz} {a : Act} {w : World} {t : Vt} {l : List α} {Hr : List Ent} (m : Models c σ S a w) (hp : Pick (vecE t l) σ.H Hr) :
    ∃ S', S.le S' ∧ Models c ⟨σ.Γ, Hr⟩ S' a w ∧ ∀ n v, n ≤ l.length → (vecv t n).p S' v → (isv (l.take n)).p S' v := by
  cases t with
  | none =>
    refine ⟨S, S.le_refl, m.weak ⟨fun i R h => ⟨R, h, fun _ _ h => h⟩, [vecE Option.none l], ?_⟩, fun n v _ hv => ?_⟩
    · exact takes_pick hp
    · obtain ⟨_, rfl, rfl⟩ := hv
      rw [List.take_zero]
      exact nilv_isv _ _ rfl
  | some t =>
    obtain ⟨b, cap⟩ := t
    have hs : (vecE (some (b, cap)) l).sat S w := m.owns.get hp
    obtain ⟨o, ho, hnone, cs, T', e, hsz, hlc, hr⟩ := hs
    subst e
    have hle : S.le (S.put b cs.toList) := fun j d hj => by
      have hne : j ≠ b := by rintro rfl; rw [hnone] at hj; cases hj
      exact ⟨d, by unfold Frz.put; rw [if_neg hne]; exact hj, List.prefix_refl _⟩
    refine ⟨S.put b cs.toList, hle, ?_, fun n v hn hv => ?_⟩
    · have hst : Step (keys [vecE (some (b, cap)) l]) S (S.put b cs.toList) w w := by
        refine ⟨Keep.refl _ _, ⟨hle, fun j _ hj => by unfold Frz.put; rw [if_neg (by simpa [keys, vecE] using hj)]⟩, fun j d hj => ?_⟩
        unfold Frz.put at hj
        split at hj
        · cases hj
          rename_i ej; subst ej
          exact ⟨cs, T', (0, 0), ho, List.prefix_refl _⟩
        · exact m.sub j d hj
      have := m.step (Hc := [vecE (some (b, cap)) l]) (H' := []) (Takes.cons hp .nil) hst (owns_nil _ _ _ _)
      simpa using this
    · obtain ⟨hm, e⟩ := hv
      simp only at e
      subst e
      have htl : (l.take n).length = n := by rw [List.length_take]; omega
      have hle2 : n * Rep.n α ≤ l.length * Rep.n α := Nat.mul_le_mul_right _ hn
      have hle3 : l.length * Rep.n α ≤ cap * Rep.n α := Nat.mul_le_mul_right _ hlc
      have htk : (cs.toList.take (l.length * Rep.n α)).take (n * Rep.n α) = cs.toList.take (n * Rep.n α) := by rw [List.take_take, Nat.min_eq_left hle2]
      refine isv_list.2 ⟨_, _, by rw [htl], by rw [htl]; omega, by rw [htl]; exact hm, .inr ⟨_, cs.toList.take (n * Rep.n α), rfl, Frz.has_take ⟨rfl, cs.toList, if_pos rfl, fun j u hj => by simpa using hj⟩ _, ?_, ?_⟩⟩
      · have : cs.toList.length = cs.size := by simp
        rw [htl, List.length_take]; omega
      · rw [← htk]
        exact rdL_mono (fun _ _ h => Rep.mono hle h) (rdL_take (fun _ _ h => Rep.len h) n hr)

theorem upd_frz {α : Type} [Rep α] {Γ : Slots} {H Hr : List Ent} {t : Vt} {n : Nat} {l : List α} (i : Nat) (hp : Pick (vecE t l) H Hr) (hi : look Γ i = some (vecv t n)) (hn : n ≤ l.length) : Upd c ⟨Γ, H⟩ ⟨(i, isv (l.take n)) :: Γ, Hr⟩ := fun S a w m => by
  obtain ⟨S', hS, m', hv⟩ := m.vfreeze hp
  exact ⟨S', hS, m'.imp (σ := ⟨Γ, Hr⟩) (c := c) (fun j R hj => ⟨R, hj, fun _ _ h => h⟩) |> fun m2 => ⟨m2.size, m2.dfr, m2.sub, m2.keep, m2.grow, fun j R hj => by
    unfold look at hj
    cases hk : Nat.beq i j with
    | true =>
      rw [hk] at hj
      have e : i = j := Nat.eq_of_beq_eq_true hk
      subst e
      cases hj
      obtain ⟨v, h1, h2⟩ := m2.env i _ hi
      exact ⟨v, h1, hv n v hn h2⟩
    | false => rw [hk] at hj; exact m2.env j R hj, m2.owns, m2.pins⟩⟩

/-- Data said otherwise. -/
def Cv {α β : Type} [Rep α] [Rep β] (S : Frz) (x : α) (y : β) : Prop := ∀ cs, Rep.rd S cs x → Rep.rd S cs y
theorem Cv.id {α : Type} [Rep α] {S : Frz} {x : α} : Cv S x x := fun _ h => h
theorem Cv.pair {α β γ δ : Type} [Rep α] [Rep β] [Rep γ] [Rep δ] {S : Frz} {a : α} {b : β} {c : γ} {d : δ} (h : Cv S a c) (k : Cv S b d) : Cv S (a, b) (c, d) := fun _ ⟨c1, c2, e, h1, h2⟩ => ⟨c1, c2, e, h _ h1, k _ h2⟩
theorem Cv.tl {α : Type} [Rep α] {S : Frz} {t : Tok} {l : List α} : Cv S (TList.mk t l) l := fun _ ⟨v, e, h⟩ => by
  subst e
  exact ⟨v, rfl, h.1⟩
theorem Cv.tl0 {α : Type} [Rep α] {S : Frz} : Cv S ([] : List α) (Vh.mk none 0) → True := fun _ => trivial
theorem Cv.isv {α β : Type} [Rep α] [Rep β] {x : α} {y : β} (ha : Rep.agg α = Rep.agg β) (h : ∀ S, Cv S x y) (S : Frz) (v : Value) (k : (isv x).p S v) : (Sy.isv y).p S v := ⟨k.1.trans ha, h S _ k.2⟩

theorem upd_box {α β : Type} [Rep α] [Rep β] {Γ : Slots} {H Hr : List Ent} {b : Nat} {x : α} {y : β} (hp : Pick (boxE b x) H Hr) (hc : ∀ S, Cv S x y) : Upd c ⟨Γ, H⟩ ⟨Γ, boxE b y :: Hr⟩ := fun S a w m => by
  obtain ⟨S1, h1, m1⟩ := upd_front (c := c) (Γ := Γ) hp S a w m
  exact ⟨S1, h1, m1.ent rfl (fun ⟨o, ho, hn, cs, T, e, hr⟩ => ⟨o, ho, hn, cs, T, e, hc _ _ hr⟩)⟩

/-- An owned list that is a part of a variable is laid for good. -/
theorem upd_frzB {α β γ : Type} [Rep α] [Rep β] [Rep γ] {Γ : Slots} {H H1 Hr : List Ent} {b : Nat} {x : α} {y : β} {t : Vt} {l : List γ} (hp : Pick (vecE t l) H H1) (hb : Pick (boxE b x) H1 Hr)
    (hc : ∀ S, (∀ n, n ≤ l.length → Cv S (Vh.mk t n) (l.take n)) → Cv S x y) : Upd c ⟨Γ, H⟩ ⟨Γ, boxE b y :: Hr⟩ := fun S a w m => by
  obtain ⟨S', hS, m', hv⟩ := m.vfreeze hp
  obtain ⟨S1, h1, m1⟩ := upd_front (c := c) (Γ := Γ) hb S' a w m'
  have hs : (boxE b x).sat S1 w := m1.owns.sat _ (List.mem_cons_self ..)
  refine ⟨S1, Frz.le_trans hS h1, m1.ent rfl (fun ⟨o, ho, hn, cs, T, e, hr⟩ => ⟨o, ho, hn, cs, T, e, hc _ (fun n hn cs ⟨v, e, hvv⟩ => ?_) _ hr⟩)⟩
  subst e
  have := (isv (l.take n)).mono h1 (hv n v hn hvv)
  obtain ⟨u, e, h⟩ := (isv_plain this rfl).2
  simp at e; subst e
  exact ⟨v, rfl, h⟩
theorem Cv.vh {γ : Type} [Rep γ] {S : Frz} {t : Vt} {n : Nat} {l : List γ} (h : ∀ n, n ≤ l.length → Cv S (Vh.mk t n) (l.take n)) (e : n = l.length) : Cv S (Vh.mk t n) l := by
  subst e
  have := h l.length (Nat.le_refl _)
  rwa [List.take_length] at this
end upd

section ops
variable {c : Ctx} {ty : TypeId} {pos : String} {af : Array Edge} {g : Option (Nat × Bool)} {σ : St} {d : Option Nat}

theorem OpT.upd {o : Oper} {K K' : St → Prop} (h : OpT c o σ K) (hk : ∀ σ', K σ' → ∃ σ'', K' σ'' ∧ Upd c σ' σ'') : OpT c o σ K' := fun S a w next Q m hn =>
  h S a w next Q m fun σ' S' a' w' hS hK m' => by
    obtain ⟨σ'', h1, h2⟩ := hk σ' hK
    obtain ⟨S'', h3, m''⟩ := h2 S' a' w' m'
    exact hn σ'' S'' a' w' (Frz.le_trans hS h3) h1 m''

theorem t_loadC {Γ : Slots} {H : List Ent} {α β : Type} [Rep α] [Rep β] {b : Nat} {L : Fld α β} {y : α} {R : VP} {x : Operand} {T : TypeId} {dd : Nat} {K : St → Prop} {Hr : List Ent} (ht : TyB c.P T (Rep.n β) (Rep.agg β) = true) (hx : opnd Γ x = some (ptrv b L))
    (hp : Pick (boxE b y) H Hr) (hc : ∀ S v, (isv (L.get y)).p S v → R.p S v) (k : K ⟨(dd, R) :: Γ, H⟩) (hd : Nat.blt dd c.n = true := by rfl) :
    OpT c ⟨some dd, .load T x, ty, pos, af, g⟩ ⟨Γ, H⟩ K := by
  intro S a w next Q m hn
  refine t_load (K := fun σ' => σ' = ⟨(dd, isv (L.get y)) :: Γ, H⟩) ht hx hp rfl hd S a w next Q m fun σ' S' a' w' hS hK m' => ?_
  subst hK
  refine hn _ S' a' w' hS k ⟨m'.size, m'.dfr, m'.sub, m'.keep, m'.grow, fun j R' hj => ?_, m'.owns, m'.pins⟩
  have h0 := m'.env j
  unfold look at hj h0
  cases hk : Nat.beq dd j with
  | true =>
    rw [hk] at hj h0
    cases hj
    obtain ⟨v, h1, h2⟩ := h0 _ rfl
    exact ⟨v, h1, hc _ _ h2⟩
  | false => rw [hk] at hj h0; exact h0 _ hj

theorem t_storeC {Γ : Slots} {H : List Ent} {α β : Type} [Rep α] [Rep β] {b : Nat} {L : Fld α β} {y y' : α} {z : β} {R : VP} {x u : Operand} {T : TypeId} {K : St → Prop} {Hr : List Ent} (ht : TyB c.P T (Rep.n β) (Rep.agg β) = true) (hx : opnd Γ x = some (ptrv b L))
    (hu : opnd Γ u = some R) (hc : ∀ S v, R.p S v → (isv z).p S v) (hp : Pick (boxE b y) H Hr) (hy : L.set y z = y') (k : K ⟨Γ, boxE b y' :: Hr⟩) :
    OpT c ⟨none, .store T x u, ty, pos, af, g⟩ ⟨Γ, H⟩ K := by
  subst hy
  intro S a w next Q m hn
  have h1 : a.eval x = .pointer (some ⟨b, L.off, none⟩) := opnd_sound m hx
  have h2 := hc _ _ (opnd_sound m hu)
  have hs : (boxE b y).sat S w := m.owns.get hp
  obtain ⟨o, ho, hnone, cs, T', e, hr⟩ := hs
  subst e
  have hlen : (a.eval u).cells.toList.length = Rep.n β := Rep.len h2.2
  have hfit := L.fits
  have hcs := Rep.len hr
  have hrun := run_storeCells_at (P := c.P) b L.off T' (a.eval u).cells.toList 0 cs w ho (by simp at hlen hcs ⊢; omega) (fun v hv => Rep.cell h2.2 v hv)
  unfold Oper.wp
  have : (execOp a.eval ⟨none, .store T x u, ty, pos, af, g⟩).run c.P w = .ok .skip (w.setRow b (cs.toList.take (L.off + 0) ++ (a.eval u).cells.toList ++ cs.toList.drop (L.off + 0 + (a.eval u).cells.toList.length)).toArray) := by
    have hsz : (a.eval u).cells.size = Rep.n β := by simpa using hlen
    simp only [execOp, h1, Instr.storeAt, Instr.sureAddr, storeVar, Sem.run_bind, Sem.run_pure, Result.andThen_ok, TyB.size ht, hsz, ne_eq, not_true, if_false, Sem.run_ite, hrun]
  rw [this]
  obtain ⟨hst, hh⟩ := step_setRow (cs := (cs.toList.take (L.off + 0) ++ (a.eval u).cells.toList ++ cs.toList.drop (L.off + 0 + (a.eval u).cells.toList.length)).toArray) m.sub hnone ho
  have m1 := m.step (Hc := [boxE b y]) (H' := [boxE b (L.set y z)]) (Takes.cons hp .nil) hst
    (owns_one ⟨_, hh, hnone, _, _, rfl, by
      have := L.rset hr h2.2
      rw [hlen, Nat.add_zero]
      simpa using this⟩ fun b' hb => by simp [boxE] at hb; subst hb; exact .inl (by simp [keys, boxE]))
  exact hn _ _ _ _ (Frz.le_refl _) k m1

theorem t_boxC {Γ : Slots} {H : List Ent} {α : Type} [Rep α] {y : α} {R : VP} {x : Operand} {T : TypeId} {dd : Nat} {K : St → Prop} (hx : opnd Γ x = some R) (hc : ∀ S v, R.p S v → (isv y).p S v)
    (k : ∀ b, K ⟨(dd, ptrv b (Fld.id α)) :: Γ, boxE b y :: H⟩) (hd : Nat.blt dd c.n = true := by rfl) :
    OpT c ⟨some dd, .box T x, ty, pos, af, g⟩ ⟨Γ, H⟩ K := by
  intro S a w next Q m hn
  have h1 := hc _ _ (opnd_sound m hx)
  unfold Oper.wp
  have : (execOp a.eval ⟨some dd, .box T x, ty, pos, af, g⟩).run c.P w = .ok (.value (.pointer (some ⟨w.heap.size, 0, none⟩))) { w with heap := w.heap.push (.cells (a.eval x).cells T (0, 0)) } := by
    simp [execOp, Instr.box, newVar, newRow, newObj, Sem.run]
  rw [this]
  have m1 := m.step (Hc := []) (H' := [boxE w.heap.size y]) .nil (step_push m.sub (.cells (a.eval x).cells T (0, 0)))
    (owns_one ⟨.cells (a.eval x).cells T (0, 0), by simp, sub_fresh m.sub, _, T, rfl, h1.2⟩ fun b hb => by simp [boxE] at hb; subst hb; exact .inr (Nat.le_refl _))
  exact hn _ _ _ _ (Frz.le_refl _) (k w.heap.size) (m1.put hd rfl)
theorem t_boxIC {Γ : Slots} {H : List Ent} {α : Type} [Rep α] {y : α} {R : VP} {x : Operand} {T : TypeId} {dd : Nat} {K : St → Prop} (hx : opnd Γ x = some R) (hc : ∀ S v, R.p S v → (isv y).p S v)
    (k : K ⟨(dd, immv y) :: Γ, H⟩) (hd : Nat.blt dd c.n = true := by rfl) :
    OpT c ⟨some dd, .box T x, ty, pos, af, g⟩ ⟨Γ, H⟩ K := by
  intro S a w next Q m hn
  have h1 := hc _ _ (opnd_sound m hx)
  unfold Oper.wp
  have : (execOp a.eval ⟨some dd, .box T x, ty, pos, af, g⟩).run c.P w = .ok (.value (.pointer (some ⟨w.heap.size, 0, none⟩))) { w with heap := w.heap.push (.cells (a.eval x).cells T (0, 0)) } := by
    simp [execOp, Instr.box, newVar, newRow, newObj, Sem.run]
  rw [this]
  have hst := step_push_put (w := w) m.sub (a.eval x).cells T (0, 0) (a.eval x).cells.toList (List.prefix_refl _)
  have m1 := m.step (Hc := []) (H' := []) .nil hst (owns_nil _ _ _ _)
  exact hn _ _ _ _ hst.grow.le k (m1.put hd ⟨⟨w.heap.size, 0, none⟩, (a.eval x).cells.toList, rfl, ⟨rfl, _, if_pos rfl, fun i v hi => by simpa using hi⟩, Rep.mono hst.grow.le h1.2⟩)

theorem t_makeVec {Γ : Slots} {H : List Ent} {α : Type} [Rep α] {x y : Operand} {T : TypeId} {p q : Int} {z0 : α} {dd e : Nat} {K : St → Prop} (hT : elB c.P T (Rep.n α) = true) (hz0 : ZeroOk c.P e z0) (he : c.P.underlying T = some (.slice e)) (hx : opnd Γ x = some (isv p)) (hy : opnd Γ y = some (isv q)) (h0 : 0 ≤ p) (hpq : q = p) (h1 : p ≤ 68719476736)
    (k : ∀ t, K ⟨(dd, vecv t (List.replicate p.toNat z0).length) :: Γ, vecE t (List.replicate p.toNat z0) :: H⟩) (hd : Nat.blt dd c.n = true := by rfl) : OpT c ⟨some dd, .makeSlice T x y, ty, pos, af, g⟩ ⟨Γ, H⟩ K := by
  subst hpq
  refine OpT.upd (t_makeArr (K := fun σ' => ∃ b, σ' = ⟨(dd, arrv b q.toNat q.toNat) :: Γ, arrE b (List.replicate q.toNat z0) :: H⟩) hT hz0 he hx hy h0 (Int.le_refl _) h1 (fun b => ⟨b, rfl⟩) hd) ?_
  rintro _ ⟨b, rfl⟩
  refine ⟨_, k (some (b, q.toNat)), fun S a w m => ⟨S, S.le_refl, ?_⟩⟩
  have m1 := m.ent (e' := vecE (some (b, q.toNat)) (List.replicate q.toNat z0)) rfl (fun ⟨o, ho, hn, cs, T', e1, hr⟩ => by
    have hl := rdL_len (n := Rep.n α) (r := Rep.rd S) (fun _ _ h => Rep.len h) hr
    rw [List.length_replicate] at hl
    refine ⟨o, ho, hn, cs, T', e1, by simpa using hl, by rw [List.length_replicate]; exact Nat.le_refl _, ?_⟩
    rw [List.length_replicate, ← hl, List.take_length]; exact hr)
  refine m1.imp (Γ := (dd, vecv (some (b, q.toNat)) (List.replicate q.toNat z0).length) :: Γ) fun i R hi => ?_
  unfold look at hi ⊢
  cases hk : Nat.beq dd i with
  | true =>
    rw [hk] at hi
    cases hi
    refine ⟨_, rfl, fun S v hv => ?_⟩
    rw [List.length_replicate]
    exact ⟨by unfold maxList; omega, hv⟩
  | false => rw [hk] at hi; exact ⟨R, hi, fun _ _ h => h⟩

theorem t_vapp {Γ : Slots} {H : List Ent} {α : Type} [Rep α] {x y : Operand} {t : Vt} {n : Nat} {l m : List α} {R : VP} {T U : TypeId} {dd : Nat} {K : St → Prop} {Hr : List Ent} (hT : appB c.P T U (Rep.n α) = true)
    (hx : opnd Γ x = some (vecv t n)) (hy : opnd Γ y = some R) (hc : ∀ S v, R.p S v → (isv m).p S v) (hp : Pick (vecE t l) H Hr) (hnl : n ≤ l.length)
    (hb : Nat.ble (n + m.length) 68719476736 = true)
    (k : ∀ t', K ⟨(dd, vecv t' (l.take n ++ m).length) :: Γ, vecE t' (l.take n ++ m) :: Hr⟩) (hd : Nat.blt dd c.n = true := by rfl) :
    OpT c ⟨some dd, .call ⟨.builtin .append, #[x, y], #[T, U]⟩, ty, pos, af, g⟩ ⟨Γ, H⟩ K := by
  intro S a w next Q mm hn
  replace hb := Nat.le_of_ble_eq_true hb
  have hll : (l.take n ++ m).length = n + m.length := by rw [List.length_append, List.length_take]; omega
  obtain ⟨⟨e, i, z, hu, hi, hsz, hby, hby0, hz, hzn⟩, e', hu'⟩ := AppB.of hT
  obtain ⟨hnm, htk⟩ := opnd_sound mm hx
  have hm := isv_list.1 (hc _ _ (opnd_sound mm hy))
  obtain ⟨cm, hcm1, hcm2, hcm3, hcm4⟩ := run_firstCells (P := c.P) hm
  obtain ⟨q, cap', ev', hcap', hmax', _⟩ := hm
  have hcmo : ∀ v ∈ cm, v.oneCell' = true := rdL_cell (fun _ _ h => Rep.cell h) hcm2
  have hml : maxList = 281474976710656 := rfl
  have hs : (vecE t l).sat S w := mm.owns.get hp
  have hrun : ∀ w', (execOp a.eval ⟨some dd, .call ⟨.builtin .append, #[x, y], #[T, U]⟩, ty, pos, af, g⟩).run c.P w' =
      ((Builtin.append_ #[T, U] ty #[a.eval x, a.eval y]).run c.P w').andThen fun v w' => .ok (.value v) w' := by
    intro w'
    simp [execOp, resolve, invoke, builtin]
  unfold Oper.wp
  rw [hrun]
  -- a new block
  have grown : ∀ (p : Option Addr) (cap : Nat) (cl : List Value), a.eval x = .slice p n cap → ¬ n + m.length ≤ cap → cl.length = n * Rep.n α → rdL (Rep.rd S) (l.take n) cl → (∀ v ∈ cl, v.oneCell' = true) →
      ((Builtin.firstCells (Rep.n α) n (.slice p n cap)).run c.P { w with drawn := w.drawn + 1 } = .ok cl.toArray { w with drawn := w.drawn + 1 }) →
      (∃ v w', (Builtin.append_ #[T, U] ty #[a.eval x, a.eval y]).run c.P w = .ok v w' ∧ next (a.put (some dd) v) w') := by
    intro p cap cl ev hneed hcl1 hcl2 _ hf1
    have hgrow := nextslicecap_le (need := n + m.length) (cap := cap) (by omega)
    have hbig : ¬ 281474976710656 < Builtin.nextslicecap (n + m.length) cap * i.bytes := by
      have h1 : Builtin.nextslicecap (n + m.length) cap * i.bytes ≤ (2 * (n + m.length) + 1024) * 1024 := Nat.mul_le_mul hgrow hby
      omega
    let q0 : Question := .appendCap (n + m.length) cap e
    let nc := q0.cut (w.tape w.drawn q0)
    have hnc : n + m.length ≤ nc := Nat.le_add_right _ _
    let w1 : World := { w with drawn := w.drawn + 1 }
    have hs1 : S.sub w1 := mm.sub
    have hrun2 : (Builtin.append_ #[T, U] ty #[a.eval x, a.eval y]).run c.P w = .ok (.slice (some ⟨w.heap.size, 0, none⟩) (n + m.length) nc) { w1 with heap := w.heap.push (.cells (cl.toArray ++ cm.toArray ++ Builtin.zeroCells z.cells (nc - (n + m.length))) e (0, 0)) } := by
      have hf2 := hcm4 w1 hs1
      rw [ev'] at hf2
      rw [ev, ev']
      exact run_append_grow hu hu' hi hsz hz hby0 hneed (by simpa using hbig) hf1 hf2
    have hzs : (Builtin.zeroCells z.cells (nc - (n + m.length))).size = (nc - (n + m.length)) * z.cells.size := by simp [Builtin.zeroCells]
    have hsp := step_push (w := w1) hs1 (.cells (cl.toArray ++ cm.toArray ++ Builtin.zeroCells z.cells (nc - (n + m.length))) e (0, 0))
    have hstep' : Step (keys [vecE t l]) S S w { w1 with heap := w.heap.push (.cells (cl.toArray ++ cm.toArray ++ Builtin.zeroCells z.cells (nc - (n + m.length))) e (0, 0)) } :=
      ⟨⟨rfl, rfl, rfl, hsp.keep.size, fun k hk _ => hsp.keep.block k hk (by simp)⟩, Grow.refl _ _ _, hsp.sub⟩
    have hlc : (cl ++ cm).length = (n + m.length) * Rep.n α := by rw [List.length_append, hcl1, hcm1, Nat.add_mul]
    have m1 := mm.step (H' := [vecE (some (w.heap.size, nc)) (l.take n ++ m)]) (Takes.cons hp .nil) hstep'
      (owns_one ⟨.cells (cl.toArray ++ cm.toArray ++ Builtin.zeroCells z.cells (nc - (n + m.length))) e (0, 0), by simp, sub_fresh mm.sub, _, e, rfl, by
        rw [Array.size_append, Array.size_append, List.size_toArray, List.size_toArray, hzs, hzn, ← List.length_append, hlc, ← Nat.add_mul]
        congr 1; omega, by rw [hll]; exact hnc, by
        rw [hll, ← hlc]
        simp only [Array.toList_append, List.toList_toArray]
        rw [List.take_left' rfl]
        exact rdL_append hcl2 hcm2⟩ fun b' hb' => by simp [vecE] at hb'; subst hb'; exact .inr (Nat.le_refl _))
    exact ⟨_, _, hrun2, hn _ _ _ _ (Frz.le_refl _) (k (some (w.heap.size, nc))) (m1.put hd ⟨by rw [hll]; omega, by rw [hll]⟩)⟩
  have fin : (∃ v w', (Builtin.append_ #[T, U] ty #[a.eval x, a.eval y]).run c.P w = .ok v w' ∧ next (a.put (some dd) v) w') := by
    cases t with
    | none =>
      obtain ⟨ev, rfl⟩ := htk
      by_cases hneed : 0 + m.length ≤ 0
      · have hm0 : m = [] := by cases m with | nil => rfl | cons _ _ => exact absurd hneed (by simp)
        subst hm0
        refine ⟨.slice none 0 0, w, ?_, ?_⟩
        · have hf := hcm4 w mm.sub
          have hcm0 : cm = [] := List.length_eq_zero_iff.1 (by rw [hcm1]; simp)
          rw [hcm0] at hf
          rw [ev'] at hf
          simp only [List.length_nil] at hf
          simp [Builtin.append_, underlying, hu, hu', ev, ev', sizeOf, typeInfo, hi, hsz, Builtin.lenOf, hf]
        · have m1 := mm.step (H' := [vecE none (l.take 0 ++ ([] : List α))]) (Takes.cons hp .nil) (S' := S) (w' := w) ⟨Keep.refl _ _, Grow.refl _ _ _, mm.sub⟩
            ⟨fun x hx => by simp at hx; subst hx; trivial, by simp [keys, vecE], fun b hb => by simp [keys, vecE] at hb⟩
          exact hn _ _ _ _ (Frz.le_refl _) (k none) (m1.put hd ⟨by rw [hll]; simp, rfl, by rw [hll]; rfl⟩)
      · refine grown none 0 [] ev hneed (by simp) (by simp [rdL]) (by simp) (by simp [Builtin.firstCells])
    | some t =>
      obtain ⟨b, cap⟩ := t
      simp only at htk
      obtain ⟨o, ho, hnone, cs, T0, e1, hcsz, hlc, hr⟩ := hs
      subst e1
      have hle : n * Rep.n α ≤ l.length * Rep.n α := Nat.mul_le_mul_right _ hnl
      have hle2 : l.length * Rep.n α ≤ cap * Rep.n α := Nat.mul_le_mul_right _ hlc
      have htk2 : (cs.toList.take (l.length * Rep.n α)).take (n * Rep.n α) = cs.toList.take (n * Rep.n α) := by rw [List.take_take, Nat.min_eq_left hle]
      have hrn : rdL (Rep.rd S) (l.take n) (cs.toList.take (n * Rep.n α)) := by rw [← htk2]; exact rdL_take (fun _ _ h => Rep.len h) n hr
      have hcln : (cs.toList.take (n * Rep.n α)).length = n * Rep.n α := by
        have : cs.toList.length = cs.size := by simp
        rw [List.length_take]; omega
      by_cases hneed : n + m.length ≤ cap
      · have hfit : n * Rep.n α + cm.length ≤ cs.size := by
          have h2 : (n + m.length) * Rep.n α ≤ cap * Rep.n α := Nat.mul_le_mul_right _ hneed
          rw [Nat.add_mul] at h2
          rw [hcm1]; omega
        have hst := run_storeCells_at (P := c.P) b (n * Rep.n α) T0 cm 0 cs w ho (by omega) hcmo
        have hadd : (⟨b, 0, none⟩ : Addr).add (n * Rep.n α) = ⟨b, n * Rep.n α, none⟩ := by rw [add_none, Nat.zero_add]
        have hrun2 : (Builtin.append_ #[T, U] ty #[a.eval x, a.eval y]).run c.P w = .ok (.slice (some ⟨b, 0, none⟩) (n + m.length) cap) (w.setRow b (cs.toList.take (n * Rep.n α + 0) ++ cm ++ cs.toList.drop (n * Rep.n α + 0 + cm.length)).toArray) := by
          have hf := hcm4 w mm.sub
          rw [ev'] at hf
          simp [Builtin.append_, underlying, hu, hu', htk, ev', sizeOf, typeInfo, hi, hsz, Builtin.lenOf, hf, hneed, hadd, hst]
        obtain ⟨hstep, hh⟩ := step_setRow (cs := (cs.toList.take (n * Rep.n α + 0) ++ cm ++ cs.toList.drop (n * Rep.n α + 0 + cm.length)).toArray) mm.sub hnone ho
        have m1 := mm.step (Hc := [vecE (some (b, cap)) l]) (H' := [vecE (some (b, cap)) (l.take n ++ m)]) (Takes.cons hp .nil) hstep
          (owns_one ⟨_, hh, hnone, _, _, rfl, by
            have hcl : cs.toList.length = cs.size := by simp
            simp only [List.size_toArray, List.length_append, List.length_take, List.length_drop, hcl]
            omega, by rw [hll]; exact hneed, by
            rw [hll, Nat.add_mul, ← hcm1, Nat.add_zero]
            simp only
            have : (cs.toList.take (n * Rep.n α) ++ cm ++ cs.toList.drop (n * Rep.n α + cm.length)).take (n * Rep.n α + cm.length) = cs.toList.take (n * Rep.n α) ++ cm := List.take_left' (by rw [List.length_append, hcln])
            rw [this]
            exact rdL_append hrn hcm2⟩ fun b' hb => by simp [vecE] at hb; subst hb; exact .inl (by simp [keys, vecE]))
        exact ⟨_, _, hrun2, hn _ _ _ _ (Frz.le_refl _) (k (some (b, cap))) (m1.put hd ⟨by rw [hll]; omega, by rw [hll]⟩)⟩
      · refine grown (some ⟨b, 0, none⟩) cap (cs.toList.take (n * Rep.n α)) htk hneed hcln hrn (fun v hv => rdL_cell (fun _ _ h => Rep.cell h) hrn v hv) ?_
        have := run_loadCells_list (P := c.P) { w with drawn := w.drawn + 1 } ⟨b, 0, none⟩ (cs.toList.take (n * Rep.n α)) (fun j u hj => by
          rw [add_none]
          unfold World.cell?
          show (match w.heap[b]? with | _ => _) = _
          rw [ho]
          simp only
          rw [List.getElem?_take] at hj
          split at hj
          · simpa using hj
          · cases hj)
        rw [hcln] at this
        simpa [Builtin.firstCells] using this
  obtain ⟨v, w', h1, h2⟩ := fin
  rw [h1]
  exact h2

/-- An append, what is appended said otherwise. -/
theorem t_appC {Γ : Slots} {H : List Ent} {α : Type} [Rep α] {x y : Operand} {t : Tok} {l m : List α} {R R2 : VP} {T U : TypeId} {dd : Nat} {K : St → Prop} {Hr : List Ent} (hT : appB c.P T U (Rep.n α) = true)
    (hx : opnd Γ x = some R2) (hcx : ∀ S v, R2.p S v → (appv t l).p S v) (hy : opnd Γ y = some R) (hc : ∀ S v, R.p S v → (isv m).p S v) (ht : Pick (tokE t) H Hr)
    (hb : Nat.ble (l.length + m.length) 68719476736 = true)
    (k : ∀ t', K ⟨(dd, appv t' (l ++ m)) :: Γ, tokE t' :: Hr⟩) (hd : Nat.blt dd c.n = true := by rfl) :
    OpT c ⟨some dd, .call ⟨.builtin .append, #[x, y], #[T, U]⟩, ty, pos, af, g⟩ ⟨Γ, H⟩ K :=
  t_appendC hT hx hcx hy hc (.inr rfl) (.cons ht .nil) (Nat.le_of_ble_eq_true hb) k hd
/-- Behind nothing. -/
theorem t_appN {Γ : Slots} {H : List Ent} {α : Type} [Rep α] {x y : Operand} {m : List α} {R : VP} {T U : TypeId} {dd : Nat} {K : St → Prop} (hT : appB c.P T U (Rep.n α) = true)
    (hx : opnd Γ x = some nilv) (hy : opnd Γ y = some R) (hc : ∀ S v, R.p S v → (isv m).p S v)
    (hb : Nat.ble (([] : List α).length + m.length) 68719476736 = true)
    (k : ∀ t', K ⟨(dd, appv t' (([] : List α) ++ m)) :: Γ, tokE t' :: H⟩) (hd : Nat.blt dd c.n = true := by rfl) :
    OpT c ⟨some dd, .call ⟨.builtin .append, #[x, y], #[T, U]⟩, ty, pos, af, g⟩ ⟨Γ, H⟩ K :=
  t_appendC hT hx nilv_appv hy hc (.inl ⟨rfl, rfl⟩) .nil (Nat.le_of_ble_eq_true hb) k hd
end ops
end Go.Sy
