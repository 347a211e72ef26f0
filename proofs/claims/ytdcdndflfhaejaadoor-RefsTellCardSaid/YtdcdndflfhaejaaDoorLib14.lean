/- Maps of the call's own: made, asked, given an entry that was not there. No condition: general lemmas. -/
import Derived.Test.YtdcdndflfhaejaaDoorLib13
namespace Go.Sy

section keys
variable {κ ν : Type} [Rep κ] [Rep ν]

def rdM (S : Frz) : List MapEntry → List (κ × ν) → Prop
  | [], [] => True
  | e :: es, p :: m => (isv p.1).p S e.key ∧ (isv p.2).p S e.val ∧ rdM S es m
  | _, _ => False
theorem rdM.mono {S S' : Frz} (h : S.le S') : ∀ {es : List MapEntry} {m : List (κ × ν)}, rdM S es m → rdM S' es m
  | [], [], _ => trivial
  | _ :: _, _ :: _, ⟨h1, h2, h3⟩ => ⟨(isv _).mono h h1, (isv _).mono h h2, rdM.mono h h3⟩
theorem rdM.push {S : Frz} {e : MapEntry} {p : κ × ν} (h1 : (isv p.1).p S e.key) (h2 : (isv p.2).p S e.val) : ∀ {es : List MapEntry} {m : List (κ × ν)}, rdM S es m → rdM S (es ++ [e]) (m ++ [p])
  | [], [], _ => ⟨h1, h2, trivial⟩
  | _ :: _, _ :: _, ⟨k1, k2, k3⟩ => ⟨k1, k2, rdM.push h1 h2 k3⟩

end keys
/-- A map's entry. -/
def mget {κ ν : Type} [DecidableEq κ] : List (κ × ν) → κ → Option ν
  | [], _ => none
  | p :: m, x => if x = p.1 then some p.2 else mget m x
section keys
variable {κ ν : Type} [Rep κ] [Rep ν] [DecidableEq κ]
def fnd (x : κ) : List MapEntry → List (κ × ν) → Nat → Option (Nat × Value)
  | e :: es, p :: m, i => if x = p.1 then some (i, e.val) else fnd x es m (i + 1)
  | _, _, _ => none
theorem fnd_none {S : Frz} {x : κ} : ∀ {es : List MapEntry} {m : List (κ × ν)} {i : Nat}, rdM S es m → mget m x = none → fnd x es m i = none
  | [], [], _, _, _ => rfl
  | _ :: es, p :: m, i, ⟨_, _, h⟩, hm => by
    unfold mget at hm
    split at hm
    · cases hm
    · rename_i hne
      unfold fnd
      rw [if_neg hne]
      exact fnd_none h hm
theorem fnd_some {S : Frz} {x : κ} {y : ν} : ∀ {es : List MapEntry} {m : List (κ × ν)} {i : Nat}, rdM S es m → mget m x = some y → ∃ j v, fnd x es m i = some (j, v) ∧ (isv y).p S v
  | [], [], _, _, h => by cases h
  | e :: es, p :: m, i, ⟨_, h2, h⟩, hm => by
    unfold mget at hm
    split at hm
    · rename_i he
      cases hm
      exact ⟨i, e.val, by unfold fnd; rw [if_pos he], h2⟩
    · rename_i hne
      unfold fnd
      rw [if_neg hne]
      exact fnd_some h hm

structure KeyOk (P : Program) (K : TypeId) (κ : Type) [Rep κ] [DecidableEq κ] : Prop where
  check : ∀ S v (x : κ), (isv x).p S v → ∀ e w, (Instr.checkKey e 10000 K v).run P w = .ok () w
  find : ∀ {ν : Type} [Rep ν] S v (x : κ), (isv x).p S v → ∀ w es (m : List (κ × ν)), rdM S es m → (Instr.findKey K v es).run P w = .ok (fnd x es m 0) w

theorem run_asking {P : Program} {K : TypeId} {S : Frz} {v : Value} {x : κ} (he : ∀ u (y : κ), (isv y).p S u → ∀ w, (Op.equal K v u).run P w = .ok (decide (x = y)) w) (w : World) :
    ∀ (es : List MapEntry) (m : List (κ × ν)) (i : Nat), rdM S es m → (Instr.findAsking K v es i).run P w = .ok (fnd x es m i) w
  | [], [], i, _ => by simp [Instr.findAsking, fnd]
  | e :: es, p :: m, i, ⟨h1, _, h⟩ => by
    unfold Instr.findAsking fnd
    simp only [Sem.run_bind, he _ _ h1, Result.andThen_ok]
    by_cases hx : x = p.1
    · simp [hx]
    · simp [hx, run_asking he w es m (i + 1) h]
end keys

theorem run_check_int {P : Program} {K : TypeId} (hK : P.underlying K = some (.int .i64)) (e : Bool) (n : Nat) (v : Value) (w : World) : (Instr.checkKey e (n + 1) K v).run P w = .ok () w := by
  unfold Instr.checkKey
  simp [underlying, hK]

theorem KeyOk.tag {P : Program} {T I : TypeId} {f g : Field} (hu : P.underlying T = some (.struct #[f, g])) (hs : P.stoodInHeld T = false) (hT : P.underlying I = some (.int .i64))
    (h1 : f.offset = 0 := by rfl) (h2 : g.offset = 1 := by rfl) (n1 : (f.name == "_") = false := by rfl) (n2 : (g.name == "_") = false := by rfl) (t1 : f.type = I := by rfl) (t2 : g.type = I := by rfl) : KeyOk P T Tag where
  check := fun S v x hx e w => by
    obtain ⟨cs, rfl, hr⟩ := isv_agg hx rfl
    have e1 := one_of_drop (Tag.f0.rget hr).1
    have e2 := one_of_drop (Tag.f1.rget hr).1
    have m1 : f.name ≠ "_" := by intro h; rw [h] at n1; simp at n1
    have m2 : g.name ≠ "_" := by intro h; rw [h] at n2; simp at n2
    show (Instr.checkKey e (9999 + 1) T (.agg cs)).run P w = .ok () w
    unfold Instr.checkKey
    have p1 := part_plain (P := P) (T := I) hT rfl (xs := cs) (off := 0) (by simpa using e1) w
    have p2 := part_plain (P := P) (T := I) hT rfl (xs := cs) (off := 1) (by have h : Tag.f1.off = 1 := rfl; rw [h] at e2; simpa using e2) w
    simp [underlying, hu, m1, m2, t1, t2, h1, h2, p1, p2, run_check_int hT e 9998]
  find := fun {ν} _ S v x hx w es m hm => by
    have he : ∀ u (y : Tag), (isv y).p S u → ∀ w, (Op.equal T v u).run P w = .ok (decide (x = y)) w := fun u y hy w => by
      obtain ⟨cs, rfl, k1⟩ := isv_agg hx rfl
      obtain ⟨ds, rfl, k2⟩ := isv_agg hy rfl
      have hf : P.fieldsOf T = #[f, g] := by simp [Program.fieldsOf, hu]
      unfold Op.equal Op.maxDepth
      rw [run_equalIn_struct w 9999 T cs ds (by rw [hf]; exact hu) hs, hf, eqFs_run (eqFs_tag h1 h2 n1 n2 hT t1 t2) k1 k2, Tag.eq_dec]
    unfold Instr.findKey
    cases es with
    | nil => cases m with
      | nil => simp [underlying, hu, Instr.findNow, fnd]
      | cons _ _ => exact hm.elim
    | cons e es =>
      have := run_asking he w (e :: es) m 0 hm
      simp [underlying, hu, Instr.findNow, Instr.sameNow, this]

theorem gm_get {P : Program} {w : World} {r : Nat} {es : Array MapEntry} {cl : Nat} (hb : w.heap[r]? = some (.map es cl)) : (getObj r).run P w = .ok (.map es cl) w := by
  simp [getObj, Sem.run, hb]
theorem gm_set {P : Program} {w : World} {r : Nat} {es : Array MapEntry} {cl : Nat} (o' : Obj) (hb : w.heap[r]? = some (.map es cl)) : (setObj r o').run P w = .ok () { w with heap := w.heap.setIfInBounds r o' } := by
  simp [setObj, Sem.run, hb]

section ops
variable {c : Ctx} {ty : TypeId} {pos : String} {af : Array Edge} {g : Option (Nat × Bool)}

def mapv (b : Nat) : VP where
  p := fun _ v => v = .map (some b)
  mono := fun _ h => h
def mapE {κ ν : Type} [Rep κ] [Rep ν] (b : Nat) (m : List (κ × ν)) : Ent where
  k := some b
  φ := { p := fun b S o => S b = none ∧ ∃ es cl, o = .map es cl ∧ rdM S es.toList m
         mono := fun h hb ⟨h1, es, cl, e, h2⟩ => ⟨hb ▸ h1, es, cl, e, h2.mono h⟩ }

theorem t_makeMap {Γ : Slots} {H : List Ent} (κ ν : Type) [Rep κ] [Rep ν] {T : TypeId} {dd : Nat} {K : St → Prop}
    (k : ∀ b, K ⟨(dd, mapv b) :: Γ, mapE b ([] : List (κ × ν)) :: H⟩) (hd : Nat.blt dd c.n = true := by rfl) :
    OpT c ⟨some dd, .makeMap T none, ty, pos, af, g⟩ ⟨Γ, H⟩ K := by
  intro S a w next Q m hn
  unfold Oper.wp
  have : (execOp a.eval ⟨some dd, .makeMap T none, ty, pos, af, g⟩).run c.P w = .ok (.value (.map (some w.heap.size))) { w with heap := w.heap.push (.map #[] 0) } := by
    simp [execOp, Instr.makeMap, newObj, Sem.run]
  rw [this]
  have m1 := m.step (Hc := []) (H' := [mapE w.heap.size ([] : List (κ × ν))]) .nil (step_push m.sub (.map #[] 0))
    (owns_one ⟨.map #[] 0, by simp, sub_fresh m.sub, _, _, rfl, trivial⟩ fun b hb => by simp [mapE] at hb; subst hb; exact .inr (Nat.le_refl _))
  exact hn _ _ _ _ (Frz.le_refl _) (k w.heap.size) (m1.put hd rfl)

theorem step_setObj {S : Frz} {w : World} {b : Nat} {o o' : Obj} (hs : S.sub w) (hb : S b = none) (hw : w.heap[b]? = some o) :
    Step [b] S S w { w with heap := w.heap.setIfInBounds b o' } ∧ ({ w with heap := w.heap.setIfInBounds b o' } : World).heap[b]? = some o' := by
  have hlt := (Array.getElem?_eq_some_iff.1 hw).1
  have h0 : ∀ k, k ≠ b → (w.heap.setIfInBounds b o')[k]? = w.heap[k]? := fun k hk => by
    rw [Array.getElem?_setIfInBounds, if_neg (fun e => hk e.symm)]
  refine ⟨⟨⟨rfl, rfl, rfl, by simp, fun k _ hk => h0 k (by simpa using hk)⟩, Grow.refl _ _ _, fun k d hk => ?_⟩, ?_⟩
  · have hne : k ≠ b := by rintro rfl; rw [hb] at hk; cases hk
    obtain ⟨c, T, fr, hh, hp⟩ := hs k d hk
    exact ⟨c, T, fr, by rw [h0 k hne]; exact hh, hp⟩
  · show (w.heap.setIfInBounds b o')[b]? = some o'
    rw [Array.getElem?_setIfInBounds, if_pos rfl, if_pos hlt]

theorem t_lookupOk {Γ : Slots} {H Hr : List Ent} {κ ν : Type} [Rep κ] [Rep ν] [DecidableEq κ] {T Kt E : TypeId} {x i : Operand} {b dd : Nat} {a : κ} {z : ν} {m : List (κ × ν)} {K : St → Prop}
    (hT : c.P.underlying T = some (.map Kt E)) (hk : KeyOk c.P Kt κ) (hz : ZeroOk c.P E z) (hx : opnd Γ x = some (mapv b)) (hi : opnd Γ i = some (isv a)) (hp : Pick (mapE b m) H Hr)
    (k : K ⟨(dd, tupv [isv ((mget m a).getD z), isv (mget m a).isSome]) :: Γ, H⟩) (hd : Nat.blt dd c.n = true := by rfl) :
    OpT c ⟨some dd, .lookup T x i true, ty, pos, af, g⟩ ⟨Γ, H⟩ K := by
  intro S act w next Q mm hn
  have h1 : act.eval x = .map (some b) := opnd_sound mm hx
  have h2 := opnd_sound mm hi
  have hs : (mapE b m).sat S w := mm.owns.get hp
  obtain ⟨o, ho, hnone, es, cl, e, hr⟩ := hs
  subst e
  obtain ⟨zv, hzr, hzp⟩ := hz.run w
  obtain ⟨v, hv, hrun⟩ : ∃ v, (tupv [isv ((mget m a).getD z), isv (mget m a).isSome]).p S v ∧ (execOp act.eval ⟨some dd, .lookup T x i true, ty, pos, af, g⟩).run c.P w = .ok (.value v) w := by
    cases hm : mget m a with
    | none =>
      refine ⟨.tuple #[zv, .bool false], ⟨[zv, .bool false], rfl, hzp S, isv_bool.2 rfl, trivial⟩, ?_⟩
      have hf := hk.find S _ a h2 w es.toList m hr
      rw [fnd_none hr hm] at hf
      simp [execOp, Instr.lookup, h1, underlying, hT, gm_get ho, hk.check S _ a h2, hf, hzr]
    | some y =>
      obtain ⟨j, u, hj, hu⟩ := fnd_some (i := 0) hr hm
      refine ⟨.tuple #[u, .bool true], ⟨[u, .bool true], rfl, hu, isv_bool.2 rfl, trivial⟩, ?_⟩
      have hf := hk.find S _ a h2 w es.toList m hr
      rw [hj] at hf
      simp [execOp, Instr.lookup, h1, underlying, hT, gm_get ho, hk.check S _ a h2, hf]
  unfold Oper.wp
  rw [hrun]
  exact hn _ _ _ _ (Frz.le_refl _) k (mm.put hd hv)

theorem t_mapAdd {Γ : Slots} {H Hr : List Ent} {κ ν : Type} [Rep κ] [Rep ν] [DecidableEq κ] {T Kt E : TypeId} {x i u : Operand} {b : Nat} {a : κ} {y : ν} {m : List (κ × ν)} {K : St → Prop}
    (hT : c.P.underlying T = some (.map Kt E)) (hk : KeyOk c.P Kt κ) (hx : opnd Γ x = some (mapv b)) (hi : opnd Γ i = some (isv a)) (hu : opnd Γ u = some (isv y)) (hp : Pick (mapE b m) H Hr) (hm : mget m a = none)
    (k : K ⟨Γ, mapE b (m ++ [(a, y)]) :: Hr⟩) :
    OpT c ⟨none, .mapUpdate T x i u, ty, pos, af, g⟩ ⟨Γ, H⟩ K := by
  intro S act w next Q mm hn
  have h1 : act.eval x = .map (some b) := opnd_sound mm hx
  have h2 := opnd_sound mm hi
  have h3 := opnd_sound mm hu
  have hs : (mapE b m).sat S w := mm.owns.get hp
  obtain ⟨o, ho, hnone, es, cl, e, hr⟩ := hs
  subst e
  have hf := hk.find S _ a h2 w es.toList m hr
  rw [fnd_none hr hm] at hf
  unfold Oper.wp
  have : (execOp act.eval ⟨none, .mapUpdate T x i u, ty, pos, af, g⟩).run c.P w = .ok .skip { w with heap := w.heap.setIfInBounds b (.map (es.push { key := act.eval i, val := act.eval u, born := cl }) (cl + 1)) } := by
    simp [execOp, Instr.mapUpdate, h1, underlying, hT, gm_get ho, hk.check S _ a h2, hf, gm_set _ ho]
  rw [this]
  obtain ⟨hst, hh⟩ := step_setObj (o' := .map (es.push { key := act.eval i, val := act.eval u, born := cl }) (cl + 1)) mm.sub hnone ho
  have m1 := mm.step (Hc := [mapE b m]) (H' := [mapE b (m ++ [(a, y)])]) (Takes.cons hp .nil) hst
    (owns_one ⟨_, hh, hnone, _, _, rfl, by simpa using rdM.push (p := (a, y)) h2 h3 hr⟩ fun b' hb => by simp [mapE] at hb; subst hb; exact .inl (by simp [keys, mapE]))
  exact hn _ _ _ _ (Frz.le_refl _) k m1
end ops
end Go.Sy
