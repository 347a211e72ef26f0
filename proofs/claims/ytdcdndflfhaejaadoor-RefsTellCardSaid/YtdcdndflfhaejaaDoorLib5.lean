/- Contracts of functions, calls, results, loops. No condition: general lemmas. -/
import Derived.Test.YtdcdndflfhaejaaDoorLib4
import Derived.Lib.DecodeN
namespace Go.Sy

/-- The tables of utf8 lie in the world, where the program has them. -/
def TabsW (P : Program) (w : World) : Prop := ∀ g1 g2, P.globals.findIdx? (·.name == "unicode/utf8.first") = some g1 → P.globals.findIdx? (·.name == "unicode/utf8.acceptRanges") = some g2 →
  (∀ c, c < 256 → w.cell? ⟨g1, c, none⟩ = some (.int .u8 (Lib.firstT c))) ∧
  (∀ i, i < 16 → w.cell? ⟨g2, 2 * i, none⟩ = some (.int .u8 (Lib.accLo i)) ∧ w.cell? ⟨g2, 2 * i + 1, none⟩ = some (.int .u8 (Lib.accHi i)))
/-- They lie in memory that no longer turns. -/
def Tabs (P : Program) (S : Frz) : Prop := ∀ w, S.sub w → TabsW P w
theorem Tabs.mono {P : Program} {S S' : Frz} (h : S.le S') (k : Tabs P S) : Tabs P S' := fun w hw => k w fun b cs hb => by
  obtain ⟨cs', h1, h2⟩ := h b cs hb
  obtain ⟨c, T, fr, h3, h4⟩ := hw b cs' h1
  exact ⟨c, T, fr, h3, h2.trans h4⟩

/-- Several values. -/
def tupv (Rs : List VP) : VP where
  p := fun S v => ∃ vs : List Value, v = .tuple vs.toArray ∧ VPs S Rs vs
  mono := fun h ⟨vs, e, k⟩ => ⟨vs, e, k.mono h⟩
def Callable (P : Program) (f : FuncId) : Prop := ∃ fn, P.funcs[f]? = some fn ∧ fn.body.isSome = true ∧ (fn.name == "runtime.NumGoroutine") = false

/-- What a function is promised to do: arguments as said, lent blocks as said: it returns, and this is what comes back and what the lent blocks (and some new ones) then are. -/
structure Ctr (P : Program) (f : FuncId) (args : List VP) (H : List Ent) (post : VP → List Ent → Prop) : Prop where
  callable : Callable P f
  calls : ∀ S w vs, Tabs P S → S.sub w → VPs S args vs → Owns (keys H) w.heap.size H S w → Calls P f vs.toArray w fun e w' =>
    ∃ v S' R H', post R H' ∧ e = .returned v ∧ R.p S' v ∧ Step (keys H) S S' w w' ∧ Owns (keys H) w.heap.size H' S' w'

theorem Ctr.mono {P : Program} {f : FuncId} {args : List VP} {H : List Ent} {post post' : VP → List Ent → Prop} (h : Ctr P f args H post) (hp : ∀ R H', post R H' → post' R H') : Ctr P f args H post' :=
  ⟨h.callable, fun S w vs h0 h1 h2 h3 => (h.calls S w vs h0 h1 h2 h3).mono fun _ _ ⟨v, S', R, H', k, r⟩ => ⟨v, S', R, H', hp _ _ k, r⟩⟩

def slotsOf : Nat → List VP → Slots
  | _, [] => []
  | i, R :: Rs => (i, R) :: slotsOf (i + 1) Rs

theorem slotsOf_look {S : Frz} : ∀ {Rs : List VP} {vs : List Value} {k i : Nat} {R : VP}, VPs S Rs vs → look (slotsOf k Rs) i = some R → ∃ v, k ≤ i ∧ vs[i - k]? = some v ∧ R.p S v
  | [], _, _, _, _, _, h => by cases h
  | _ :: Rs, v :: vs, k, i, R, ⟨k1, k2⟩, h => by
    unfold slotsOf look at h
    cases hk : Nat.beq k i with
    | true =>
      rw [hk] at h
      have e : k = i := Nat.eq_of_beq_eq_true hk
      subst e
      cases h
      exact ⟨v, Nat.le_refl _, by simp, k1⟩
    | false =>
      rw [hk] at h
      obtain ⟨u, h1, h2, h3⟩ := slotsOf_look k2 h
      refine ⟨u, by omega, ?_, h3⟩
      have : i - k = (i - (k + 1)) + 1 := by omega
      rw [this]; simpa using h2

def postQ (P : Program) (fn : Func) (w0 : World) (S0 : Frz) (H0 : List Ent) (post : VP → List Ent → Prop) : Exit → Act → World → Prop :=
  bodyPost P fn fun e w' => ∃ v S' R H', post R H' ∧ e = .returned v ∧ R.p S' v ∧ Step (keys H0) S0 S' w0 w' ∧ Owns (keys H0) w0.heap.size H' S' w'

theorem spec_intro {P : Program} {f : FuncId} {fn : Func} {code : Code} {args : List VP} {H : List Ent} {post : VP → List Ent → Prop}
    (hf : P.funcs[f]? = some fn) (hb : fn.body = some code) (hn : (fn.name == "runtime.NumGoroutine") = false) (hl : Nat.ble args.length fn.ntmps = true)
    (h : ∀ w0 S0, Tabs P S0 → Wp ⟨P, fn.ntmps, w0, S0, keys H, []⟩ code ⟨slotsOf 0 args, H⟩ (postQ P fn w0 S0 H post)) : Ctr P f args H post := by
  refine ⟨⟨fn, hf, by rw [hb]; rfl, hn⟩, fun S w vs ht hs hv ho => calls_of_wp hf hb (h w S ht S _ w ?_)⟩
  have hlen := hv.length
  have hl' := Nat.le_of_ble_eq_true hl
  refine ⟨by simp; omega, rfl, hs, Keep.refl _ _, Grow.refl _ _ _, fun i R hi => ?_, ho, fun x hx => by cases hx⟩
  obtain ⟨v, _, h2, h3⟩ := slotsOf_look hv hi
  refine ⟨v, ?_, h3⟩
  have hlt : i < vs.length := by have := (List.getElem?_eq_some_iff.1 h2).1; omega
  rw [Array.getElem?_append_left (by simpa using hlt)]
  simpa using h2

inductive Results (P : Program) (σ : St) : List ResultVar → List VP → Prop
  | nil : Results P σ [] []
  | tmp {t : Nat} {R : VP} {rs : List ResultVar} {Rs : List VP} : look σ.Γ t = some R → Results P σ rs Rs → Results P σ (.tmp t :: rs) (R :: Rs)
  | as {t : Nat} {R R' : VP} {rs : List ResultVar} {Rs : List VP} : look σ.Γ t = some R → (∀ S v, R.p S v → R'.p S v) → Results P σ rs Rs → Results P σ (.tmp t :: rs) (R' :: Rs)
  | cell {α β : Type} [Rep α] [Rep β] {t b : Nat} {L : Fld α β} {y : α} {T : TypeId} {Hr : List Ent} {rs : List ResultVar} {Rs : List VP} : look σ.Γ t = some (ptrv b L) → Pick (boxE b y) σ.H Hr →
      TyB P T (Rep.n β) (Rep.agg β) = true → Results P σ rs Rs → Results P σ (.cell t T :: rs) (isv (L.get y) :: Rs)

def resOf (a : Act) : ResultVar → Sem Value
  | .tmp t => pure (a.tmps.getD t undef)
  | .cell x t => do loadVar t (← asAddr (a.tmps.getD x undef))

theorem Results.run {c : Ctx} {σ : St} {S : Frz} {a : Act} {w : World} (m : Models c σ S a w) {rs : List ResultVar} {Rs : List VP} (h : Results c.P σ rs Rs) :
    ∃ vs, VPs S Rs vs ∧ (rs.mapM (resOf a)).run c.P w = .ok vs w := by
  induction h with
  | nil => exact ⟨[], trivial, by simp⟩
  | tmp hl _ ih =>
    obtain ⟨vs, hv, hr⟩ := ih
    obtain ⟨v, h1, h2⟩ := m.env _ _ hl
    exact ⟨v :: vs, ⟨h2, hv⟩, by simp [List.mapM_cons, resOf, hr, Array.getD_eq_getD_getElem?, h1]⟩
  | as hl himp _ ih =>
    obtain ⟨vs, hv, hr⟩ := ih
    obtain ⟨v, h1, h2⟩ := m.env _ _ hl
    exact ⟨v :: vs, ⟨himp _ _ h2, hv⟩, by simp [List.mapM_cons, resOf, hr, Array.getD_eq_getD_getElem?, h1]⟩
  | cell hl hp ht _ ih =>
    rename_i b L y T _ _ _ _
    obtain ⟨vs, hv, hr⟩ := ih
    obtain ⟨v, h1, h2⟩ := m.env _ _ hl
    have h2' : v = .pointer (some ⟨b, L.off, none⟩) := h2
    subst h2'
    have hs : (boxE b y).sat S w := m.owns.get hp
    obtain ⟨o, ho, hnone, cs, T', e, hrd⟩ := hs
    subst e
    obtain ⟨v, hv', hrun⟩ := run_loadVar (ad := ⟨b, L.off, none⟩) ht (L.rget hrd)
    have h3 := hrun w fun i u hi => by
      rw [add_none]
      unfold World.cell?
      rw [ho]
      simp only
      rw [List.getElem?_take] at hi
      split at hi
      · rw [List.getElem?_drop] at hi
        simpa using hi
      · cases hi
    exact ⟨v :: vs, ⟨hv', hv⟩, by simp [List.mapM_cons, resOf, hr, Array.getD_eq_getD_getElem?, h1, asAddr, h3]⟩

theorem owns_takes {M : List Nat} {B : Nat} {H Hc Hr : List Ent} {S : Frz} {w : World} (h : Owns M B H S w) (t : Takes H Hc Hr) : Owns M B Hc S w := by
  have hp := t.perm
  have hk := keys_perm hp
  rw [keys_append] at hk
  exact ⟨fun e he => h.sat e (hp.mem_iff.2 (List.mem_append_left _ he)), (List.nodup_append.1 (hk.nodup_iff.1 h.nodup)).1, fun b hb => h.own b (hk.mem_iff.2 (List.mem_append_left _ hb))⟩

def oneOf : List VP → VP
  | [R] => R
  | Rs => tupv Rs

theorem results_run {c : Ctx} {σ : St} {S : Frz} {a : Act} {w : World} (m : Models c σ S a w) {fn : Func} {Rs : List VP} (h : Results c.P σ fn.results.toList Rs) :
    ∃ v, (oneOf Rs).p S v ∧ (results fn a.tmps).run c.P w = .ok v w := by
  obtain ⟨vs, hv, hr⟩ := h.run m
  have hlen := hv.length
  have e : (results fn a.tmps).run c.P w = .ok (if h : vs.toArray.size = 1 then vs.toArray[0] else .tuple vs.toArray) w := by
    have e0 : results fn a.tmps = (do
        let vs ← fn.results.mapM (resOf a)
        pure (if h : vs.size = 1 then vs[0] else .tuple vs)) := rfl
    rw [e0, Array.mapM_eq_mapM_toList]
    simp only [Sem.run_bind, Sem.run_map, Sem.run_pure, hr, Result.andThen_ok]
  refine ⟨_, ?_, e⟩
  match Rs, vs, hv, hlen with
  | [], [], _, _ => exact ⟨[], rfl, trivial⟩
  | [R], [v], hv, _ => exact hv.1
  | R :: R' :: Rs, v :: v' :: vs, hv, _ => exact ⟨v :: v' :: vs, by rw [dif_neg (by simp)], hv⟩

section ret
variable {P : Program} {n : Nat} {w0 : World} {S0 : Frz} {H0 : List Ent} {σ : St} {fn : Func} {post : VP → List Ent → Prop}

theorem ret_post {Rs : List VP} {H' Hr : List Ent} (h : Results P σ fn.results.toList Rs) (ht : Takes σ.H H' Hr) (hp : post (oneOf Rs) H') :
    Ret ⟨P, n, w0, S0, keys H0, []⟩ σ (postQ P fn w0 S0 H0 post) := fun S a w m => by
  obtain ⟨v, hv, hr⟩ := results_run m h
  exact ⟨m.dfr, v, hr, v, S, _, _, hp, rfl, hv, ⟨m.keep, m.grow, m.sub⟩, owns_takes m.owns ht⟩
theorem fin_post {Rs : List VP} {H' Hr : List Ent} (h : Results P σ fn.results.toList Rs) (ht : Takes σ.H H' Hr) (hp : post (oneOf Rs) H') :
    Fin ⟨P, n, w0, S0, keys H0, []⟩ σ (postQ P fn w0 S0 H0 post) := fun S a w m => by
  obtain ⟨v, hv, hr⟩ := results_run m h
  exact ⟨m.dfr, v, hr, v, S, _, _, hp, rfl, hv, ⟨m.keep, m.grow, m.sub⟩, owns_takes m.owns ht⟩
end ret

/-- What comes back is this, and nothing is left over. -/
def pureP {α : Type} [Rep α] (x : α) : VP → List Ent → Prop := fun R H => R = isv x ∧ H = []
def pureP2 {α β : Type} [Rep α] [Rep β] (x : α) (y : β) : VP → List Ent → Prop := fun R H => R = tupv [isv x, isv y] ∧ H = []
def pureP3 {α β γ : Type} [Rep α] [Rep β] [Rep γ] (x : α) (y : β) (z : γ) : VP → List Ent → Prop := fun R H => R = tupv [isv x, isv y, isv z] ∧ H = []
theorem pure1 {α : Type} [Rep α] {x y : α} (h : x = y) : pureP y (oneOf [isv x]) [] := ⟨by rw [h]; rfl, rfl⟩
theorem pure2 {α β : Type} [Rep α] [Rep β] {x x' : α} {y y' : β} (h : x = x') (k : y = y') : pureP2 x' y' (oneOf [isv x, isv y]) [] := ⟨by rw [h, k]; rfl, rfl⟩
theorem pure3 {α β γ : Type} [Rep α] [Rep β] [Rep γ] {x x' : α} {y y' : β} {z z' : γ} (h : x = x') (k : y = y') (j : z = z') : pureP3 x' y' z' (oneOf [isv x, isv y, isv z]) [] := ⟨by rw [h, k, j]; rfl, rfl⟩

/-! ### Calls -/

inductive Opnds (Γ : Slots) : List Operand → List VP → Prop
  | nil : Opnds Γ [] []
  | cons {x : Operand} {R R' : VP} {xs : List Operand} {Rs : List VP} : opnd Γ x = some R → (∀ S v, R.p S v → R'.p S v) → Opnds Γ xs Rs → Opnds Γ (x :: xs) (R' :: Rs)

theorem Opnds.same {Γ : Slots} {x : Operand} {R : VP} {xs : List Operand} {Rs : List VP} (h : opnd Γ x = some R) (k : Opnds Γ xs Rs) : Opnds Γ (x :: xs) (R :: Rs) := .cons h (fun _ _ h => h) k
theorem Opnds.sound {c : Ctx} {σ : St} {S : Frz} {a : Act} {w : World} (m : Models c σ S a w) {xs : List Operand} {Rs : List VP} (h : Opnds σ.Γ xs Rs) : VPs S Rs (xs.map a.eval) := by
  induction h with
  | nil => trivial
  | cons h1 h2 _ ih => exact ⟨h2 _ _ (opnd_sound m h1), ih⟩

theorem run_callFunc {P : Program} {f : FuncId} (h : Callable P f) (args : Array Value) (w : World) : (callFunc f args).run P w = .ok (.enter f args) w := by
  obtain ⟨fn, h1, h2, h3⟩ := h
  have h3' : ¬ fn.name = "runtime.NumGoroutine" := by simpa using h3
  have h4 : ¬ fn.body = none := by intro h; rw [h] at h2; cases h2
  simp [callFunc, h1, h3', h4]

section calls
variable {c : Ctx} {ty : TypeId} {pos : String} {af : Array Edge} {g : Option (Nat × Bool)} {σ : St}

theorem t_callS {Γ : Slots} {H : List Ent} {f : FuncId} {o : Oper} {args : List VP} {Hc Hr : List Ent} {post : VP → List Ent → Prop} {dd : Nat} {K : St → Prop} (hs : Ctr c.P f args Hc post) (hT : Tabs c.P c.S0) (ht : Takes H Hc Hr) (hd : Nat.blt dd c.n = true) (hdst : o.dst = some dd)
    (he : ∀ S a w, Models c ⟨Γ, H⟩ S a w → ∃ vs, VPs S args vs ∧ (execOp a.eval o).run c.P w = .ok (.enter f vs.toArray) w)
    (k : ∀ R H', post R H' → K ⟨(dd, R) :: Γ, H' ++ Hr⟩) : OpT c o ⟨Γ, H⟩ K := by
  intro S a w next Q m hn
  obtain ⟨vs, hv, hr⟩ := he S a w m
  unfold Oper.wp
  rw [hr, Oper.upon_enter]
  have ho : Owns (keys Hc) w.heap.size Hc S w := by
    have := owns_takes m.owns ht
    exact ⟨this.sat, this.nodup, fun b hb => .inl hb⟩
  refine (hs.calls S w vs (hT.mono m.grow.le) m.sub hv ho).mono fun e w' ⟨v, S', R, H', hp, e1, hR, hst, ho'⟩ => ?_
  subst e1
  rw [hdst]
  exact hn _ _ _ _ hst.grow.le (k R H' hp) ((m.step ht hst ho').put hd hR)

theorem t_call {Γ : Slots} {H : List Ent} {f : FuncId} {xs : Array Operand} {ats : Array TypeId} {args : List VP} {Hc Hr : List Ent} {post : VP → List Ent → Prop} {dd : Nat} {K : St → Prop} (hs : Ctr c.P f args Hc post) (hT : Tabs c.P c.S0) (hx : Opnds Γ xs.toList args) (ht : Takes H Hc Hr)
    (k : ∀ R H', post R H' → K ⟨(dd, R) :: Γ, H' ++ Hr⟩) (hd : Nat.blt dd c.n = true := by rfl) :
    OpT c ⟨some dd, .call ⟨.value (.func f), xs, ats⟩, ty, pos, af, g⟩ ⟨Γ, H⟩ K := by
  refine t_callS hs hT ht hd rfl (fun S a w m => ⟨xs.toList.map a.eval, hx.sound m, ?_⟩) k
  have : xs.map a.eval = (xs.toList.map a.eval).toArray := by cases xs; simp
  simp only [execOp, resolve, Act.eval, Deferred.ofValue, Sem.run_bind, Sem.run_pure, Result.andThen_ok, invoke, Array.empty_append, Array.append_empty, this]
  exact run_callFunc hs.callable _ w

theorem t_callC {Γ : Slots} {H : List Ent} {f : FuncId} {x : Operand} {caps : List VP} {xs : Array Operand} {ats : Array TypeId} {args : List VP} {Hc Hr : List Ent} {post : VP → List Ent → Prop} {dd : Nat} {K : St → Prop} (hf : opnd Γ x = some (clov f caps)) (hx : Opnds Γ xs.toList args) (hs : Ctr c.P f (args ++ caps) Hc post) (hT : Tabs c.P c.S0) (ht : Takes H Hc Hr)
    (k : ∀ R H', post R H' → K ⟨(dd, R) :: Γ, H' ++ Hr⟩) (hd : Nat.blt dd c.n = true := by rfl) :
    OpT c ⟨some dd, .call ⟨.value x, xs, ats⟩, ty, pos, af, g⟩ ⟨Γ, H⟩ K := by
  refine t_callS hs hT ht hd rfl (fun S a w m => ?_) k
  obtain ⟨vs, h1, h2⟩ := opnd_sound m hf
  refine ⟨xs.toList.map a.eval ++ vs, (hx.sound m).append h2, ?_⟩
  have : xs.map a.eval = (xs.toList.map a.eval).toArray := by cases xs; simp
  simp only [execOp, resolve, h1, Deferred.ofValue, Sem.run_bind, Sem.run_pure, Result.andThen_ok, invoke, this, List.append_toArray, List.nil_append]
  exact run_callFunc hs.callable _ w

theorem v_makeFunc {d : Option Nat} {f : FuncId} {xs : Array Operand} {caps : List VP} (hx : Opnds σ.Γ xs.toList caps) : OpV c ⟨d, .makeFunc (.func f) #[] xs, ty, pos, af, g⟩ σ (clov f caps) := fun S a w m => by
  have : xs.map a.eval = (xs.toList.map a.eval).toArray := by cases xs; simp
  exact ⟨.func (.func f) #[] (xs.toList.map a.eval).toArray, ⟨_, rfl, hx.sound m⟩, fun w' _ => by simp [execOp, Instr.makeFunc, this]⟩

theorem v_extract {d : Option Nat} {x : Operand} {i : Nat} {Rs : List VP} {R : VP} (hx : opnd σ.Γ x = some (tupv Rs)) (hi : Rs[i]? = some R) : OpV c ⟨d, .extract x i, ty, pos, af, g⟩ σ R := fun S a w m => by
  obtain ⟨vs, h1, h2⟩ := opnd_sound m hx
  obtain ⟨v, h3, h4⟩ := h2.get hi
  exact ⟨v, h4, fun w' _ => by simp [execOp, h1, Instr.extract, h3]⟩
end calls

/-! ### Loops -/

def loopQ (c : Ctx) {ι : Type} (I : ι → Prop) (inv : ι → St) (μ : ι → Nat) (i : ι) (Q : Exit → Act → World → Prop) : Exit → Act → World → Prop :=
  Exit.then (fun a w => ∃ j S, I j ∧ Models c (inv j) S a w ∧ μ j < μ i) Q

section loop
variable {c : Ctx} {σ : St} {Q : Exit → Act → World → Prop}

/-- What is known may be said with less. -/
structure Imp (σ σ' : St) : Prop where
  Γ : Slots.imp σ.Γ σ'.Γ
  H : ∃ Hr, Takes σ.H σ'.H Hr

theorem Models.weak {S : Frz} {a : Act} {w : World} {σ' : St} (m : Models c σ S a w) (h : Imp σ σ') : Models c σ' S a w := by
  obtain ⟨h1, Hr, h2⟩ := h
  have := m.imp h1
  exact ⟨this.size, this.dfr, this.sub, this.keep, this.grow, this.env, owns_takes this.owns h2, fun x hx => by
    obtain ⟨k1, k2, k3, k4⟩ := this.pins x hx
    refine ⟨k1, k2, fun h => k3 ?_, k4⟩
    have hk := keys_perm h2.perm
    rw [keys_append] at hk
    exact hk.mem_iff.2 (List.mem_append_left _ h)⟩

theorem imp_mk {Γ Γ' : Slots} {H H' Hr : List Ent} (h : Slots.imp Γ Γ') (k : Takes H H' Hr) : Imp ⟨Γ, H⟩ ⟨Γ', H'⟩ := ⟨h, Hr, k⟩

theorem w_loop {ι : Type} {x : Code} (I : ι → Prop) (inv : ι → St) (μ : ι → Nat) (i0 : ι) (hI : I i0) (h0 : Imp σ (inv i0))
    (round : ∀ i, I i → Wp c x (inv i) (loopQ c I inv μ i Q)) : Wp c (.loop x) σ Q := fun S a w m => by
  refine wp_loop' (ι := { i : ι // I i }) (fun i a w => ∃ S, Models c (inv i.1) S a w) (fun i => μ i.1) ⟨i0, hI⟩ ⟨S, m.weak h0⟩ ?_
  rintro ⟨i, hi⟩ a w ⟨S, m⟩
  refine wp_mono (round i hi S a w m) fun e a w h => ?_
  cases e with
  | normal => obtain ⟨j, S, hj, h1, h2⟩ := h; exact ⟨⟨j, hj⟩, ⟨S, h1⟩, h2⟩
  | _ => exact h
where
  wp_loop' {P : Program} {ι : Type} {x : Code} {Q : Exit → Act → World → Prop} {a : Act} {w : World} (J : ι → Act → World → Prop) (μ : ι → Nat) (i0 : ι) (h0 : J i0 a w)
      (round : ∀ i a w, J i a w → x.wp P (Exit.then (fun a' w' => ∃ j, J j a' w' ∧ μ j < μ i) Q) a w) : (Code.loop x).wp P Q a w := by
    intro b k cs
    have key : ∀ n i a w, μ i = n → J i a w → ∃ e a' w', Q e a' w' ∧ Arrives P (lone (b.at a (.code x :: .inLoop x :: k)) cs w) b k cs e a' w' := by
      intro n
      induction n using Nat.strongRecOn with
      | _ n ih =>
        intro i a w hn hJ
        obtain ⟨e, a₁, w₁, hq, harr⟩ := round i a w hJ b (.inLoop x :: k) cs
        cases e with
        | normal =>
          obtain ⟨j, hJ₁, hlt⟩ := hq
          obtain ⟨e₂, a₂, w₂, hq₂, harr₂⟩ := ih (μ j) (hn ▸ hlt) j a₁ w₁ rfl hJ₁
          exact ⟨e₂, a₂, w₂, hq₂, .of_steps (Steps.trans harr (.one step_inLoop)) harr₂⟩
        | exit id => exact ⟨_, a₁, w₁, hq, .pass (x := .inLoop x) rfl (fun _ _ => .inl (by simp)) harr⟩
        | goto l => exact ⟨_, a₁, w₁, hq, .pass (x := .inLoop x) rfl (fun _ _ => .inl (by simp)) harr⟩
        | ret => exact ⟨_, a₁, w₁, hq, .pass (x := .inLoop x) rfl (fun _ _ => .inl (by simp)) harr⟩
        | panic ch => exact ⟨_, a₁, w₁, hq, .pass (x := .inLoop x) rfl (fun _ _ => .inl (by simp)) harr⟩
        | outgrown => exact ⟨_, a₁, w₁, hq, .pass (x := .inLoop x) rfl (fun _ _ => .inl (by simp)) harr⟩
    obtain ⟨e, a', w', hq, harr⟩ := key _ i0 a w rfl h0
    exact ⟨e, a', w', hq, .of_steps (.one step_loop) harr⟩

theorem fin_loop {ι : Type} {I : ι → Prop} {inv : ι → St} {μ : ι → Nat} {i : ι} (j : ι) (hI : I j) (hμ : μ j < μ i) (h : Imp σ (inv j)) : Fin c σ (loopQ c I inv μ i Q) :=
  fun S _ _ m => ⟨j, S, hI, m.weak h, hμ⟩
theorem exi_loop {ι : Type} {I : ι → Prop} {inv : ι → St} {μ : ι → Nat} {i : ι} {id : Nat} (h : Exi c id σ Q) : Exi c id σ (loopQ c I inv μ i Q) := fun S a w m => h S a w m
theorem ret_loop {ι : Type} {I : ι → Prop} {inv : ι → St} {μ : ι → Nat} {i : ι} (h : Ret c σ Q) : Ret c σ (loopQ c I inv μ i Q) := fun S a w m => h S a w m

/-! A loop that turns these slots and these blocks; all others stay. -/
def tailB (pre : Slots) (ks : List Nat) (Γ : Slots) : Bool := pre.all fun x => ks.any (fun k => Nat.beq k x.1) || (look Γ x.1).isNone
theorem look_append {A B : Slots} {i : Nat} : look (A ++ B) i = (look A i).or (look B i) := by
  induction A with
  | nil => simp [look]
  | cons x A ih =>
    obtain ⟨k, R⟩ := x
    show (bif Nat.beq k i then some R else look (A ++ B) i) = (bif Nat.beq k i then some R else look A i).or (look B i)
    cases Nat.beq k i with
    | true => simp
    | false => simpa using ih
theorem look_none {A : Slots} {i : Nat} (h : look A i = none) {x : Nat × VP} (hx : x ∈ A) : x.1 ≠ i := by
  induction A with
  | nil => cases hx
  | cons y A ih =>
    obtain ⟨k, R⟩ := y
    have h' : (bif Nat.beq k i then some R else look A i) = none := h
    cases hk : Nat.beq k i with
    | true => rw [hk] at h'; cases h'
    | false =>
      rw [hk] at h'
      rcases List.mem_cons.1 hx with e | e
      · subst e; exact Nat.ne_of_beq_eq_false hk
      · exact ih h' e
theorem look_absent {A : Slots} {i : Nat} (h : ∀ x ∈ A, x.1 ≠ i) : look A i = none := by
  induction A with
  | nil => rfl
  | cons y A ih =>
    obtain ⟨k, R⟩ := y
    show (bif Nat.beq k i then some R else look A i) = none
    have hk : Nat.beq k i = false := by
      cases hk : Nat.beq k i with
      | false => rfl
      | true => exact absurd (Nat.eq_of_beq_eq_true hk) (h _ (List.mem_cons_self ..))
    rw [hk]
    exact ih fun x hx => h x (List.mem_cons_of_mem _ hx)

/-- The slots of the loop's head: those that it turns, then all others as they were. -/
theorem slots_loop {Γ Γ' mod : Slots} (n : Nat) (hd : Γ'.drop n = Γ) (ht : tailB (Γ'.take n) (mod.map (·.1)) Γ = true) (hm : ∀ i R, look mod i = some R → ∃ R0, look Γ' i = some R0 ∧ ∀ S v, R0.p S v → R.p S v) : Slots.imp Γ' (mod ++ Γ) := fun i R h => by
  rw [look_append] at h
  cases hmi : look mod i with
  | some R1 =>
    rw [hmi] at h
    simp at h
    subst h
    exact hm i R1 hmi
  | none =>
    rw [hmi] at h
    simp at h
    refine ⟨R, ?_, fun _ _ h => h⟩
    have hsplit : Γ' = Γ'.take n ++ Γ := by rw [← hd, List.take_append_drop]
    rw [hsplit, look_append, look_absent (A := Γ'.take n), h]
    · rfl
    · intro x hx e
      subst e
      have h1 := List.all_eq_true.1 ht x hx
      rw [Bool.or_eq_true] at h1
      rcases h1 with h1 | h1
      · obtain ⟨k, hk, hk2⟩ := List.any_eq_true.1 h1
        obtain ⟨y, hy, rfl⟩ := List.mem_map.1 hk
        exact look_none hmi hy (Nat.eq_of_beq_eq_true hk2)
      · rw [h] at h1; cases h1

theorem mod_nil {Γ' : Slots} : ∀ i R, look ([] : Slots) i = some R → ∃ R0, look Γ' i = some R0 ∧ ∀ S v, R0.p S v → R.p S v := fun _ _ h => by cases h
theorem mod_cons {Γ' mod : Slots} {j : Nat} {R1 R0 : VP} (h0 : look Γ' j = some R0) (h1 : ∀ S v, R0.p S v → R1.p S v) (hm : ∀ i R, look mod i = some R → ∃ R0, look Γ' i = some R0 ∧ ∀ S v, R0.p S v → R.p S v) :
    ∀ i R, look ((j, R1) :: mod) i = some R → ∃ R0, look Γ' i = some R0 ∧ ∀ S v, R0.p S v → R.p S v := fun i R h => by
  have h' : (bif Nat.beq j i then some R1 else look mod i) = some R := h
  cases hk : Nat.beq j i with
  | true =>
    rw [hk] at h'
    have e : j = i := Nat.eq_of_beq_eq_true hk
    subst e
    cases h'
    exact ⟨R0, h0, h1⟩
  | false => rw [hk] at h'; exact hm i R h'
theorem mod_eq {α : Type} [Rep α] {Γ' mod : Slots} {j : Nat} {x y : α} (h0 : look Γ' j = some (isv x)) (e : x = y) (hm : ∀ i R, look mod i = some R → ∃ R0, look Γ' i = some R0 ∧ ∀ S v, R0.p S v → R.p S v) :
    ∀ i R, look ((j, isv y) :: mod) i = some R → ∃ R0, look Γ' i = some R0 ∧ ∀ S v, R0.p S v → R.p S v := mod_cons h0 (fun _ _ h => e ▸ h) hm

theorem takes_all {H Hc Hr : List Ent} (h : Takes H Hc Hr) : Takes H (Hc ++ Hr) [] := by
  induction h with
  | nil =>
    rename_i H
    show Takes H H []
    induction H with
    | nil => exact .nil
    | cons e H ih => exact .cons .here ih
  | cons p _ ih => exact .cons p ih

theorem w_loopOn {ι : Type} {x : Code} {Γ : Slots} {H Hr : List Ent} (I : ι → Prop) (mod : ι → Slots) (Hm : ι → List Ent) (μ : ι → Nat) (i0 : ι) (hI : I i0) (hT : Takes H (Hm i0) Hr) (hm : ∀ i R, look (mod i0) i = some R → ∃ R0, look Γ i = some R0 ∧ ∀ S v, R0.p S v → R.p S v)
    (round : ∀ i, I i → Wp c x ⟨mod i ++ Γ, Hm i ++ Hr⟩ (loopQ c I (fun i => ⟨mod i ++ Γ, Hm i ++ Hr⟩) μ i Q)) : Wp c (.loop x) ⟨Γ, H⟩ Q := by
  refine w_loop I (fun i => ⟨mod i ++ Γ, Hm i ++ Hr⟩) μ i0 hI ⟨slots_loop 0 rfl rfl hm, ?_⟩ round
  exact ⟨[], takes_all hT⟩

theorem fin_loopOn {ι : Type} {Γ Γ' : Slots} {H' Hr Hx : List Ent} {I : ι → Prop} {mod : ι → Slots} {Hm : ι → List Ent} {μ : ι → Nat} {i : ι} (j : ι) (hI : I j) (hμ : μ j < μ i) (n : Nat) (hd : Γ'.drop n = Γ) (ht : tailB (Γ'.take n) ((mod j).map (·.1)) Γ = true)
    (hm : ∀ i R, look (mod j) i = some R → ∃ R0, look Γ' i = some R0 ∧ ∀ S v, R0.p S v → R.p S v) (hT : Takes H' (Hm j ++ Hr) Hx) : Fin c ⟨Γ', H'⟩ (loopQ c I (fun i => ⟨mod i ++ Γ, Hm i ++ Hr⟩) μ i Q) :=
  fin_loop j hI hμ ⟨slots_loop n hd ht hm, Hx, hT⟩

theorem dec_nt {p : Prop} [Decidable p] (h : (!decide p) = true) : ¬p := by simpa using h
theorem dec_nf {p : Prop} [Decidable p] (h : (!decide p) = false) : p := by simpa using h
theorem w_cond_t {x : Operand} {t e : Code} {b : Bool} (hx : opnd σ.Γ x = some (isv b)) (hb : b = true) (ht : Wp c t σ Q) : Wp c (.cond x t e) σ Q := w_cond hx (fun _ => ht) (fun h => by rw [hb] at h; cases h)
theorem w_cond_f {x : Operand} {t e : Code} {b : Bool} (hx : opnd σ.Γ x = some (isv b)) (hb : b = false) (he : Wp c e σ Q) : Wp c (.cond x t e) σ Q := w_cond hx (fun h => by rw [hb] at h; cases h) (fun _ => he)

/-- A cut: what stands behind is proved once, from a state that is said. -/
theorem fin_cut {σ' : St} (h : Imp σ σ') (k : Fin c σ' Q) : Fin c σ Q := fun S a w m => k S a w (m.weak h)
theorem w_cut {x : Code} {σ' : St} (h : Imp σ σ') (k : Wp c x σ' Q) : Wp c x σ Q := fun S a w m => k S a w (m.weak h)
end loop

theorem slots_eq {α : Type} [Rep α] {Γ Γ' : Slots} {i : Nat} {x y : α} (h : look Γ i = some (isv x)) (e : x = y) (k : Slots.imp Γ Γ') : Slots.imp Γ ((i, isv y) :: Γ') := slots_cons h (fun _ _ h => e ▸ h) k
theorem Pick.eq {e e' : Ent} {H : List Ent} (h : e' = e) : Pick e (e' :: H) H := h ▸ .here

end Go.Sy
