/- Statements whose order is open: one walk in one order serves every order. No condition: general lemmas. -/
import Derived.Test.YtdcdndflfhaejaaDoorLib8
namespace Go.Sy

section orders
variable {P : Program} {ops : Array Oper} {md : Region.Mode}

theorem upon_mono {o : Oper} {a : Act} {N N' : Act → World → Prop} {Q Q' : Exit → Act → World → Prop} (hn : ∀ a w, N a w → N' a w) (hq : ∀ e a w, Q e a w → Q' e a w) {r : Result Next} (h : o.upon P a N Q r) : o.upon P a N' Q' r := by
  cases r with
  | ok n w =>
    cases n <;> simp only [Oper.upon] at h ⊢
    case value v => exact hn _ _ h
    case skip => exact hn _ _ h
    case enter f args =>
      refine h.mono fun e w' he => ?_
      cases e with
      | returned v => exact hn _ _ he
      | panicked c => exact hq _ _ _ he
      | outgrown => obtain ⟨a, w, h⟩ := he; exact ⟨a, w, hq _ _ _ h⟩
    case defer d => exact hn _ _ h
    case row r as => exact h.mono fun v w' hv => hn _ _ hv
  | halt x w =>
    cases x <;> simp only [Oper.upon] at h ⊢
    exact hq _ _ _ h

theorem upon_put {o : Oper} {a : Act} {N : Act → World → Prop} {d : Option Tmp} {v : Value} (hc : ∀ d', d = some d' → o.dst ≠ some d') {r : Result Next}
    (h : o.upon P (a.put d v) N (fun _ _ _ => False) r) : o.upon P a (fun a' w' => N (a'.put d v) w') (fun _ _ _ => False) r := by
  have hput : ∀ u, (a.put d v).put o.dst u = (a.put o.dst u).put d v := fun u => Act.put_comm a v u hc
  cases r with
  | ok n w =>
    cases n <;> simp only [Oper.upon] at h ⊢
    case value u => rw [← hput]; exact h
    case skip => rw [← hput]; exact h
    case enter f args =>
      refine h.mono fun e w' he => ?_
      cases e with
      | returned u => show N _ _; rw [← hput]; exact he
      | panicked c => exact he
      | outgrown => exact he
    case defer dd =>
      have : (({ a with defers := dd :: a.defers } : Act).put o.dst undef).put d v = ({ a.put d v with defers := dd :: (a.put d v).defers } : Act).put o.dst undef := by
        have e1 : ({ a.put d v with defers := dd :: (a.put d v).defers } : Act) = ({ a with defers := dd :: a.defers } : Act).put d v := by cases d <;> rfl
        rw [e1, Act.put_comm _ v undef hc]
      rw [this]; exact h
    case row r as => refine h.mono fun u w' hu => ?_; rw [← hput]; exact hu
  | halt x w =>
    cases x <;> simp only [Oper.upon] at h ⊢

def wpOpC (P : Program) (ops : Array Oper) (C : World → Prop) (i : Nat) (K : Act → World → Prop) (a : Act) (w : World) : Prop :=
  match ops[i]? with
  | none => K a w
  | some o => if Region.wanted o (yielded ops a.tmps) then o.wp P a w (fun a' w' => C w' ∧ K a' w') (fun _ _ _ => False) else K (a.put o.dst undef) w

def wpAnyC (P : Program) (md : Region.Mode) (ops : Array Oper) (C : World → Prop) (Q : Act → World → Prop) : Nat → Array Bool → Act → World → Prop
  | 0, listed, a, w => Region.ready md ops listed = [] ∧ Q a w
  | fuel + 1, listed, a, w => (Region.ready md ops listed = [] → Q a w) ∧ ∀ i ∈ Region.ready md ops listed, wpOpC P ops C i (wpAnyC P md ops C Q fuel (listed.setIfInBounds i true)) a w

theorem wpOpC_mono {C C' : World → Prop} {i : Nat} {K K' : Act → World → Prop} {a : Act} {w : World} (hC : ∀ w, C w → C' w) (hK : ∀ a w, K a w → K' a w) (h : wpOpC P ops C i K a w) : wpOpC P ops C' i K' a w := by
  unfold wpOpC at *
  split
  · rename_i ho; simp only [ho] at h; exact hK _ _ h
  · rename_i o ho
    simp only [ho] at h
    split
    · rename_i hw; rw [if_pos hw] at h; exact upon_mono (fun a w ⟨h1, h2⟩ => ⟨hC _ h1, hK _ _ h2⟩) (fun _ _ _ h => h) h
    · rename_i hw; rw [if_neg hw] at h; exact hK _ _ h

theorem wpAnyC_mono {C C' : World → Prop} {Q : Act → World → Prop} (hC : ∀ w, C w → C' w) : ∀ (fuel : Nat) (listed : Array Bool) (a : Act) (w : World), wpAnyC P md ops C Q fuel listed a w → wpAnyC P md ops C' Q fuel listed a w
  | 0, _, _, _, h => h
  | fuel + 1, _, _, _, h => ⟨h.1, fun i hi => wpOpC_mono hC (fun a w h => wpAnyC_mono hC fuel _ a w h) (h.2 i hi)⟩

theorem wpAny_of_C {C : World → Prop} {Q : Act → World → Prop} {Q' : Exit → Act → World → Prop} (hQ : ∀ a w, Q a w → Q' .normal a w) : ∀ (fuel : Nat) (listed : Array Bool) (a : Act) (w : World), wpAnyC P md ops C Q fuel listed a w → wpAny P md ops Q' fuel listed a w
  | 0, _, _, _, h => ⟨h.1, hQ _ _ h.2⟩
  | fuel + 1, _, a, w, h => ⟨fun h0 => hQ _ _ (h.1 h0), fun i hi => by
      have h1 := h.2 i hi
      unfold wpOpC at h1
      unfold wpOp
      split
      · rename_i ho; simp only [ho] at h1; exact wpAny_of_C hQ fuel _ _ _ h1
      · rename_i o ho
        simp only [ho] at h1
        split
        · rename_i hw
          rw [if_pos hw] at h1
          exact .inl (upon_mono (fun a w ⟨_, h2⟩ => wpAny_of_C hQ fuel _ a w h2) (fun _ _ _ h => h.elim) h1)
        · rename_i hw; rw [if_neg hw] at h1; exact wpAny_of_C hQ fuel _ _ _ h1⟩

/-- In state a, in every world of the class, operation o leaves v in its slot, and the world as it is. -/
def Yld (P : Program) (ops : Array Oper) (C : World → Prop) (o : Oper) (v : Value) (a : Act) : Prop :=
  (Region.wanted o (yielded ops a.tmps) = true ∧ ∀ w, C w → (execOp a.eval o).run P w = .ok (.value v) w) ∨ (Region.wanted o (yielded ops a.tmps) = false ∧ v = undef)

theorem Yld.op {C : World → Prop} {i : Nat} {o : Oper} {v : Value} {a : Act} {w : World} (hi : ops[i]? = some o) (hy : Yld P ops C o v a) (hw : C w) {K : Act → World → Prop} (h : K (a.put o.dst v) w) : wpOpC P ops C i K a w := by
  unfold wpOpC
  simp only [hi]
  rcases hy with ⟨h1, h2⟩ | ⟨h1, rfl⟩
  · rw [if_pos h1]
    show o.upon P a _ _ ((execOp a.eval o).run P w)
    rw [h2 w hw]
    exact ⟨hw, h⟩
  · rw [if_neg (by simp [h1])]; exact h

theorem wpAnyC_first {C : World → Prop} {Q : Act → World → Prop} {i : Nat} {oi : Oper} {v : Value} (hi : ops[i]? = some oi) (hsel : ∀ (j : Nat) (o : Oper) cs b, ops[j]? = some o → o.op ≠ .select cs b) :
    ∀ (fuel : Nat) (listed : Array Bool) (a : Act) (w : World), C w →
      (∀ j oj, ops[j]? = some oj → j ≠ i → listed.getD j true = false → (∀ e ∈ oj.after, Region.binds md e = true → e.on ≠ i) → oi.apart ops oj = true) →
      i ∈ Region.ready md ops listed → Yld P ops C oi v a →
      wpAnyC P md ops C Q fuel (listed.setIfInBounds i true) (a.put oi.dst v) w → wpAnyC P md ops C Q (fuel + 1) listed a w := by
  intro fuel
  induction fuel with
  | zero =>
    intro listed a w hw _ hr hy H
    refine ⟨fun h => (by rw [h] at hr; cases hr), fun j hj => ?_⟩
    by_cases hji : j = i
    · subst hji; exact hy.op hi hw H
    · have := ready_mono hj hji
      rw [H.1] at this
      cases this
  | succ fuel ih =>
    intro listed a w hw hfree hr hy H
    refine ⟨fun h => (by rw [h] at hr; cases hr), fun j hj => ?_⟩
    by_cases hji : j = i
    · subst hji; exact hy.op hi hw H
    · have h1 := H.2 j (ready_mono hj hji)
      obtain ⟨hjun, oj, hoj, hall⟩ := mem_ready.1 hj
      have hnot : ∀ e ∈ oj.after, Region.binds md e = true → e.on ≠ i := fun e he hb heq => by
        have h1 := hall e he hb
        have h0 := (mem_ready.1 hr).1
        rw [heq] at h1
        rcases Nat.lt_or_ge i listed.size with h' | h'
        · simp [h'] at h0 h1; rw [h0] at h1; cases h1
        · simp [Array.getElem?_eq_none h'] at h1
      have hap := hfree j oj hoj hji hjun hnot
      obtain ⟨a1, a2, a3⟩ := Oper.apart_spec hap
      have hfree' : ∀ k ok, ops[k]? = some ok → k ≠ i → (listed.setIfInBounds j true).getD k true = false →
          (∀ e ∈ ok.after, Region.binds md e = true → e.on ≠ i) → oi.apart ops ok = true := fun k ok hk hki hun hno => by
        refine hfree k ok hk hki ?_ hno
        by_cases hjk : j = k
        · subst hjk; exact hjun
        · rw [getD_set_ne true hjk] at hun; exact hun
      have keep : ∀ (a' : Act) u, Yld P ops C oi v a' → Yld P ops C oi v (a'.put oj.dst u) := fun a' u hy' => by
        unfold Yld at *
        rw [wanted_put oi a' oj.dst u a3, execOp_put oi (fun cs b => hsel i oi cs b hi) a' oj.dst u a3]
        exact hy'
      have step : ∀ a' w', Yld P ops C oi v a' → C w' → wpAnyC P md ops C Q fuel ((listed.setIfInBounds i true).setIfInBounds j true) (a'.put oi.dst v) w' → wpAnyC P md ops C Q (fuel + 1) (listed.setIfInBounds j true) a' w' := fun a' w' hy' hw' h' => by
        refine ih (listed.setIfInBounds j true) a' w' hw' hfree' (ready_mono hr (Ne.symm hji)) hy' ?_
        rw [Array.setIfInBounds_comm _ _ hji]
        exact h'
      unfold wpOpC at h1 ⊢
      simp only [hoj] at h1 ⊢
      rw [wanted_put oj a oi.dst v a1] at h1
      split
      · rename_i hw1
        rw [if_pos hw1] at h1
        unfold Oper.wp at h1 ⊢
        rw [execOp_put oj (fun cs b => hsel j oj cs b hoj) a oi.dst v a1] at h1
        have h2 := upon_put (fun d' hd => a2 d' hd) h1
        -- the state behind oj is a with its slot laid: oi still yields v there
        have h3 : oj.upon P a (fun a' w' => Yld P ops C oi v a' ∧ C w' ∧ wpAnyC P md ops C Q fuel ((listed.setIfInBounds i true).setIfInBounds j true) (a'.put oi.dst v) w') (fun _ _ _ => False) ((execOp a.eval oj).run P w) := by
          generalize (execOp a.eval oj).run P w = r at h2 ⊢
          cases r with
          | ok n w1 =>
            cases n <;> simp only [Oper.upon] at h2 ⊢
            case value u => exact ⟨keep a u hy, h2⟩
            case skip => exact ⟨keep a _ hy, h2⟩
            case enter f args =>
              refine h2.mono fun e w' he => ?_
              cases e with
              | returned u => exact ⟨keep a u hy, he⟩
              | panicked c => exact he
              | outgrown => exact he
            case defer dd => exact ⟨keep { a with defers := dd :: a.defers } undef (by unfold Yld at *; exact hy), h2⟩
            case row r as => exact h2.mono fun u w' hu => ⟨keep a u hy, hu⟩
          | halt x w1 => cases x <;> simp only [Oper.upon] at h2 ⊢
        exact upon_mono (fun a' w' ⟨k1, k2, k3⟩ => ⟨k2, step a' w' k1 k2 k3⟩) (fun _ _ _ h => h) h3
      · rename_i hw1
        rw [if_neg hw1] at h1
        rw [Act.put_comm a v undef a2] at h1
        exact step _ _ (keep a undef hy) hw h1

/-- The order in which the operations are walked: those that do not turn the world are taken as soon as they may; those that do only where nothing else may come, or where one of two may. -/
inductive Ord where
  | nil
  | v (i : Nat) (r : Ord)
  | t (i : Nat) (r : Ord)
  | two (i : Nat) (r : Ord) (j : Nat) (s : Ord)
def Ord.len : Ord → Nat
  | .nil => 0
  | .v _ r => r.len + 1
  | .t _ r => r.len + 1
  | .two _ r _ _ => r.len + 1
def Ord.drop : Nat → Ord → Ord
  | 0, o => o
  | _, .nil => .nil
  | n + 1, .v _ r => r.drop n
  | n + 1, .t _ r => r.drop n
  | n + 1, .two _ r _ _ => r.drop n
def orderB (ops : Array Oper) : Ord → Array Bool → Bool
  | .nil, listed => (Region.ready .any ops listed).isEmpty
  | .v i r, listed => (Region.ready .any ops listed).contains i && Region.free .any ops listed i && orderB ops r (listed.setIfInBounds i true)
  | .t i r, listed => (Region.ready .any ops listed == [i]) && orderB ops r (listed.setIfInBounds i true)
  | .two i r j s, listed => (Region.ready .any ops listed == [i, j]) && (r.len == s.len) && orderB ops r (listed.setIfInBounds i true) && orderB ops s (listed.setIfInBounds j true)

def RunC (P : Program) (ops : Array Oper) (Q : Act → World → Prop) : Ord → (World → Prop) → Act → World → Prop
  | .nil, _, a, w => Q a w
  | .v i r, C, a, w => ∃ C' : World → Prop, (∀ w, C' w → C w) ∧ C' w ∧ ∃ o v, ops[i]? = some o ∧ Yld P ops C' o v a ∧ RunC P ops Q r C' (a.put o.dst v) w
  | .t i r, C, a, w => wpOpC P ops C i (fun a' w' => ∃ C' : World → Prop, (∀ w, C' w → C w) ∧ RunC P ops Q r C' a' w') a w
  | .two i r j s, C, a, w => wpOpC P ops C i (fun a' w' => ∃ C' : World → Prop, (∀ w, C' w → C w) ∧ RunC P ops Q r C' a' w') a w ∧ wpOpC P ops C j (fun a' w' => ∃ C' : World → Prop, (∀ w, C' w → C w) ∧ RunC P ops Q s C' a' w') a w

theorem run_sound {Q : Act → World → Prop} (hsel : Region.noSelect ops = true) : ∀ (π : Ord) (listed : Array Bool) (C : World → Prop) (a : Act) (w : World), orderB ops π listed = true → RunC P ops Q π C a w → wpAnyC P .any ops C Q π.len listed a w
  | .nil, listed, C, a, w, hB, h => ⟨by simpa [orderB] using hB, h⟩
  | .v i r, listed, C, a, w, hB, ⟨C', hC, hw, o, v, ho, hy, h⟩ => by
    simp only [orderB, Bool.and_eq_true, List.contains_iff_mem] at hB
    obtain ⟨⟨hr, hf⟩, hB'⟩ := hB
    exact wpAnyC_mono hC _ _ _ _ (wpAnyC_first ho (Region.noSelect_spec hsel) r.len listed a w hw (Region.free_spec ho hf) hr hy (run_sound hsel r _ C' _ _ hB' h))
  | .t i r, listed, C, a, w, hB, h => by
    simp only [orderB, Bool.and_eq_true, beq_iff_eq] at hB
    obtain ⟨hr, hB'⟩ := hB
    refine ⟨fun h0 => (by rw [hr] at h0; cases h0), fun j hj => ?_⟩
    rw [hr] at hj
    have e : j = i := by simpa using hj
    subst e
    exact wpOpC_mono (fun _ h => h) (fun a' w' ⟨C', hC, h'⟩ => wpAnyC_mono hC _ _ _ _ (run_sound hsel r _ C' a' w' hB' h')) h
  | .two i r k s, listed, C, a, w, hB, h => by
    simp only [orderB, Bool.and_eq_true, beq_iff_eq] at hB
    obtain ⟨⟨⟨hr, hl⟩, hB1⟩, hB2⟩ := hB
    refine ⟨fun h0 => (by rw [hr] at h0; cases h0), fun j hj => ?_⟩
    rw [hr] at hj
    rcases List.mem_cons.1 hj with e | hj
    · subst e
      exact wpOpC_mono (fun _ h => h) (fun a' w' ⟨C', hC, h'⟩ => wpAnyC_mono hC _ _ _ _ (run_sound hsel r _ C' a' w' hB1 h')) h.1
    · have e : j = k := by simpa using hj
      subst e
      exact wpOpC_mono (fun _ h => h) (fun a' w' ⟨C', hC, h'⟩ => wpAnyC_mono hC _ _ _ _ (hl ▸ run_sound hsel s _ C' a' w' hB2 h')) h.2
end orders

section rules
variable {c : Ctx} {ops : Array Oper} {σ : St} {Q : Exit → Act → World → Prop}

def Rd (c : Ctx) (ops : Array Oper) (π : Ord) (σ : St) (Q : Exit → Act → World → Prop) : Prop :=
  ∀ S a w, Models c σ S a w → RunC c.P ops (fun a w => Q .normal a w) π (cls c S) a w

theorem rd_nil (h : Fin c σ Q) : Rd c ops .nil σ Q := fun S a w m => h S a w m

theorem w_regionD {id : Nat} (π : Ord) (hm : c.P.follows .mixedOrders = true) (hs : (Region.noSelect ops && (π.len == ops.size) && orderB ops π (Array.replicate ops.size false)) = true) (h : Rd c ops π σ Q) : Wp c (.region id ops true) σ Q := fun S a w m => by
  simp only [Bool.and_eq_true, beq_iff_eq] at hs
  obtain ⟨⟨h1, h2⟩, h3⟩ := hs
  have m' : Models c σ S a { w with drawn := w.drawn + 1 } := ⟨m.size, m.dfr, m.sub, ⟨m.keep.os, m.keep.tape, m.keep.output, m.keep.size, m.keep.block⟩, m.grow, m.env, ⟨m.owns.sat, m.owns.nodup, m.owns.own⟩, m.pins⟩
  refine wp_region_any hm ?_
  have := run_sound h1 π _ _ _ _ h3 (h S a _ m')
  rw [h2] at this
  exact wpAny_of_C (Q := fun a w => Q .normal a w) (fun _ _ h => h) _ _ _ _ this

theorem rd_v {Γ : Slots} {H : List Ent} {i d : Nat} {op : Op} {ty : TypeId} {pos : String} {af : Array Edge} {π : Ord} {R : VP} (ho : ops[i]? = some ⟨some d, op, ty, pos, af, none⟩) (h : OpV c ⟨some d, op, ty, pos, af, none⟩ ⟨Γ, H⟩ R) (k : Rd c ops π ⟨(d, R) :: Γ, H⟩ Q) (hd : Nat.blt d c.n = true := by rfl) : Rd c ops (.v i π) ⟨Γ, H⟩ Q := fun S a w m => by
  obtain ⟨v, hv, hr⟩ := h S a w m
  exact ⟨cls c S, fun _ h => h, m.cls, _, v, ho, .inl ⟨rfl, hr⟩, k S _ w (m.put hd hv)⟩

theorem rd_vt {Γ : Slots} {H : List Ent} {i d j dj : Nat} {want b : Bool} {op : Op} {ty : TypeId} {pos : String} {af : Array Edge} {π : Ord} {R : VP} (ho : ops[i]? = some ⟨some d, op, ty, pos, af, some (j, want)⟩) (hj : (ops[j]?).bind (·.dst) = some dj) (hl : look Γ dj = some (isv b)) (hb : b = want)
    (h : OpV c ⟨some d, op, ty, pos, af, some (j, want)⟩ ⟨Γ, H⟩ R) (k : Rd c ops π ⟨(d, R) :: Γ, H⟩ Q) (hd : Nat.blt d c.n = true := by rfl) : Rd c ops (.v i π) ⟨Γ, H⟩ Q := fun S a w m => by
  obtain ⟨v, hv, hr⟩ := h S a w m
  exact ⟨cls c S, fun _ h => h, m.cls, _, v, ho, .inl ⟨by unfold Region.wanted; simp only; rw [yielded_of m hj hl, hb]; simp, hr⟩, k S _ w (m.put hd hv)⟩

theorem rd_passV {Γ : Slots} {H : List Ent} {i d j dj : Nat} {want b : Bool} {op : Op} {ty : TypeId} {pos : String} {af : Array Edge} {π : Ord} (ho : ops[i]? = some ⟨some d, op, ty, pos, af, some (j, want)⟩) (hj : (ops[j]?).bind (·.dst) = some dj) (hl : look Γ dj = some (isv b)) (hb : b = !want)
    (k : Rd c ops π ⟨(d, undv) :: Γ, H⟩ Q) (hd : Nat.blt d c.n = true := by rfl) : Rd c ops (.v i π) ⟨Γ, H⟩ Q := fun S a w m => by
  have hw : Region.wanted (⟨some d, op, ty, pos, af, some (j, want)⟩ : Oper) (yielded ops a.tmps) = false := by
    unfold Region.wanted; simp only; rw [yielded_of m hj hl, hb]; cases want <;> simp
  have hk := k S _ w (m.put (v := undef) hd rfl)
  exact ⟨cls c S, fun _ h => h, m.cls, _, undef, ho, .inr ⟨hw, rfl⟩, hk⟩

theorem rd_passT {Γ : Slots} {H : List Ent} {i d j dj : Nat} {want b : Bool} {op : Op} {ty : TypeId} {pos : String} {af : Array Edge} {π : Ord} (ho : ops[i]? = some ⟨some d, op, ty, pos, af, some (j, want)⟩) (hj : (ops[j]?).bind (·.dst) = some dj) (hl : look Γ dj = some (isv b)) (hb : b = !want)
    (k : Rd c ops π ⟨(d, undv) :: Γ, H⟩ Q) (hd : Nat.blt d c.n = true := by rfl) : Rd c ops (.t i π) ⟨Γ, H⟩ Q := fun S a w m => by
  have hw : Region.wanted (⟨some d, op, ty, pos, af, some (j, want)⟩ : Oper) (yielded ops a.tmps) = false := by
    unfold Region.wanted; simp only; rw [yielded_of m hj hl, hb]; cases want <;> simp
  have hk := k S _ w (m.put (v := undef) hd rfl)
  show wpOpC c.P ops _ i _ a w
  unfold wpOpC
  simp only [ho]
  rw [if_neg (by simp [hw])]
  exact ⟨cls c S, fun _ h => h, hk⟩

theorem rd_passUV {Γ : Slots} {H : List Ent} {i d j dj : Nat} {want : Bool} {op : Op} {ty : TypeId} {pos : String} {af : Array Edge} {π : Ord} (ho : ops[i]? = some ⟨some d, op, ty, pos, af, some (j, want)⟩) (hj : (ops[j]?).bind (·.dst) = some dj) (hl : look Γ dj = some undv)
    (k : Rd c ops π ⟨(d, undv) :: Γ, H⟩ Q) (hd : Nat.blt d c.n = true := by rfl) : Rd c ops (.v i π) ⟨Γ, H⟩ Q := fun S a w m => by
  have hw : Region.wanted (⟨some d, op, ty, pos, af, some (j, want)⟩ : Oper) (yielded ops a.tmps) = false := by
    unfold Region.wanted; simp only; rw [yielded_undef m hj hl]; simp
  have hk := k S _ w (m.put (v := undef) hd rfl)
  exact ⟨cls c S, fun _ h => h, m.cls, _, undef, ho, .inr ⟨hw, rfl⟩, hk⟩

theorem rd_passUT {Γ : Slots} {H : List Ent} {i d j dj : Nat} {want : Bool} {op : Op} {ty : TypeId} {pos : String} {af : Array Edge} {π : Ord} (ho : ops[i]? = some ⟨some d, op, ty, pos, af, some (j, want)⟩) (hj : (ops[j]?).bind (·.dst) = some dj) (hl : look Γ dj = some undv)
    (k : Rd c ops π ⟨(d, undv) :: Γ, H⟩ Q) (hd : Nat.blt d c.n = true := by rfl) : Rd c ops (.t i π) ⟨Γ, H⟩ Q := fun S a w m => by
  have hw : Region.wanted (⟨some d, op, ty, pos, af, some (j, want)⟩ : Oper) (yielded ops a.tmps) = false := by
    unfold Region.wanted; simp only; rw [yielded_undef m hj hl]; simp
  have hk := k S _ w (m.put (v := undef) hd rfl)
  show wpOpC c.P ops _ i _ a w
  unfold wpOpC
  simp only [ho]
  rw [if_neg (by simp [hw])]
  exact ⟨cls c S, fun _ h => h, hk⟩

theorem cls_le {S S' : Frz} {w : World} (h : S.le S') (k : cls c S' w) : cls c S w := ⟨fun b cs hb => by
  obtain ⟨cs', h1, h2⟩ := h b cs hb
  obtain ⟨x, T, fr, h3, h4⟩ := k.1 b cs' h1
  exact ⟨x, T, fr, h3, h2.trans h4⟩, k.2⟩

theorem rd_t {i : Nat} {o : Oper} {π : Ord} (ho : ops[i]? = some o) (hg : o.guard = none) (h : OpT c o σ fun σ' => Rd c ops π σ' Q) : Rd c ops (.t i π) σ Q := fun S a w m => by
  show wpOpC c.P ops _ i _ a w
  unfold wpOpC
  simp only [ho]
  rw [if_pos (by unfold Region.wanted; rw [hg])]
  exact h S a w _ _ m fun σ' S' a' w' hle hr m' => ⟨cls_le hle m'.cls, cls c S', fun _ k => cls_le hle k, hr S' a' w' m'⟩

theorem rd_tt {i j dj : Nat} {want b : Bool} {o : Oper} {π : Ord} (ho : ops[i]? = some o) (hg : o.guard = some (j, want)) (hj : (ops[j]?).bind (·.dst) = some dj) (hl : look σ.Γ dj = some (isv b)) (hb : b = want) (h : OpT c o σ fun σ' => Rd c ops π σ' Q) : Rd c ops (.t i π) σ Q := fun S a w m => by
  show wpOpC c.P ops _ i _ a w
  unfold wpOpC
  simp only [ho]
  rw [if_pos (by unfold Region.wanted; rw [hg]; simp only; rw [yielded_of m hj hl, hb]; simp)]
  exact h S a w _ _ m fun σ' S' a' w' hle hr m' => ⟨cls_le hle m'.cls, cls c S', fun _ k => cls_le hle k, hr S' a' w' m'⟩

theorem rd_two {Γ : Slots} {H : List Ent} {i j : Nat} {π ρ : Ord} (h1 : Rd c ops (.t i π) ⟨Γ, H⟩ Q) (h2 : Rd c ops (.t j ρ) ⟨Γ, H⟩ Q) : Rd c ops (.two i π j ρ) ⟨Γ, H⟩ Q := fun S a w m => ⟨h1 S a w m, h2 S a w m⟩
theorem rd_split {π : Ord} {j : Nat} {b : Bool} (ht : b = true → Rd c ops π σ Q) (hf : b = false → Rd c ops π σ Q) (_hl : look σ.Γ j = some (isv b)) : Rd c ops π σ Q := by
  cases b with
  | true => exact ht rfl
  | false => exact hf rfl
theorem rl_split {l : List Oper} {j : Nat} {b : Bool} (_hl : look σ.Γ j = some (isv b)) (ht : b = true → Rl c ops l σ Q) (hf : b = false → Rl c ops l σ Q) : Rl c ops l σ Q := by
  cases b with
  | true => exact ht rfl
  | false => exact hf rfl
theorem rd_imp {Γ : Slots} {H : List Ent} {π : Ord} {Γ' : Slots} (h : Slots.imp Γ Γ') (k : Rd c ops π ⟨Γ', H⟩ Q) : Rd c ops π ⟨Γ, H⟩ Q := fun S a w m => k S a w (m.imp h)
theorem rd_know {π : Ord} {i : Nat} {R : VP} {p : Prop} (h : look σ.Γ i = some R) (hp : ∀ S v, R.p S v → p) (k : p → Rd c ops π σ Q) : Rd c ops π σ Q := fun S a w m => by
  obtain ⟨v, _, hr⟩ := m.env i R h
  exact k (hp _ _ hr) S a w m

/-! ### A variable that is never written again -/
theorem t_boxI {Γ : Slots} {H : List Ent} {α : Type} [Rep α] {ty : TypeId} {pos : String} {af : Array Edge} {g : Option (Nat × Bool)} {y : α} {x : Operand} {T : TypeId} {dd : Nat} {K : St → Prop} (hx : opnd Γ x = some (isv y))
    (k : K ⟨(dd, immv y) :: Γ, H⟩) (hd : Nat.blt dd c.n = true := by rfl) :
    OpT c ⟨some dd, .box T x, ty, pos, af, g⟩ ⟨Γ, H⟩ K := by
  intro S a w next Q m hn
  have h1 := opnd_sound m hx
  unfold Oper.wp
  have : (execOp a.eval ⟨some dd, .box T x, ty, pos, af, g⟩).run c.P w = .ok (.value (.pointer (some ⟨w.heap.size, 0, none⟩))) { w with heap := w.heap.push (.cells (a.eval x).cells T (0, 0)) } := by
    simp [execOp, Instr.box, newVar, newRow, newObj, Sem.run]
  rw [this]
  have hst := step_push_put (w := w) m.sub (a.eval x).cells T (0, 0) (a.eval x).cells.toList (List.prefix_refl _)
  have m1 := m.step (Hc := []) (H' := []) .nil hst (owns_nil _ _ _ _)
  exact hn _ _ _ _ hst.grow.le k (m1.put hd ⟨_, _, rfl, ⟨rfl, (a.eval x).cells.toList, if_pos rfl, fun i v hi => by simpa using hi⟩, Rep.mono hst.grow.le h1.2⟩)

/-! ### Pins -/
/-- A pointer into a pinned variable that holds x. -/
def pinv {α β : Type} [Rep α] [Rep β] (o : Obj) (b : Nat) (L : Fld α β) (x : α) : VP where
  p := fun S v => v = .pointer (some ⟨b, L.off, none⟩) ∧ ∃ cs T, o = .cells cs T (0, 0) ∧ Rep.rd S cs.toList x
  mono := fun h ⟨h1, cs, T, h2, h3⟩ => ⟨h1, cs, T, h2, Rep.mono h h3⟩

theorem w_pin {α β : Type} [Rep α] [Rep β] {P : Program} {n : Nat} {w0 : World} {S0 : Frz} {M : List Nat} {pin : List (Nat × Obj)} {code : Code} {Γ : Slots} {H Hr : List Ent} {i b : Nat} {L : Fld α β} {x : α} (hp : Pick (boxE b x) H Hr) (hi : look Γ i = some (ptrv b L))
    (k : ∀ o, Wp ⟨P, n, w0, S0, M, (b, o) :: pin⟩ code ⟨(i, pinv o b L x) :: Γ, Hr⟩ Q) : Wp ⟨P, n, w0, S0, M, pin⟩ code ⟨Γ, H⟩ Q := fun S a w m => by
  have hs : (boxE b x).sat S w := m.owns.get hp
  obtain ⟨o, ho, hnone, cs, T, e, hr⟩ := hs
  have hperm := hp.perm
  have hkp := keys_perm hperm
  have hkc : keys (boxE b x :: Hr) = b :: keys Hr := by simp [keys, boxE]
  rw [hkc] at hkp
  have hnd := hkp.nodup_iff.1 m.owns.nodup
  refine k o S a w ⟨m.size, m.dfr, m.sub, m.keep, m.grow, fun j R hj => ?_, ⟨fun e he => m.owns.sat e (hperm.mem_iff.2 (List.mem_cons_of_mem _ he)), (List.nodup_cons.1 hnd).2, fun b' hb' => m.owns.own b' (hkp.mem_iff.2 (List.mem_cons_of_mem _ hb'))⟩, fun y hy => ?_⟩
  · obtain ⟨v, hv, hvr⟩ := m.env i _ hi
    unfold look at hj
    cases hk : Nat.beq i j with
    | true =>
      rw [hk] at hj
      have e' : i = j := Nat.eq_of_beq_eq_true hk
      subst e'
      cases hj
      exact ⟨v, hv, hvr, cs, T, e, hr⟩
    | false => rw [hk] at hj; exact m.env j R hj
  · rcases List.mem_cons.1 hy with h | h
    · subst h
      exact ⟨ho, hnone, (List.nodup_cons.1 hnd).1, m.owns.own b (hkp.mem_iff.2 (List.mem_cons_self ..))⟩
    · obtain ⟨h1, h2, h3, h4⟩ := m.pins y h
      exact ⟨h1, h2, fun h5 => h3 (hkp.mem_iff.2 (List.mem_cons_of_mem _ h5)), h4⟩

theorem fin_unpin {α β : Type} [Rep α] [Rep β] {P : Program} {n : Nat} {w0 : World} {S0 : Frz} {M : List Nat} {pin : List (Nat × Obj)} {Γ : Slots} {H : List Ent} {i b : Nat} {L : Fld α β} {x : α} {o : Obj} (hnd : b ∉ pin.map (·.1)) (hi : look Γ i = some (pinv o b L x))
    (k : Fin ⟨P, n, w0, S0, M, pin⟩ ⟨(i, ptrv b L) :: Γ, boxE b x :: H⟩ Q) : Fin ⟨P, n, w0, S0, M, (b, o) :: pin⟩ ⟨Γ, H⟩ Q := fun S a w m => by
  obtain ⟨h1, h2, h3, h4⟩ := m.pins _ (List.mem_cons_self ..)
  obtain ⟨v, hv, hv1, cs, T, e, hr⟩ := m.env i _ hi
  have hkc : keys (boxE b x :: H) = b :: keys H := by simp [keys, boxE]
  refine k S a w ⟨m.size, m.dfr, m.sub, m.keep, m.grow, fun j R hj => ?_, ⟨fun e' he => ?_, by rw [hkc]; exact List.nodup_cons.2 ⟨h3, m.owns.nodup⟩, fun b' hb' => ?_⟩, fun y hy => ?_⟩
  · unfold look at hj
    cases hk : Nat.beq i j with
    | true =>
      rw [hk] at hj
      have e' : i = j := Nat.eq_of_beq_eq_true hk
      subst e'
      cases hj
      exact ⟨v, hv, hv1⟩
    | false => rw [hk] at hj; exact m.env j R hj
  · rcases List.mem_cons.1 he with h | h
    · subst h; exact ⟨o, h1, h2, cs, T, e, hr⟩
    · exact m.owns.sat e' h
  · rw [hkc] at hb'
    rcases List.mem_cons.1 hb' with h | h
    · subst h; exact h4
    · exact m.owns.own b' h
  · obtain ⟨k1, k2, k3, k4⟩ := m.pins y (List.mem_cons_of_mem _ hy)
    refine ⟨k1, k2, fun h => ?_, k4⟩
    rw [hkc] at h
    rcases List.mem_cons.1 h with h | h
    · exact hnd (List.mem_map.2 ⟨y, hy, h⟩)
    · exact k3 h

theorem v_loadP {α β : Type} [Rep α] [Rep β] {d : Option Nat} {ty : TypeId} {pos : String} {af : Array Edge} {g : Option (Nat × Bool)} {b : Nat} {L : Fld α β} {y : α} {x : Operand} {T : TypeId} {o : Obj} (ht : TyB c.P T (Rep.n β) (Rep.agg β) = true) (hx : opnd σ.Γ x = some (pinv o b L y))
    (hp : (b, o) ∈ c.pin) : OpV c ⟨d, .load T x, ty, pos, af, g⟩ σ (isv (L.get y)) := fun S a w m => by
  obtain ⟨h1, cs, T', e, hr⟩ := opnd_sound m hx
  subst e
  obtain ⟨v, hv, hrun⟩ := run_loadVar (ad := ⟨b, L.off, none⟩) ht (L.rget hr)
  refine ⟨v, hv, fun w' hw' => ?_⟩
  simp only [execOp, h1, Instr.loadAt, Instr.sureAddr]
  have h2 := hrun w' fun i u hi => by
    rw [add_none]
    unfold World.cell?
    rw [hw'.2 _ hp]
    simp only
    rw [List.getElem?_take] at hi
    split at hi
    · rw [List.getElem?_drop] at hi
      simpa using hi
    · cases hi
  simp [h2]
theorem v_fieldAddrP {α β γ : Type} [Rep α] [Rep β] [Rep γ] {d : Option Nat} {ty : TypeId} {pos : String} {af : Array Edge} {g : Option (Nat × Bool)} {b : Nat} {L : Fld α β} {y : α} {x : Operand} {T f : Nat} {o : Obj} (M : Fld β γ) (hf : FldB c.P T f M.off (Rep.n γ) (Rep.agg γ) = true)
    (hx : opnd σ.Γ x = some (pinv o b L y)) : OpV c ⟨d, .fieldAddr T x f, ty, pos, af, g⟩ σ (pinv o b (L.comp M) y) := fun S a w m => by
  obtain ⟨h1, h2⟩ := opnd_sound m hx
  exact ⟨.pointer (some ⟨b, L.off + M.off, none⟩), ⟨rfl, h2⟩, fun w' _ => by simp [execOp, h1, run_fieldAt hf, add_none]⟩
theorem v_nilCheckP {α β : Type} [Rep α] [Rep β] {d : Option Nat} {ty : TypeId} {pos : String} {af : Array Edge} {g : Option (Nat × Bool)} {b : Nat} {L : Fld α β} {y : α} {x : Operand} {o : Obj} (hx : opnd σ.Γ x = some (pinv o b L y)) : OpV c ⟨d, .nilCheck x, ty, pos, af, g⟩ σ (pinv o b L y) := fun S a w m => by
  obtain ⟨h1, h2⟩ := opnd_sound m hx
  exact ⟨_, ⟨rfl, h2⟩, fun w' _ => by simp [execOp, h1]⟩
end rules

end Go.Sy
