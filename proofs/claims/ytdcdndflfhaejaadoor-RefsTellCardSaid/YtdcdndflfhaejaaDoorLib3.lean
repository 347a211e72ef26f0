/- The rules of the operations that only compute. No condition: general lemmas. -/
import Derived.Test.YtdcdndflfhaejaaDoorLib2
namespace Go.Sy

theorem Models.put {c : Ctx} {σ : St} {S : Frz} {a : Act} {w : World} (m : Models c σ S a w) {d : Nat} (hd : Nat.blt d c.n = true) {R : VP} {v : Value} (hv : R.p S v) :
    Models c ⟨(d, R) :: σ.Γ, σ.H⟩ S (a.put (some d) v) w := by
  have hd' : d < a.tmps.size := by rw [m.size]; exact (by simpa using hd)
  refine ⟨by simp [Act.put, m.size], m.dfr, m.sub, m.keep, m.grow, fun i R' hi => ?_, m.owns, m.pins⟩
  unfold look at hi
  cases hk : Nat.beq d i with
  | true =>
    rw [hk] at hi
    have e : d = i := Nat.eq_of_beq_eq_true hk
    subst e
    cases hi
    exact ⟨v, by simp [Act.put, hd'], hv⟩
  | false =>
    rw [hk] at hi
    have e : d ≠ i := Nat.ne_of_beq_eq_false hk
    obtain ⟨u, hu, hr⟩ := m.env i R' hi
    exact ⟨u, by simp only [Act.put]; rw [Array.getElem?_setIfInBounds_ne e]; exact hu, hr⟩

theorem Models.none {c : Ctx} {σ : St} {S : Frz} {a : Act} {w : World} (m : Models c σ S a w) (v : Value) : Models c σ S (a.put Option.none v) w := m

/-- Nothing is said of it. -/
def anyv : VP where
  p := fun _ _ => True
  mono := fun _ h => h
/-- Nothing was laid there. -/
def undv : VP where
  p := fun _ v => v = undef
  mono := fun _ h => h
/-- nil, as a list. -/
def nilv : VP where
  p := fun _ v => v = .slice Option.none 0 0
  mono := fun _ h => h
def VPs (S : Frz) : List VP → List Value → Prop
  | [], [] => True
  | R :: Rs, v :: vs => R.p S v ∧ VPs S Rs vs
  | _, _ => False

theorem VPs.mono {S S' : Frz} (h : S.le S') : ∀ {Rs : List VP} {vs : List Value}, VPs S Rs vs → VPs S' Rs vs
  | [], [], _ => trivial
  | R :: _, _ :: _, ⟨k1, k2⟩ => ⟨R.mono h k1, VPs.mono h k2⟩
theorem VPs.length {S : Frz} : ∀ {Rs : List VP} {vs : List Value}, VPs S Rs vs → vs.length = Rs.length
  | [], [], _ => rfl
  | _ :: _, _ :: _, ⟨_, k2⟩ => by simp [VPs.length k2]
theorem VPs.append {S : Frz} : ∀ {Rs Rs' : List VP} {vs vs' : List Value}, VPs S Rs vs → VPs S Rs' vs' → VPs S (Rs ++ Rs') (vs ++ vs')
  | [], _, [], _, _, k => k
  | _ :: _, _, _ :: _, _, ⟨k1, k2⟩, k => ⟨k1, VPs.append k2 k⟩
theorem VPs.get {S : Frz} : ∀ {Rs : List VP} {vs : List Value} {i : Nat} {R : VP}, VPs S Rs vs → Rs[i]? = some R → ∃ v, vs[i]? = some v ∧ R.p S v
  | [], [], _, _, _, h => by simp at h
  | _ :: _, v :: _, 0, _, ⟨k1, _⟩, h => by simp at h; subst h; exact ⟨v, rfl, k1⟩
  | _ :: _, _ :: _, i + 1, _, ⟨_, k2⟩, h => by
    obtain ⟨v, hv, hr⟩ := VPs.get (i := i) k2 (by simpa using h)
    exact ⟨v, by simpa using hv, hr⟩

/-- A function and what it has caught. -/
def clov (f : FuncId) (caps : List VP) : VP where
  p := fun S v => ∃ vs : List Value, v = .func (.func f) #[] vs.toArray ∧ VPs S caps vs
  mono := fun h ⟨vs, e, k⟩ => ⟨vs, e, k.mono h⟩

def bI64 : Int → Bool
  | .ofNat k => Nat.ble k 9223372036854775807
  | .negSucc k => Nat.ble k 9223372036854775807

theorem bI64_in {n : Int} (h : bI64 n = true) : inI64 n := by
  unfold inI64
  cases n with
  | ofNat k =>
    have : k ≤ 9223372036854775807 := Nat.le_of_ble_eq_true h
    simp only [Int.ofNat_eq_natCast]
    omega
  | negSucc k =>
    have : k ≤ 9223372036854775807 := Nat.le_of_ble_eq_true h
    omega

def opnd (Γ : Slots) : Operand → Option VP
  | .tmp t => look Γ t
  | .const (.int .i64 n) => bif bI64 n then some (isv n) else none
  | .const (.int .u8 (.ofNat n)) => bif Nat.blt n 256 then some (isv (UInt8.ofNat n)) else none
  | .const (.int .u64 (.ofNat n)) => bif Nat.ble n 18446744073709551615 then some (isv (UInt64.ofNat n)) else none
  | .const (.bool b) => some (isv b)
  | .const (.string s) => bif Nat.ble s.size 4294967296 then some (isv (Str.mk s.data.toList)) else none
  | .const (.slice Option.none 0 0) => some nilv
  | .func f => some (clov f [])
  | _ => none

theorem opnd_sound {c : Ctx} {σ : St} {S : Frz} {a : Act} {w : World} (m : Models c σ S a w) {x : Operand} {R : VP} (h : opnd σ.Γ x = some R) : R.p S (a.eval x) := by
  unfold opnd at h
  split at h
  · obtain ⟨v, hv, hr⟩ := m.env _ _ h
    show R.p S (a.tmps.getD _ undef)
    rw [Array.getD_eq_getD_getElem?, hv]
    exact hr
  · cases hb : bI64 _ with
    | false => rw [hb] at h; cases h
    | true => rw [hb] at h; cases h; exact isv_int.2 ⟨rfl, bI64_in hb⟩
  · rename_i n
    cases hb : Nat.blt n 256 with
    | false => rw [hb] at h; cases h
    | true =>
      rw [hb] at h; cases h
      have : n < 256 := (by simpa using hb)
      refine isv_u8.2 ?_
      show Value.int .u8 (Int.ofNat n) = _
      rw [UInt8.toNat_ofNat', Nat.mod_eq_of_lt this]; rfl
  · rename_i n
    cases hb : Nat.ble n 18446744073709551615 with
    | false => rw [hb] at h; cases h
    | true =>
      rw [hb] at h; cases h
      have : n ≤ 18446744073709551615 := Nat.le_of_ble_eq_true hb
      refine isv_u64.2 ?_
      show Value.int .u64 (Int.ofNat n) = _
      rw [UInt64.toNat_ofNat', Nat.mod_eq_of_lt (by omega)]; rfl
  · cases h; exact isv_bool.2 rfl
  · rename_i s
    cases hb : Nat.ble s.size 4294967296 with
    | false => rw [hb] at h; cases h
    | true =>
      rw [hb] at h; cases h
      have : s.size ≤ 4294967296 := Nat.le_of_ble_eq_true hb
      refine isv_str.2 ⟨by rw [Str.ba_of]; rfl, ?_⟩
      have h2 : s.data.toList.length = s.size := rfl
      show s.data.toList.length ≤ maxText
      unfold maxText; omega
  · cases h; exact rfl
  · cases h; exact ⟨[], rfl, trivial⟩
  · cases h

/-- An operation, and what is asked of the state behind it. -/
def OpT (c : Ctx) (o : Oper) (σ : St) (K : St → Prop) : Prop :=
  ∀ S a w next Q, Models c σ S a w → (∀ σ' S' a' w', S.le S' → K σ' → Models c σ' S' a' w' → next a' w') → o.wp c.P a w next Q

/-- The worlds in which what is laid for good, and what is pinned, lies. -/
def cls (c : Ctx) (S : Frz) (w : World) : Prop := S.sub w ∧ ∀ x ∈ c.pin, w.heap[x.1]? = some x.2
theorem Models.cls {c : Ctx} {σ : St} {S : Frz} {a : Act} {w : World} (m : Models c σ S a w) : cls c S w := ⟨m.sub, fun x hx => (m.pins x hx).1⟩

/-- An operation that yields a value, by what is known of its operands and of memory that no longer turns; the world stays. -/
def OpV (c : Ctx) (o : Oper) (σ : St) (R : VP) : Prop :=
  ∀ S a w, Models c σ S a w → ∃ v, R.p S v ∧ ∀ w', cls c S w' → (execOp a.eval o).run c.P w' = .ok (.value v) w'

theorem OpV.t {Γ : Slots} {H : List Ent} {c : Ctx} {d : Nat} {op : Op} {ty : TypeId} {pos : String} {af : Array Edge} {g : Option (Nat × Bool)}  {R : VP} {K : St → Prop}
    (h : OpV c ⟨some d, op, ty, pos, af, g⟩ ⟨Γ, H⟩ R) (k : K ⟨(d, R) :: Γ, H⟩) (hd : Nat.blt d c.n = true := by rfl) : OpT c ⟨some d, op, ty, pos, af, g⟩ ⟨Γ, H⟩ K := by
  intro S a w next Q m hn
  obtain ⟨v, hv, hr⟩ := h S a w m
  unfold Oper.wp
  rw [hr w m.cls]
  exact hn _ _ _ _ (Frz.le_refl _) k (m.put hd hv)

def Rl (c : Ctx) (ops : Array Oper) (l : List Oper) (σ : St) (Q : Exit → Act → World → Prop) : Prop :=
  ∀ k, ops.toList.drop k = l → ∀ S a w, Models c σ S a w → wpOps c.P ops Q (List.range' k l.length) a w

section regions
variable {c : Ctx} {ops : Array Oper} {σ : St} {Q : Exit → Act → World → Prop}

theorem w_region {id : Nat} (h : Rl c ops ops.toList σ Q) : Wp c (.region id ops false) σ Q := fun S a w m => by
  refine wp_region ?_
  have := h 0 rfl S a w m
  rwa [List.range_eq_range', ← Array.length_toList]

theorem rl_nil (h : Fin c σ Q) : Rl c ops [] σ Q := fun _ _ S a w m => h S a w m

theorem rl_at {k : Nat} {o : Oper} {rest : List Oper} (h : ops.toList.drop k = o :: rest) : ops[k]? = some o ∧ ops.toList.drop (k + 1) = rest := by
  have h1 : ops.toList[k]? = some o := by
    have := congrArg (·[0]?) h
    simpa [List.getElem?_drop] using this
  refine ⟨by simpa using h1, ?_⟩
  rw [← List.drop_drop, h]
  rfl

theorem op_cons {o : Oper} {rest : List Oper} (hg : o.guard = none) (h : OpT c o σ fun σ' => Rl c ops rest σ' Q) : Rl c ops (o :: rest) σ Q := by
  intro k hk S a w m
  obtain ⟨h1, h2⟩ := rl_at hk
  show wpOps c.P ops Q (k :: List.range' (k + 1) rest.length) a w
  unfold wpOps
  simp only [h1]
  rw [if_pos (by unfold Region.wanted; rw [hg])]
  exact .inl (h S a w _ _ m fun σ' S' a' w' _ hr m' => hr (k + 1) h2 S' a' w' m')

theorem yielded_of {S : Frz} {a : Act} {w : World} (m : Models c σ S a w) {j dj : Nat} {b : Bool} (hj : (ops[j]?).bind (·.dst) = some dj) (hl : look σ.Γ dj = some (isv b)) :
    yielded ops a.tmps j = some b := by
  obtain ⟨v, hv, hr⟩ := m.env _ _ hl
  have e := isv_bool.1 hr
  subst e
  unfold yielded
  rw [hj]
  simp [hv]

theorem op_take {o : Oper} {rest : List Oper} {j dj : Nat} {want b : Bool} (hg : o.guard = some (j, want)) (hj : (ops[j]?).bind (·.dst) = some dj) (hl : look σ.Γ dj = some (isv b)) (hb : b = want)
    (h : OpT c o σ fun σ' => Rl c ops rest σ' Q) : Rl c ops (o :: rest) σ Q := by
  intro k hk S a w m
  obtain ⟨h1, h2⟩ := rl_at hk
  show wpOps c.P ops Q (k :: List.range' (k + 1) rest.length) a w
  unfold wpOps
  simp only [h1]
  rw [if_pos (by unfold Region.wanted; rw [hg]; simp only; rw [yielded_of m hj hl, hb]; simp)]
  exact .inl (h S a w _ _ m fun σ' S' a' w' _ hr m' => hr (k + 1) h2 S' a' w' m')

theorem op_pass {Γ : Slots} {H : List Ent} {d : Nat} {op : Op} {ty : TypeId} {pos : String} {af : Array Edge} {rest : List Oper} {j dj : Nat} {want b : Bool} (hj : (ops[j]?).bind (·.dst) = some dj) (hl : look Γ dj = some (isv b)) (hb : b = !want)
    (h : Rl c ops rest ⟨(d, undv) :: Γ, H⟩ Q) (hd : Nat.blt d c.n = true := by rfl) : Rl c ops (⟨some d, op, ty, pos, af, some (j, want)⟩ :: rest) ⟨Γ, H⟩ Q := by
  intro k hk S a w m
  obtain ⟨h1, h2⟩ := rl_at hk
  show wpOps c.P ops Q (k :: List.range' (k + 1) rest.length) a w
  unfold wpOps
  simp only [h1]
  rw [if_neg (by unfold Region.wanted; simp only; rw [yielded_of m hj hl, hb]; cases want <;> simp)]
  exact h (k + 1) h2 S _ w (m.put hd rfl)

theorem yielded_undef {σ : St} {S : Frz} {a : Act} {w : World} (m : Models c σ S a w) {j dj : Nat} (hj : (ops[j]?).bind (·.dst) = some dj) (hl : look σ.Γ dj = some undv) : yielded ops a.tmps j = none := by
  obtain ⟨v, hv, hr⟩ := m.env _ _ hl
  have e : v = undef := hr
  subst e
  unfold yielded
  rw [hj]
  simp [hv, undef]

theorem op_passU {Γ : Slots} {H : List Ent} {d : Nat} {op : Op} {ty : TypeId} {pos : String} {af : Array Edge} {rest : List Oper} {j dj : Nat} {want : Bool} (hj : (ops[j]?).bind (·.dst) = some dj) (hl : look Γ dj = some undv)
    (h : Rl c ops rest ⟨(d, undv) :: Γ, H⟩ Q) (hd : Nat.blt d c.n = true := by rfl) : Rl c ops (⟨some d, op, ty, pos, af, some (j, want)⟩ :: rest) ⟨Γ, H⟩ Q := by
  intro k hk S a w m
  obtain ⟨h1, h2⟩ := rl_at hk
  show wpOps c.P ops Q (k :: List.range' (k + 1) rest.length) a w
  unfold wpOps
  simp only [h1]
  rw [if_neg (by unfold Region.wanted; simp only; rw [yielded_undef m hj hl]; simp)]
  exact h (k + 1) h2 S _ w (m.put hd rfl)

theorem op_pass0 {op : Op} {ty : TypeId} {pos : String} {af : Array Edge} {rest : List Oper} {j dj : Nat} {want b : Bool} (hj : (ops[j]?).bind (·.dst) = some dj) (hl : look σ.Γ dj = some (isv b)) (hb : b = !want)
    (h : Rl c ops rest σ Q) : Rl c ops (⟨none, op, ty, pos, af, some (j, want)⟩ :: rest) σ Q := by
  intro k hk S a w m
  obtain ⟨h1, h2⟩ := rl_at hk
  show wpOps c.P ops Q (k :: List.range' (k + 1) rest.length) a w
  unfold wpOps
  simp only [h1]
  rw [if_neg (by unfold Region.wanted; simp only; rw [yielded_of m hj hl, hb]; cases want <;> simp)]
  exact h (k + 1) h2 S _ w m

/-- A test: both ways. -/
theorem w_cond {x : Operand} {t e : Code} {b : Bool} (hx : opnd σ.Γ x = some (isv b)) (ht : b = true → Wp c t σ Q) (he : b = false → Wp c e σ Q) : Wp c (.cond x t e) σ Q := fun S a w m => by
  have hb := isv_bool.1 (opnd_sound m hx)
  exact wp_cond_split hb (fun h => ht h S a w m) (fun h => he h S a w m)

/-- What is known of a slot may be said otherwise. -/
def Slots.imp (Γ Γ' : Slots) : Prop := ∀ i R', look Γ' i = some R' → ∃ R, look Γ i = some R ∧ ∀ S v, R.p S v → R'.p S v

theorem slots_nil (Γ : Slots) : Slots.imp Γ [] := fun i R h => by cases h
theorem slots_cons {Γ Γ' : Slots} {i : Nat} {R R' : VP} (h : look Γ i = some R) (hr : ∀ S v, R.p S v → R'.p S v) (k : Slots.imp Γ Γ') : Slots.imp Γ ((i, R') :: Γ') := fun j R1 h1 => by
  unfold look at h1
  cases hk : Nat.beq i j with
  | true =>
    rw [hk] at h1
    have e : i = j := Nat.eq_of_beq_eq_true hk
    subst e
    cases h1
    exact ⟨R, h, hr⟩
  | false => rw [hk] at h1; exact k j R1 h1
theorem slots_same {Γ Γ' : Slots} {i : Nat} {R : VP} (h : look Γ i = some R) (k : Slots.imp Γ Γ') : Slots.imp Γ ((i, R) :: Γ') := slots_cons h (fun _ _ h => h) k
theorem slots_one {Γ : Slots} {i : Nat} {R R' : VP} (h : look Γ i = some R) (hr : ∀ S v, R.p S v → R'.p S v) : Slots.imp Γ ((i, R') :: Γ) :=
  slots_cons h hr fun _ R1 h1 => ⟨R1, h1, fun _ _ h => h⟩

theorem Models.imp {Γ : Slots} {S : Frz} {a : Act} {w : World} (m : Models c σ S a w) (h : Slots.imp σ.Γ Γ) : Models c ⟨Γ, σ.H⟩ S a w :=
  ⟨m.size, m.dfr, m.sub, m.keep, m.grow, fun i R hi => by
    obtain ⟨R0, h0, h1⟩ := h i R hi
    obtain ⟨v, hv, hr⟩ := m.env i R0 h0
    exact ⟨v, hv, h1 _ _ hr⟩, m.owns, m.pins⟩

theorem rl_imp {Γ : Slots} {H : List Ent} {l : List Oper} {Γ' : Slots} (h : Slots.imp Γ Γ') (k : Rl c ops l ⟨Γ', H⟩ Q) : Rl c ops l ⟨Γ, H⟩ Q := fun i hi S a w m => k i hi S a w (m.imp h)
theorem w_imp {Γ : Slots} {H : List Ent} {x : Code} {Γ' : Slots} (h : Slots.imp Γ Γ') (k : Wp c x ⟨Γ', H⟩ Q) : Wp c x ⟨Γ, H⟩ Q := fun S a w m => k S a w (m.imp h)
theorem fin_imp {Γ : Slots} {H : List Ent} {Γ' : Slots} (h : Slots.imp Γ Γ') (k : Fin c ⟨Γ', H⟩ Q) : Fin c ⟨Γ, H⟩ Q := fun S a w m => k S a w (m.imp h)

/-- What a slot's data tell by themselves. -/
theorem rl_know {l : List Oper} {i : Nat} {R : VP} {p : Prop} (h : look σ.Γ i = some R) (hp : ∀ S v, R.p S v → p) (k : p → Rl c ops l σ Q) : Rl c ops l σ Q := fun j hj S a w m => by
  obtain ⟨v, _, hr⟩ := m.env i R h
  exact k (hp _ _ hr) j hj S a w m
theorem w_know {x : Code} {i : Nat} {R : VP} {p : Prop} (h : look σ.Γ i = some R) (hp : ∀ S v, R.p S v → p) (k : p → Wp c x σ Q) : Wp c x σ Q := fun S a w m => by
  obtain ⟨v, _, hr⟩ := m.env i R h
  exact k (hp _ _ hr) S a w m
end regions

theorem in_mk {x : Int} (h : -9223372036854775808 ≤ x) (k : x ≤ 9223372036854775807) : inI64 x := ⟨h, k⟩
theorem know_int' {x : Int} (S : Frz) (v : Value) (h : (isv x).p S v) : -9223372036854775808 ≤ x ∧ x ≤ 9223372036854775807 := (isv_int.1 h).2
theorem know_len' {α : Type} [Rep α] {l : List α} (S : Frz) (v : Value) (h : (isv l).p S v) : l.length ≤ 281474976710656 := by
  obtain ⟨p, cap, _, _, h, _⟩ := isv_list.1 h; exact h
theorem know_int {x : Int} (S : Frz) (v : Value) (h : (isv x).p S v) : inI64 x := (isv_int.1 h).2
theorem know_len {α : Type} [Rep α] {l : List α} (S : Frz) (v : Value) (h : (isv l).p S v) : l.length ≤ maxList := by
  obtain ⟨p, cap, _, _, h, _⟩ := isv_list.1 h; exact h
theorem know_str {x : Str} (S : Frz) (v : Value) (h : (isv x).p S v) : x.b.length ≤ 4611686018427387904 := (isv_str.1 h).2

section ops
variable {c : Ctx} {d : Option Nat} {ty : TypeId} {pos : String} {af : Array Edge} {g : Option (Nat × Bool)} {σ : St}

theorem v_move {x : Operand} {R : VP} (hx : opnd σ.Γ x = some R) : OpV c ⟨d, .move x, ty, pos, af, g⟩ σ R := fun S a w m =>
  ⟨a.eval x, opnd_sound m hx, fun w' _ => by simp [execOp]⟩
theorem v_assign {x : Operand} {R : VP} (hx : opnd σ.Γ x = some R) : OpV c ⟨d, .assign x, ty, pos, af, g⟩ σ R := fun S a w m =>
  ⟨a.eval x, opnd_sound m hx, fun w' _ => by simp [execOp]⟩

theorem v_pick_t {x y z : Operand} {b : Bool} {R : VP} (hx : opnd σ.Γ x = some (isv b)) (hb : b = true) (hy : opnd σ.Γ y = some R) : OpV c ⟨d, .pick x y z, ty, pos, af, g⟩ σ R := fun S a w m => by
  have h1 := isv_bool.1 (opnd_sound m hx)
  exact ⟨a.eval y, opnd_sound m hy, fun w' _ => by simp [execOp, h1, asBool, hb]⟩
theorem v_pick_f {x y z : Operand} {b : Bool} {R : VP} (hx : opnd σ.Γ x = some (isv b)) (hb : b = false) (hz : opnd σ.Γ z = some R) : OpV c ⟨d, .pick x y z, ty, pos, af, g⟩ σ R := fun S a w m => by
  have h1 := isv_bool.1 (opnd_sound m hx)
  exact ⟨a.eval z, opnd_sound m hz, fun w' _ => by simp [execOp, h1, asBool, hb]⟩

theorem v_not {x : Operand} {t : TypeId} {b : Bool} (hx : opnd σ.Γ x = some (isv b)) : OpV c ⟨d, .unOp .not t x, ty, pos, af, g⟩ σ (isv (!b)) := fun S a w m => by
  have h1 := isv_bool.1 (opnd_sound m hx)
  exact ⟨.bool (!b), isv_bool.2 rfl, fun w' _ => by simp [execOp, Op.unary, h1]⟩

theorem wrap_i64 {n : Int} (h : inI64 n) : IntKind.i64.wrap n = n := IntWalk.i64_in n h

section int
variable {x y : Operand} {t u : TypeId} {p q : Int}
theorem v_add (hx : opnd σ.Γ x = some (isv p)) (hy : opnd σ.Γ y = some (isv q)) (hb : inI64 (p + q)) : OpV c ⟨d, .binOp .add t x y u, ty, pos, af, g⟩ σ (isv (p + q)) := fun S a w m => by
  obtain ⟨h1, _⟩ := isv_int.1 (opnd_sound m hx)
  obtain ⟨h2, _⟩ := isv_int.1 (opnd_sound m hy)
  exact ⟨.int .i64 (p + q), isv_int.2 ⟨rfl, hb⟩, fun w' _ => by simp [execOp, binOp, eqGuard, h1, h2, Op.intArith, wrap_i64 hb]⟩
theorem v_sub (hx : opnd σ.Γ x = some (isv p)) (hy : opnd σ.Γ y = some (isv q)) (hb : inI64 (p - q)) : OpV c ⟨d, .binOp .sub t x y u, ty, pos, af, g⟩ σ (isv (p - q)) := fun S a w m => by
  obtain ⟨h1, _⟩ := isv_int.1 (opnd_sound m hx)
  obtain ⟨h2, _⟩ := isv_int.1 (opnd_sound m hy)
  exact ⟨.int .i64 (p - q), isv_int.2 ⟨rfl, hb⟩, fun w' _ => by simp [execOp, binOp, eqGuard, h1, h2, Op.intArith, wrap_i64 hb]⟩
theorem v_mul (hx : opnd σ.Γ x = some (isv p)) (hy : opnd σ.Γ y = some (isv q)) (hb : inI64 (p * q)) : OpV c ⟨d, .binOp .mul t x y u, ty, pos, af, g⟩ σ (isv (p * q)) := fun S a w m => by
  obtain ⟨h1, _⟩ := isv_int.1 (opnd_sound m hx)
  obtain ⟨h2, _⟩ := isv_int.1 (opnd_sound m hy)
  exact ⟨.int .i64 (p * q), isv_int.2 ⟨rfl, hb⟩, fun w' _ => by simp [execOp, binOp, eqGuard, h1, h2, Op.intArith, wrap_i64 hb]⟩
theorem v_lss (hx : opnd σ.Γ x = some (isv p)) (hy : opnd σ.Γ y = some (isv q)) : OpV c ⟨d, .binOp .lss t x y u, ty, pos, af, g⟩ σ (isv (decide (p < q))) := fun S a w m => by
  obtain ⟨h1, _⟩ := isv_int.1 (opnd_sound m hx)
  obtain ⟨h2, _⟩ := isv_int.1 (opnd_sound m hy)
  exact ⟨.bool (decide (p < q)), isv_bool.2 rfl, fun w' _ => by simp [execOp, binOp, eqGuard, h1, h2, Op.intCmp]⟩
theorem v_leq (hx : opnd σ.Γ x = some (isv p)) (hy : opnd σ.Γ y = some (isv q)) : OpV c ⟨d, .binOp .leq t x y u, ty, pos, af, g⟩ σ (isv (decide (p ≤ q))) := fun S a w m => by
  obtain ⟨h1, _⟩ := isv_int.1 (opnd_sound m hx)
  obtain ⟨h2, _⟩ := isv_int.1 (opnd_sound m hy)
  exact ⟨.bool (decide (p ≤ q)), isv_bool.2 rfl, fun w' _ => by simp [execOp, binOp, eqGuard, h1, h2, Op.intCmp]⟩
theorem v_gtr (hx : opnd σ.Γ x = some (isv p)) (hy : opnd σ.Γ y = some (isv q)) : OpV c ⟨d, .binOp .gtr t x y u, ty, pos, af, g⟩ σ (isv (decide (q < p))) := fun S a w m => by
  obtain ⟨h1, _⟩ := isv_int.1 (opnd_sound m hx)
  obtain ⟨h2, _⟩ := isv_int.1 (opnd_sound m hy)
  exact ⟨.bool (decide (q < p)), isv_bool.2 rfl, fun w' _ => by simp [execOp, binOp, eqGuard, h1, h2, Op.intCmp]⟩
theorem v_geq (hx : opnd σ.Γ x = some (isv p)) (hy : opnd σ.Γ y = some (isv q)) : OpV c ⟨d, .binOp .geq t x y u, ty, pos, af, g⟩ σ (isv (decide (q ≤ p))) := fun S a w m => by
  obtain ⟨h1, _⟩ := isv_int.1 (opnd_sound m hx)
  obtain ⟨h2, _⟩ := isv_int.1 (opnd_sound m hy)
  exact ⟨.bool (decide (q ≤ p)), isv_bool.2 rfl, fun w' _ => by simp [execOp, binOp, eqGuard, h1, h2, Op.intCmp]⟩
theorem v_eql (hx : opnd σ.Γ x = some (isv p)) (hy : opnd σ.Γ y = some (isv q)) : OpV c ⟨d, .binOp .eql t x y u, ty, pos, af, g⟩ σ (isv (decide (p = q))) := fun S a w m => by
  obtain ⟨h1, _⟩ := isv_int.1 (opnd_sound m hx)
  obtain ⟨h2, _⟩ := isv_int.1 (opnd_sound m hy)
  exact ⟨.bool (decide (p = q)), isv_bool.2 rfl, fun w' _ => by simp [execOp, binOp, eqGuard, h1, h2, Op.intCmp]; rfl⟩
theorem v_neq (hx : opnd σ.Γ x = some (isv p)) (hy : opnd σ.Γ y = some (isv q)) : OpV c ⟨d, .binOp .neq t x y u, ty, pos, af, g⟩ σ (isv (!decide (p = q))) := fun S a w m => by
  obtain ⟨h1, _⟩ := isv_int.1 (opnd_sound m hx)
  obtain ⟨h2, _⟩ := isv_int.1 (opnd_sound m hy)
  exact ⟨.bool (!decide (p = q)), isv_bool.2 rfl, fun w' _ => by simp [execOp, binOp, eqGuard, h1, h2, Op.intCmp]; rfl⟩
end int

end ops
end Go.Sy
