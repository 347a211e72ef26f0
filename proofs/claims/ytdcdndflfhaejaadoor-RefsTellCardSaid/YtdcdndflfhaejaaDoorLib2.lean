/- Data as they lie in memory: what a value reads as, for numbers, truth values, texts and lists. No condition: general lemmas. -/
import Derived.Test.YtdcdndflfhaejaaDoorLib1
namespace Go.Sy

def Value.isAgg' : Value → Bool
  | .agg _ => true
  | _ => false

/-- A kind of data that is read off so many cells. -/
class Rep (α : Type) where
  n : Nat
  agg : Bool
  rd : Frz → List Value → α → Prop
  len : ∀ {S : Frz} {cs : List Value} {x : α}, rd S cs x → cs.length = n
  mono : ∀ {S S' : Frz} {cs : List Value} {x : α}, S.le S' → rd S cs x → rd S' cs x
  cell : ∀ {S : Frz} {cs : List Value} {x : α}, rd S cs x → ∀ v ∈ cs, v.oneCell' = true
  one : agg = false → n = 1

def isv {α : Type} [Rep α] (x : α) : VP where
  p := fun S v => Value.isAgg' v = Rep.agg α ∧ Rep.rd S v.cells.toList x
  mono := fun h k => ⟨k.1, Rep.mono h k.2⟩

theorem isv_plain {α : Type} [Rep α] {x : α} {S : Frz} {v : Value} (h : (isv x).p S v) (ha : Rep.agg α = false) : v.oneCell' = true ∧ Rep.rd S [v] x := by
  obtain ⟨h1, h2⟩ := h
  rw [ha] at h1
  have hc := Rep.cell h2
  cases v <;> simp [Value.isAgg', Value.cells, Value.oneCell'] at *
  all_goals first | exact h2 | exact hc

theorem isv_agg {α : Type} [Rep α] {x : α} {S : Frz} {v : Value} (h : (isv x).p S v) (ha : Rep.agg α = true) : ∃ cs, v = .agg cs ∧ Rep.rd S cs.toList x := by
  obtain ⟨h1, h2⟩ := h
  rw [ha] at h1
  cases v <;> simp [Value.isAgg', Value.cells] at *
  exact h2

theorem isv_of_plain {α : Type} [Rep α] {x : α} {S : Frz} {v : Value} (ha : Rep.agg α = false) (h : Rep.rd S [v] x) : (isv x).p S v := by
  have hc := Rep.cell h v (by simp)
  refine ⟨?_, ?_⟩
  · rw [ha]; cases v <;> simp [Value.isAgg', Value.oneCell'] at *
  · cases v <;> simp [Value.cells, Value.oneCell'] at * <;> exact h

theorem isv_of_agg {α : Type} [Rep α] {x : α} {S : Frz} {cs : Array Value} (ha : Rep.agg α = true) (h : Rep.rd S cs.toList x) : (isv x).p S (.agg cs) :=
  ⟨by rw [ha]; rfl, h⟩

/-- The bounds of 64 bits. -/
def inI64 (x : Int) : Prop := -9223372036854775808 ≤ x ∧ x ≤ 9223372036854775807
/-- The longest list. -/
def maxList : Nat := 281474976710656
/-- The longest text. -/
def maxText : Nat := 4611686018427387904

instance : Rep Int where
  n := 1
  agg := false
  rd := fun _ cs x => cs = [.int .i64 x] ∧ inI64 x
  len := fun h => by rw [h.1]; rfl
  mono := fun _ h => h
  cell := fun h v hv => by rw [h.1] at hv; simp at hv; subst hv; rfl
  one := fun _ => rfl

instance : Rep Bool where
  n := 1
  agg := false
  rd := fun _ cs x => cs = [.bool x]
  len := fun h => by rw [h]; rfl
  mono := fun _ h => h
  cell := fun h v hv => by rw [h] at hv; simp at hv; subst hv; rfl
  one := fun _ => rfl

instance : Rep UInt8 where
  n := 1
  agg := false
  rd := fun _ cs x => cs = [.int .u8 (x.toNat : Int)]
  len := fun h => by rw [h]; rfl
  mono := fun _ h => h
  cell := fun h v hv => by rw [h] at hv; simp at hv; subst hv; rfl
  one := fun _ => rfl

instance : Rep UInt64 where
  n := 1
  agg := false
  rd := fun _ cs x => cs = [.int .u64 (x.toNat : Int)]
  len := fun h => by rw [h]; rfl
  mono := fun _ h => h
  cell := fun h v hv => by rw [h] at hv; simp at hv; subst hv; rfl
  one := fun _ => rfl

/-- A text: its bytes. -/
structure Str where
  b : List UInt8
deriving DecidableEq
def Str.ba (s : Str) : ByteArray := ⟨s.b.toArray⟩
theorem Str.ba_size (s : Str) : s.ba.size = s.b.length := by simp [Str.ba, ByteArray.size]
theorem Str.ba_of (s : ByteArray) : (Str.mk s.data.toList).ba = s := by obtain ⟨a⟩ := s; simp [Str.ba]
theorem Str.ba_inj {s t : Str} (h : s.ba = t.ba) : s = t := by
  obtain ⟨s⟩ := s; obtain ⟨t⟩ := t
  simp [Str.ba] at h; rw [h]

instance : Rep Str where
  n := 1
  agg := false
  rd := fun _ cs x => cs = [.string x.ba] ∧ x.b.length ≤ maxText
  len := fun h => by rw [h.1]; rfl
  mono := fun _ h => h
  cell := fun h v hv => by rw [h.1] at hv; simp at hv; subst hv; rfl
  one := fun _ => rfl

/-- One behind the other. -/
def rdL {α : Type} (r : List Value → α → Prop) : List α → List Value → Prop
  | [], cs => cs = []
  | x :: l, cs => ∃ c1 c2, cs = c1 ++ c2 ∧ r c1 x ∧ rdL r l c2

section lists
variable {α : Type} {r r' : List Value → α → Prop}

theorem rdL_mono (h : ∀ cs x, r cs x → r' cs x) : ∀ {l : List α} {cs : List Value}, rdL r l cs → rdL r' l cs
  | [], _, k => k
  | _ :: _, _, ⟨c1, c2, e, k1, k2⟩ => ⟨c1, c2, e, h _ _ k1, rdL_mono h k2⟩

theorem rdL_len {n : Nat} (h : ∀ cs x, r cs x → cs.length = n) : ∀ {l : List α} {cs : List Value}, rdL r l cs → cs.length = l.length * n
  | [], _, k => by cases k; simp
  | _ :: l, _, ⟨c1, c2, e, k1, k2⟩ => by
    subst e
    rw [List.length_append, h _ _ k1, rdL_len h k2, List.length_cons, Nat.add_mul, Nat.one_mul, Nat.add_comm]

theorem rdL_cell (h : ∀ cs x, r cs x → ∀ v ∈ cs, v.oneCell' = true) : ∀ {l : List α} {cs : List Value}, rdL r l cs → ∀ v ∈ cs, v.oneCell' = true
  | [], _, k => by cases k; simp
  | _ :: l, _, ⟨c1, c2, e, k1, k2⟩ => by
    subst e
    intro v hv
    rcases List.mem_append.1 hv with hv | hv
    · exact h _ _ k1 v hv
    · exact rdL_cell h k2 v hv

theorem rdL_append : ∀ {l m : List α} {cs ds : List Value}, rdL r l cs → rdL r m ds → rdL r (l ++ m) (cs ++ ds)
  | [], _, _, _, k, k' => by cases k; exact k'
  | _ :: l, _, _, _, ⟨c1, c2, e, k1, k2⟩, k' => by
    subst e
    exact ⟨c1, c2 ++ _, by rw [List.append_assoc], k1, rdL_append k2 k'⟩

theorem rdL_one {x : α} {cs : List Value} (h : r cs x) : rdL r [x] cs := ⟨cs, [], by simp, h, rfl⟩

theorem rdL_get {n : Nat} (hn : ∀ cs x, r cs x → cs.length = n) : ∀ {l : List α} {cs : List Value} {i : Nat} {x : α}, rdL r l cs → l[i]? = some x → r ((cs.drop (i * n)).take n) x
  | [], _, _, _, _, hi => by simp at hi
  | y :: l, _, 0, x, ⟨c1, c2, e, k1, k2⟩, hi => by
    simp at hi; subst hi; subst e
    have := hn _ _ k1
    simp [← this, k1]
  | y :: l, _, i + 1, x, ⟨c1, c2, e, k1, k2⟩, hi => by
    subst e
    have h1 := hn _ _ k1
    have : List.drop ((i + 1) * n) (c1 ++ c2) = List.drop (i * n) c2 := by
      rw [Nat.add_mul, Nat.one_mul, Nat.add_comm, ← List.drop_drop, ← h1, List.drop_left]
    rw [this]
    exact rdL_get hn k2 (by simpa using hi)

theorem rdL_drop {n : Nat} (hn : ∀ cs x, r cs x → cs.length = n) : ∀ {l : List α} {cs : List Value} (i : Nat), rdL r l cs → rdL r (l.drop i) (cs.drop (i * n))
  | l, cs, 0, k => by simpa using k
  | [], cs, i + 1, k => by cases k; simp [rdL]
  | y :: l, _, i + 1, ⟨c1, c2, e, k1, k2⟩ => by
    subst e
    have h1 := hn _ _ k1
    have : List.drop ((i + 1) * n) (c1 ++ c2) = List.drop (i * n) c2 := by
      rw [Nat.add_mul, Nat.one_mul, Nat.add_comm, ← List.drop_drop, ← h1, List.drop_left]
    rw [this]
    exact rdL_drop hn i k2

theorem rdL_take {n : Nat} (hn : ∀ cs x, r cs x → cs.length = n) : ∀ {l : List α} {cs : List Value} (i : Nat), rdL r l cs → rdL r (l.take i) (cs.take (i * n))
  | l, cs, 0, _ => by simp [rdL]
  | [], cs, i + 1, k => by cases k; simp [rdL]
  | y :: l, _, i + 1, ⟨c1, c2, e, k1, k2⟩ => by
    subst e
    have h1 := hn _ _ k1
    have : List.take ((i + 1) * n) (c1 ++ c2) = c1 ++ List.take (i * n) c2 := by
      rw [Nat.add_mul, Nat.one_mul, Nat.add_comm, List.take_append, h1]
      rw [List.take_of_length_le (by omega)]
      congr 2
      omega
    rw [this]
    exact ⟨c1, _, rfl, k1, rdL_take hn i k2⟩
end lists

/-- The list behind a slice. -/
def rdSl {α : Type} (n : Nat) (r : Frz → List Value → α → Prop) (S : Frz) (v : Value) (l : List α) : Prop :=
  ∃ p cap, v = .slice p l.length cap ∧ l.length ≤ cap ∧ l.length ≤ maxList ∧ (l = [] ∨ ∃ a cs, p = some a ∧ S.has a cs ∧ cs.length = l.length * n ∧ rdL (r S) l cs)

instance {α : Type} [Rep α] : Rep (List α) where
  n := 1
  agg := false
  rd := fun S cs l => ∃ v, cs = [v] ∧ rdSl (Rep.n α) Rep.rd S v l
  len := fun ⟨v, e, _⟩ => by rw [e]; rfl
  mono := fun h ⟨v, e, p, cap, k1, k2, k3, k4⟩ => ⟨v, e, p, cap, k1, k2, k3, k4.imp id fun ⟨a, cs, j1, j2, j3, j4⟩ => ⟨a, cs, j1, Frz.has_mono h j2, j3, rdL_mono (fun _ _ => Rep.mono h) j4⟩⟩
  cell := fun ⟨v, e, p, cap, k1, _⟩ u hu => by rw [e] at hu; simp at hu; subst hu; subst k1; rfl
  one := fun _ => rfl

theorem isv_int {x : Int} {S : Frz} {v : Value} : (isv x).p S v ↔ v = .int .i64 x ∧ inI64 x := by
  constructor
  · intro h
    have := (isv_plain h rfl).2
    simpa [Rep.rd] using this
  · rintro ⟨rfl, h⟩; exact ⟨rfl, rfl, h⟩
theorem isv_bool {x : Bool} {S : Frz} {v : Value} : (isv x).p S v ↔ v = .bool x := by
  constructor
  · intro h
    have := (isv_plain h rfl).2
    simpa [Rep.rd] using this
  · rintro rfl; exact ⟨rfl, rfl⟩
theorem isv_u8 {x : UInt8} {S : Frz} {v : Value} : (isv x).p S v ↔ v = .int .u8 (x.toNat : Int) := by
  constructor
  · intro h
    have := (isv_plain h rfl).2
    simpa [Rep.rd] using this
  · rintro rfl; exact ⟨rfl, rfl⟩
theorem isv_u64 {x : UInt64} {S : Frz} {v : Value} : (isv x).p S v ↔ v = .int .u64 (x.toNat : Int) := by
  constructor
  · intro h
    have := (isv_plain h rfl).2
    simpa [Rep.rd] using this
  · rintro rfl; exact ⟨rfl, rfl⟩
theorem isv_str {x : Str} {S : Frz} {v : Value} : (isv x).p S v ↔ v = .string x.ba ∧ x.b.length ≤ maxText := by
  constructor
  · intro h
    have := (isv_plain h rfl).2
    simpa [Rep.rd] using this
  · rintro ⟨rfl, h⟩; exact ⟨rfl, rfl, h⟩
theorem isv_list {α : Type} [Rep α] {l : List α} {S : Frz} {v : Value} : (isv l).p S v ↔ rdSl (Rep.n α) Rep.rd S v l := by
  constructor
  · intro h
    obtain ⟨u, e, h⟩ := (isv_plain h rfl).2
    simp at e; subst e; exact h
  · intro h
    exact isv_of_plain rfl ⟨v, rfl, h⟩

end Go.Sy
