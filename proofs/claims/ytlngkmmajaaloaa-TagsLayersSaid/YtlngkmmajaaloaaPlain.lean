/- What the tags' functions compute. No condition. -/
import Derived.Test.YtlngkmmajaaloaaLib13
namespace Go.Sy
def Tag.less (a b : Tag) : Bool := decide (a.cls < b.cls) || (decide (a.cls = b.cls) && decide (a.num < b.num))
def Tag.univ (k : Int) : Tag :=
  if k = 1 then ⟨0, 1⟩ else if k = 2 then ⟨0, 2⟩ else if k = 5 then ⟨0, 4⟩ else if k = 4 then ⟨0, 5⟩ else if k = 3 then ⟨0, 10⟩ else if k = 6 then ⟨0, 12⟩ else if k = 7 ∨ k = 10 then ⟨0, 16⟩ else if k = 8 then ⟨0, 17⟩ else ⟨0, 0⟩
def Tag.wrap (tags : List Tag) (number mode : Int) : List Tag × Int :=
  if number < 0 ∨ 268435456 < number ∨ (mode = 1 ∧ tags.length = 0) then ([], 12) else (⟨2, number⟩ :: (if mode = 1 then tags.drop 1 else tags), 0)

section
variable {tags : List Tag} {number mode : Int}
theorem wrap1 (h : number < 0 ∨ 268435456 < number ∨ (mode = 1 ∧ (tags.length : Int) = 0)) : (Tag.wrap tags number mode).1 = [] := by
  unfold Tag.wrap; rw [if_pos (by omega)]
theorem wrap1e (h : number < 0 ∨ 268435456 < number ∨ (mode = 1 ∧ (tags.length : Int) = 0)) : (Tag.wrap tags number mode).2 = 12 := by
  unfold Tag.wrap; rw [if_pos (by omega)]
theorem wrap2 (h : ¬ (number < 0 ∨ 268435456 < number ∨ (mode = 1 ∧ (tags.length : Int) = 0))) (hm : mode = 1) : (Tag.wrap tags number mode).1 = ⟨2, number⟩ :: tags.drop 1 := by
  unfold Tag.wrap; rw [if_neg (by omega)]; simp [hm]
theorem wrap3 (h : ¬ (number < 0 ∨ 268435456 < number ∨ (mode = 1 ∧ (tags.length : Int) = 0))) (hm : ¬ mode = 1) : (Tag.wrap tags number mode).1 = ⟨2, number⟩ :: tags := by
  unfold Tag.wrap; rw [if_neg (by omega)]; simp [hm]
theorem wrap2e (h : ¬ (number < 0 ∨ 268435456 < number ∨ (mode = 1 ∧ (tags.length : Int) = 0))) : (Tag.wrap tags number mode).2 = 0 := by
  unfold Tag.wrap; rw [if_neg (by omega)]
end

section
variable {α : Type} [DecidableEq α] {a b : List α}
theorem same_len (h : ¬ (a.length : Int) = b.length) : false = decide (a = b) := by
  symm; rw [decide_eq_false_iff_not]; intro e; subst e; exact h rfl
theorem same_ne {k : Nat} (h1 : k < a.length) (h2 : k < b.length) (h : (!decide (a[k] = b[k])) = true) : false = decide (a = b) := by
  symm; rw [decide_eq_false_iff_not]; intro e; subst e; simp at h
theorem same_all {k : Nat} (h1 : a.length ≤ k) (h2 : b.length ≤ k) (h : a.take k = b.take k) : true = decide (a = b) := by
  rw [List.take_of_length_le h1, List.take_of_length_le h2] at h; simp [h]
theorem take_next {k : Nat} (h1 : k < a.length) (h2 : k < b.length) (h : a.take k = b.take k) (e : (!decide (a[k] = b[k])) = false) : a.take (k + 1) = b.take (k + 1) := by
  rw [List.take_succ_eq_append_getElem h1, List.take_succ_eq_append_getElem h2, h]
  simp at e; rw [e]
end

section
variable {α : Type} {l : List (List α)} {k : Nat}
theorem flat_next (h : k < l.length) : (l.take (k + 1)).flatten.length = (l.take k).flatten.length + (l[k]'h).length := by
  rw [List.take_succ_eq_append_getElem h, List.flatten_append, List.length_append]
  have : ([l[k]'h] : List (List α)).flatten = l[k]'h := by simp
  rw [this]
theorem flat_app (h : k < l.length) : (l.take (k + 1)).flatten = (l.take k).flatten ++ l[k]'h := by
  rw [List.take_succ_eq_append_getElem h, List.flatten_append]
  have : ([l[k]'h] : List (List α)).flatten = l[k]'h := by simp
  rw [this]
theorem flat_le (k : Nat) : (l.take k).flatten.length ≤ l.flatten.length := by
  have : l.flatten = (l.take k).flatten ++ (l.drop k).flatten := by rw [← List.flatten_append, List.take_append_drop]
  rw [this]; simp
theorem flat_all (h : l.length ≤ k) : (l.take k).flatten = l.flatten := by rw [List.take_of_length_le h]
end

theorem less_tr {a b c : Tag} (h1 : (!Tag.less a b) = false) (h2 : (!Tag.less b c) = false) : Tag.less a c = true := by
  simp [Tag.less] at *
  omega
abbrev bs (a b : Tag) : List Bool := [Tag.less a b, Tag.less b a, decide (a = b)]
def cnt (l : List Bool) : Nat := (l.filter fun x => x).length
theorem cnt_le3 (a b : Tag) (k : Nat) : cnt ((bs a b).take k) ≤ 3 := by
  have h1 := List.length_filter_le (fun x : Bool => x) ((bs a b).take k)
  have h2 : ((bs a b).take k).length ≤ 3 := by simp; omega
  exact Nat.le_trans h1 h2
theorem cnt_t {a b : Tag} {k : Nat} (hk : k < 3) (h : (bs a b)[k]'hk = true) : ((cnt ((bs a b).take k) : Nat) : Int) + 1 = (cnt ((bs a b).take (k + 1)) : Nat) := by
  rw [List.take_succ_eq_append_getElem (by exact hk), h]
  simp [cnt]
theorem cnt_f {a b : Tag} {k : Nat} (hk : k < 3) (h : (bs a b)[k]'hk = false) : ((cnt ((bs a b).take k) : Nat) : Int) = (cnt ((bs a b).take (k + 1)) : Nat) := by
  rw [List.take_succ_eq_append_getElem (by exact hk), h]
  simp [cnt]
theorem one_spec (a b : Tag) {k : Nat} (hk : 3 ≤ k) : ((cnt ((bs a b).take k) : Nat) : Int) = 1 := by
  rw [List.take_of_length_le (by simpa using hk)]
  by_cases h : a = b
  · subst h
    simp [cnt, Tag.less]
  · have hne : ¬ (a.cls = b.cls ∧ a.num = b.num) := fun ⟨h1, h2⟩ => h (by cases a; cases b; simp_all)
    by_cases h1 : Tag.less a b = true
    · have h2 : Tag.less b a = false := by simp [Tag.less] at *; omega
      simp [cnt, h1, h2, h]
    · have h2 : Tag.less b a = true := by simp [Tag.less] at *; omega
      simp [cnt, h1, h2, h]

/-- The number of layer i. -/
def layU (n : Int) : UInt64 := UInt64.ofNat (n % 18446744073709551616).toNat % UInt64.ofNat 268435457
theorem layU_lt (n : Int) : (layU n).toNat ≤ 268435456 := by
  unfold layU
  rw [UInt64.toNat_mod]
  have : (UInt64.ofNat 268435457).toNat = 268435457 := by decide
  rw [this]
  have := Nat.mod_lt (UInt64.ofNat (n % 18446744073709551616).toNat).toNat (show 0 < 268435457 by decide)
  omega
def layN (ns : List Int) (i : Nat) : Int := (layU (ns.getD i 0)).toNat
theorem layN_b (ns : List Int) (i : Nat) : 0 ≤ layN ns i ∧ layN ns i ≤ 268435456 := by
  have := layU_lt (ns.getD i 0)
  unfold layN; omega
def lay (ns : List Int) (ms : List Bool) : Nat → List Tag
  | 0 => [⟨0, 2⟩]
  | i + 1 => ⟨2, layN ns i⟩ :: (if ms[i]? = some true then (lay ns ms i).drop 1 else lay ns ms i)
theorem lay_len (ns : List Int) (ms : List Bool) (i : Nat) : 1 ≤ (lay ns ms i).length ∧ (lay ns ms i).length ≤ i + 1 := by
  induction i with
  | zero => simp [lay]
  | succ i ih =>
    unfold lay
    split <;> simp <;> omega
section
variable {ns : List Int} {ms : List Bool} {i : Nat}
theorem lay_t {h : i < ms.length} (hb : ms[i]'h = true) : lay ns ms (i + 1) = ⟨2, layN ns i⟩ :: (lay ns ms i).drop 1 := by
  have : ms[i]? = some true := by rw [List.getElem?_eq_getElem h, hb]
  simp [lay, this]
theorem lay_f {h : i < ms.length} (hb : ms[i]'h = false) : lay ns ms (i + 1) = ⟨2, layN ns i⟩ :: lay ns ms i := by
  have : ms[i]? = some false := by rw [List.getElem?_eq_getElem h, hb]
  simp [lay, this]
theorem lay_o (h : ms.length ≤ i) : lay ns ms (i + 1) = ⟨2, layN ns i⟩ :: lay ns ms i := by
  have : ms[i]? = none := List.getElem?_eq_none h
  simp [lay, this]
theorem lay_get {h : i < ns.length} : ((layU (ns[i]'h)).toNat : Int) = layN ns i := by
  simp [layN, List.getD, h]
theorem lay_wrap {mode : Int} : Tag.wrap (lay ns ms i) (layN ns i) mode = (⟨2, layN ns i⟩ :: (if mode = 1 then (lay ns ms i).drop 1 else lay ns ms i), 0) := by
  have h1 := layN_b ns i
  have h2 := lay_len ns ms i
  unfold Tag.wrap; rw [if_neg (by omega)]
end
end Go.Sy
