/- What the tags' functions compute. No condition. -/
import Derived.Test.YtlngkmmajaaloaaLib15
namespace Go.Sy
def Tag.less (a b : Tag) : Bool := decide (a.cls < b.cls) || (decide (a.cls = b.cls) && decide (a.num < b.num))
def Tag.univ (k : Int) : Tag :=
  if k = 1 then ⟨0, 1⟩ else if k = 2 then ⟨0, 2⟩ else if k = 5 then ⟨0, 4⟩ else if k = 4 then ⟨0, 5⟩ else if k = 3 then ⟨0, 10⟩ else if k = 6 then ⟨0, 12⟩ else if k = 7 ∨ k = 10 then ⟨0, 16⟩ else if k = 8 then ⟨0, 17⟩ else ⟨0, 0⟩
def Tag.wrap (tags : List Tag) (number mode : Int) : List Tag × Int :=
  if number < 0 ∨ 268435456 < number ∨ (mode = 1 ∧ tags.length = 0) then ([], 12) else (⟨2, number⟩ :: (if mode = 1 then tags.drop 1 else tags), 0)

section
variable {tags : List Tag} {number mode : Int}
theorem wrap1 (h : number < 0 ∨ 268435456 < number ∨ (mode = 1 ∧ (tags.length : Int) = 0)) : (Tag.wrap tags number mode).1 = [] := by
  unfold Tag.wrap; rw [if_pos (by omega)]
theorem wrap1e (h : number < 0 ∨ 268435456 < number ∨ (mode = 1 ∧ (tags.length : Int) = 0)) : (Tag.wrap tags number mode).2 = 12 := by
  unfold Tag.wrap; rw [if_pos (by omega)]
theorem wrap2 (h : ¬ (number < 0 ∨ 268435456 < number ∨ (mode = 1 ∧ (tags.length : Int) = 0))) (hm : mode = 1) : (Tag.wrap tags number mode).1 = ⟨2, number⟩ :: tags.drop 1 := by
  unfold Tag.wrap; rw [if_neg (by omega)]; simp [hm]
theorem wrap3 (h : ¬ (number < 0 ∨ 268435456 < number ∨ (mode = 1 ∧ (tags.length : Int) = 0))) (hm : ¬ mode = 1) : (Tag.wrap tags number mode).1 = ⟨2, number⟩ :: tags := by
  unfold Tag.wrap; rw [if_neg (by omega)]; simp [hm]
theorem wrap2e (h : ¬ (number < 0 ∨ 268435456 < number ∨ (mode = 1 ∧ (tags.length : Int) = 0))) : (Tag.wrap tags number mode).2 = 0 := by
  unfold Tag.wrap; rw [if_neg (by omega)]
end

section
variable {α : Type} [DecidableEq α] {a b : List α}
theorem same_len (h : ¬ (a.length : Int) = b.length) : false = decide (a = b) := by
  symm; rw [decide_eq_false_iff_not]; intro e; subst e; exact h rfl
theorem same_ne {k : Nat} (h1 : k < a.length) (h2 : k < b.length) (h : (!decide (a[k] = b[k])) = true) : false = decide (a = b) := by
  symm; rw [decide_eq_false_iff_not]; intro e; subst e; simp at h
theorem same_all {k : Nat} (h1 : a.length ≤ k) (h2 : b.length ≤ k) (h : a.take k = b.take k) : true = decide (a = b) := by
  rw [List.take_of_length_le h1, List.take_of_length_le h2] at h; simp [h]
theorem take_next {k : Nat} (h1 : k < a.length) (h2 : k < b.length) (h : a.take k = b.take k) (e : (!decide (a[k] = b[k])) = false) : a.take (k + 1) = b.take (k + 1) := by
  rw [List.take_succ_eq_append_getElem h1, List.take_succ_eq_append_getElem h2, h]
  simp at e; rw [e]
end

section
variable {α : Type} {l : List (List α)} {k : Nat}
theorem flat_next (h : k < l.length) : (l.take (k + 1)).flatten.length = (l.take k).flatten.length + (l[k]'h).length := by
  rw [List.take_succ_eq_append_getElem h, List.flatten_append, List.length_append]
  have : ([l[k]'h] : List (List α)).flatten = l[k]'h := by simp
  rw [this]
theorem flat_app (h : k < l.length) : (l.take (k + 1)).flatten = (l.take k).flatten ++ l[k]'h := by
  rw [List.take_succ_eq_append_getElem h, List.flatten_append]
  have : ([l[k]'h] : List (List α)).flatten = l[k]'h := by simp
  rw [this]
theorem flat_le (k : Nat) : (l.take k).flatten.length ≤ l.flatten.length := by
  have : l.flatten = (l.take k).flatten ++ (l.drop k).flatten := by rw [← List.flatten_append, List.take_append_drop]
  rw [this]; simp
theorem flat_all (h : l.length ≤ k) : (l.take k).flatten = l.flatten := by rw [List.take_of_length_le h]
end

theorem less_tr {a b c : Tag} (h1 : (!Tag.less a b) = false) (h2 : (!Tag.less b c) = false) : Tag.less a c = true := by
  simp [Tag.less] at *
  omega
abbrev bs (a b : Tag) : List Bool := [Tag.less a b, Tag.less b a, decide (a = b)]
def cnt (l : List Bool) : Nat := (l.filter fun x => x).length
theorem cnt_le3 (a b : Tag) (k : Nat) : cnt ((bs a b).take k) ≤ 3 := by
  have h1 := List.length_filter_le (fun x : Bool => x) ((bs a b).take k)
  have h2 : ((bs a b).take k).length ≤ 3 := by simp; omega
  exact Nat.le_trans h1 h2
theorem cnt_t {a b : Tag} {k : Nat} (hk : k < 3) (h : (bs a b)[k]'hk = true) : ((cnt ((bs a b).take k) : Nat) : Int) + 1 = (cnt ((bs a b).take (k + 1)) : Nat) := by
  rw [List.take_succ_eq_append_getElem (by exact hk), h]
  simp [cnt]
theorem cnt_f {a b : Tag} {k : Nat} (hk : k < 3) (h : (bs a b)[k]'hk = false) : ((cnt ((bs a b).take k) : Nat) : Int) = (cnt ((bs a b).take (k + 1)) : Nat) := by
  rw [List.take_succ_eq_append_getElem (by exact hk), h]
  simp [cnt]
theorem one_spec (a b : Tag) {k : Nat} (hk : 3 ≤ k) : ((cnt ((bs a b).take k) : Nat) : Int) = 1 := by
  rw [List.take_of_length_le (by simpa using hk)]
  by_cases h : a = b
  · subst h
    simp [cnt, Tag.less]
  · have hne : ¬ (a.cls = b.cls ∧ a.num = b.num) := fun ⟨h1, h2⟩ => h (by cases a; cases b; simp_all)
    by_cases h1 : Tag.less a b = true
    · have h2 : Tag.less b a = false := by simp [Tag.less] at *; omega
      simp [cnt, h1, h2, h]
    · have h2 : Tag.less b a = true := by simp [Tag.less] at *; omega
      simp [cnt, h1, h2, h]

/-- The number of layer i. -/
def layU (n : Int) : UInt64 := UInt64.ofNat (n % 18446744073709551616).toNat % UInt64.ofNat 268435457
theorem layU_lt (n : Int) : (layU n).toNat ≤ 268435456 := by
  unfold layU
  rw [UInt64.toNat_mod]
  have : (UInt64.ofNat 268435457).toNat = 268435457 := by decide
  rw [this]
  have := Nat.mod_lt (UInt64.ofNat (n % 18446744073709551616).toNat).toNat (show 0 < 268435457 by decide)
  omega
def layN (ns : List Int) (i : Nat) : Int := (layU (ns.getD i 0)).toNat
theorem layN_b (ns : List Int) (i : Nat) : 0 ≤ layN ns i ∧ layN ns i ≤ 268435456 := by
  have := layU_lt (ns.getD i 0)
  unfold layN; omega
def lay (ns : List Int) (ms : List Bool) : Nat → List Tag
  | 0 => [⟨0, 2⟩]
  | i + 1 => ⟨2, layN ns i⟩ :: (if ms[i]? = some true then (lay ns ms i).drop 1 else lay ns ms i)
theorem lay_len (ns : List Int) (ms : List Bool) (i : Nat) : 1 ≤ (lay ns ms i).length ∧ (lay ns ms i).length ≤ i + 1 := by
  induction i with
  | zero => simp [lay]
  | succ i ih =>
    unfold lay
    split <;> simp <;> omega
section
variable {ns : List Int} {ms : List Bool} {i : Nat}
theorem lay_t {h : i < ms.length} (hb : ms[i]'h = true) : lay ns ms (i + 1) = ⟨2, layN ns i⟩ :: (lay ns ms i).drop 1 := by
  have : ms[i]? = some true := by rw [List.getElem?_eq_getElem h, hb]
  simp [lay, this]
theorem lay_f {h : i < ms.length} (hb : ms[i]'h = false) : lay ns ms (i + 1) = ⟨2, layN ns i⟩ :: lay ns ms i := by
  have : ms[i]? = some false := by rw [List.getElem?_eq_getElem h, hb]
  simp [lay, this]
theorem lay_o (h : ms.length ≤ i) : lay ns ms (i + 1) = ⟨2, layN ns i⟩ :: lay ns ms i := by
  have : ms[i]? = none := List.getElem?_eq_none h
  simp [lay, this]
theorem lay_get {h : i < ns.length} : ((layU (ns[i]'h)).toNat : Int) = layN ns i := by
  simp [layN, List.getD, h]
theorem lay_wrap {mode : Int} : Tag.wrap (lay ns ms i) (layN ns i) mode = (⟨2, layN ns i⟩ :: (if mode = 1 then (lay ns ms i).drop 1 else lay ns ms i), 0) := by
  have h1 := layN_b ns i
  have h2 := lay_len ns ms i
  unfold Tag.wrap; rw [if_neg (by omega)]
end

/-- Whether no tag comes twice. -/
def Tag.apart (sets : List (List Tag)) : Bool := decide sets.flatten.Nodup
section
variable {l : List Tag} {x : Tag} {k : Nat}
theorem in_next (h : k < l.length) (hI : x ∉ l.take k) (e : decide (l[k]'h = x) = false) : x ∉ l.take (k + 1) := by
  rw [List.take_succ_eq_append_getElem h]
  simp at e
  simp only [List.mem_append, List.mem_singleton, not_or]
  exact ⟨hI, fun h => e h.symm⟩
theorem in_hit (h : k < l.length) (e : l[k]'h = x) : true = decide (x ∈ l) := by
  subst e; simp
theorem in_all (h : l.length ≤ k) (hI : x ∉ l.take k) : false = decide (x ∈ l) := by
  rw [List.take_of_length_le h] at hI; simp [hI]
end
section
variable {κ ν : Type} [DecidableEq κ]
theorem mget_isSome (m : List (κ × ν)) (x : κ) : (mget m x).isSome = decide (x ∈ m.map Prod.fst) := by
  induction m with
  | nil => rfl
  | cons p m ih =>
    unfold mget
    by_cases h : x = p.1
    · simp [h]
    · simp only [h, if_false, ih, List.map_cons, List.mem_cons, false_or]
theorem mget_miss {m : List (κ × ν)} {x : κ} (h : (mget m x).isSome = false) : mget m x = none := by
  cases hm : mget m x <;> simp [hm] at h ⊢
end
section
variable {sets : List (List Tag)} {k i : Nat} {x : Tag}
theorem flat_split (hk : k < sets.length) (hi : i < (sets[k]'hk).length) : ∃ r, sets.flatten = ((sets.take k).flatten ++ (sets[k]'hk).take i) ++ (sets[k]'hk)[i]'hi :: r := by
  refine ⟨(sets[k]'hk).drop (i + 1) ++ (sets.drop (k + 1)).flatten, ?_⟩
  have h1 : sets.flatten = (sets.take k).flatten ++ (sets.drop k).flatten := by rw [← List.flatten_append, List.take_append_drop]
  have h2 : sets.drop k = sets[k]'hk :: sets.drop (k + 1) := List.drop_eq_getElem_cons hk
  have h3 : sets[k]'hk = (sets[k]'hk).take i ++ (sets[k]'hk)[i]'hi :: (sets[k]'hk).drop (i + 1) := by
    rw [← List.drop_eq_getElem_cons hi, List.take_append_drop]
  have h4 : sets[k]'hk ++ (sets.drop (k + 1)).flatten = (sets[k]'hk).take i ++ (sets[k]'hk)[i]'hi :: ((sets[k]'hk).drop (i + 1) ++ (sets.drop (k + 1)).flatten) := by
    rw [← List.cons_append, ← List.append_assoc, ← h3]
  rw [h1, h2, List.flatten_cons, List.append_assoc, h4]
theorem dist_hit (hk : k < sets.length) (hi : i < (sets[k]'hk).length) (h : (sets[k]'hk)[i]'hi ∈ (sets.take k).flatten ++ (sets[k]'hk).take i) : false = Tag.apart sets := by
  obtain ⟨r, e⟩ := flat_split hk hi
  symm
  unfold Tag.apart
  rw [decide_eq_false_iff_not, e]
  intro hn
  exact (List.nodup_append.1 hn).2.2 _ h _ (List.mem_cons_self ..) rfl
theorem dist_next {l : List Tag} (h : l.Nodup) (hx : x ∉ l) : (l ++ [x]).Nodup := by
  rw [List.nodup_append]
  exact ⟨h, by simp, fun a ha b hb e => hx (by simp at hb; subst hb; subst e; exact ha)⟩
theorem dist_step (hk : k < sets.length) (hi : i < (sets[k]'hk).length) : ((sets.take k).flatten ++ (sets[k]'hk).take i) ++ [(sets[k]'hk)[i]'hi] = (sets.take k).flatten ++ (sets[k]'hk).take (i + 1) := by
  rw [List.take_succ_eq_append_getElem hi, List.append_assoc]
theorem dist_round (hk : k < sets.length) (hi : (sets[k]'hk).length ≤ i) : (sets.take k).flatten ++ (sets[k]'hk).take i = (sets.take (k + 1)).flatten := by
  rw [List.take_of_length_le hi, flat_app hk]
theorem dist_all (h : sets.length ≤ k) (hn : ((sets.take k).flatten).Nodup) : true = Tag.apart sets := by
  rw [List.take_of_length_le h] at hn
  simp [Tag.apart, hn]
end

section
variable {l : List Tag} {k : Nat}
theorem want_t {h : k < l.length} (e : decide (l.take k).Nodup = true) : (!decide (l[k]'h ∈ l.take k)) = decide (l.take (k + 1)).Nodup := by
  have hn := of_decide_eq_true e
  rw [List.take_succ_eq_append_getElem h]
  by_cases hm : l[k]'h ∈ l.take k
  · have : ¬ (l.take k ++ [l[k]'h]).Nodup := fun hd => (List.nodup_append.1 hd).2.2 _ hm _ (List.mem_singleton.2 rfl) rfl
    rw [decide_eq_true hm, decide_eq_false this]; rfl
  · rw [decide_eq_false hm, decide_eq_true (dist_next hn hm)]; rfl
theorem want_f {h : k < l.length} (e : decide (l.take k).Nodup = false) : false = decide (l.take (k + 1)).Nodup := by
  have hn := of_decide_eq_false e
  symm
  rw [decide_eq_false_iff_not, List.take_succ_eq_append_getElem h]
  exact fun hd => hn (List.nodup_append.1 hd).1
theorem apart_perm {sets : List (List Tag)} (h : l.length ≤ k) (e : sets.flatten.Perm l) : Tag.apart sets = decide (l.take k).Nodup := by
  rw [List.take_of_length_le h]
  unfold Tag.apart
  rw [decide_eq_decide]
  exact e.nodup_iff
theorem all_next {sets : List (List Tag)} (h : k < sets.length) (hI : ∀ s ∈ sets.take k, s.length ≤ 20) (e : (sets[k]'h).length ≤ 20) : ∀ s ∈ sets.take (k + 1), s.length ≤ 20 := by
  rw [List.take_succ_eq_append_getElem h]
  intro s hs
  rcases List.mem_append.1 hs with h1 | h1
  · exact hI s h1
  · rw [List.mem_singleton.1 h1]; exact e
theorem flat_20 {sets : List (List Tag)} (h : ∀ s ∈ sets, s.length ≤ 20) : sets.flatten.length ≤ 20 * sets.length := by
  induction sets with
  | nil => simp
  | cons s sets ih =>
    have h1 := h s (List.mem_cons_self ..)
    have h2 := ih fun t ht => h t (List.mem_cons_of_mem _ ht)
    rw [List.flatten_cons, List.length_append, List.length_cons]
    omega
theorem flat_400 {sets : List (List Tag)} (hk : sets.length ≤ k) (h20 : sets.length ≤ 20) (h : ∀ s ∈ sets.take k, s.length ≤ 20) : sets.flatten.length ≤ 1000000 := by
  rw [List.take_of_length_le hk] at h
  have := flat_20 h
  omega
end

section
variable {l : List Tag} {f z : Tag} {k : Nat}
theorem own_init : (List.replicate ((l.length : Int) + 3).toNat z).take (Int.toNat 0) ++ l ++ (List.replicate ((l.length : Int) + 3).toNat z).drop (Int.toNat 0 + l.length) = l ++ List.replicate 0 f ++ List.replicate (3 - 0) z := by
  have h : ((l.length : Int) + 3).toNat - (Int.toNat 0 + l.length) = 3 := by omega
  rw [List.drop_replicate, h]; simp
theorem own_next (h : k < 3) : (l ++ List.replicate k f ++ List.replicate (3 - k) z).set (l.length + k) f = l ++ List.replicate (k + 1) f ++ List.replicate (3 - (k + 1)) z := by
  have : k = 0 ∨ k = 1 ∨ k = 2 := by omega
  rcases this with rfl | rfl | rfl <;> simp [List.set_append, List.replicate]
theorem kept_len : ((l ++ [f, f, f]).take ((l.length : Int) + 3).toNat).length = l.length + 3 := by
  simp; omega
theorem kept_get (h : k < 3) : ((l ++ [f, f, f]).take ((l.length : Int) + 3).toNat)[((l.length + k : Nat) : Int).toNat]? = some f := by
  have h1 : ((l.length : Int) + 3).toNat = l.length + 3 := by omega
  have h2 : ((l.length + k : Nat) : Int).toNat = l.length + k := by omega
  rw [h1, h2, List.getElem?_take, if_pos (by omega), List.getElem?_append_right (by omega)]
  have : k = 0 ∨ k = 1 ∨ k = 2 := by omega
  rcases this with rfl | rfl | rfl <;> simp
theorem own_out {x : List Tag} (h : 3 ≤ k) (hk : k ≤ 3) (e : x = l ++ List.replicate k f ++ List.replicate (3 - k) z) : spv (x.take (Int.toNat 0 + l.length)) (x.drop (Int.toNat 0 + l.length)) = spv l [f, f, f] := by
  have : k = 3 := by omega
  subst this; subst e
  simp [List.replicate]
end
end Go.Sy
