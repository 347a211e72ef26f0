/- Walks, printed by mill.py. -/
import Derived.Test.YtiibmpdjkdjbiaaGreatDoorTsA
import Derived.Test.YtiibmpdjkdjbiaaGreatDoorTsB
import Derived.Test.YtiibmpdjkdjbiaaGreatDoorTsC
import Derived.Test.YtiibmpdjkdjbiaaGreatDoorProg
import Derived.KernelRfl
import Derived.Shelf.Unicode.ValidAny
set_option linter.unusedVariables false
set_option linter.unusedSimpArgs false

namespace Go.Proofs.YtiibmpdjkdjbiaaGreatDoor.GT
open Go.Sy
set_option maxRecDepth 4000
def Tag.less (a b : Tag) : Bool := decide (a.cls < b.cls) || (decide (a.cls = b.cls) && decide (a.num < b.num))
def Tag.wrap (tags : List Tag) (number mode : Int) : List Tag × Int :=
  if number < 0 ∨ 268435456 < number ∨ (mode = 1 ∧ tags.length = 0) then ([], 12) else (⟨2, number⟩ :: (if mode = 1 then tags.drop 1 else tags), 0)

section
variable {tags : List Tag} {number mode : Int}
end

section
variable {α : Type} [DecidableEq α] {a b : List α}
end

section
variable {α : Type} {l : List (List α)} {k : Nat}
theorem flat_next (h : k < l.length) : (l.take (k + 1)).flatten.length = (l.take k).flatten.length + (l[k]'h).length := by
  rw [List.take_succ_eq_append_getElem h, List.flatten_append, List.length_append]
  have : ([l[k]'h] : List (List α)).flatten = l[k]'h := by simp
  rw [this]
theorem flat_app (h : k < l.length) : (l.take (k + 1)).flatten = (l.take k).flatten ++ l[k]'h := by
  rw [List.take_succ_eq_append_getElem h, List.flatten_append]
  have : ([l[k]'h] : List (List α)).flatten = l[k]'h := by simp
  rw [this]
theorem flat_le (k : Nat) : (l.take k).flatten.length ≤ l.flatten.length := by
  have : l.flatten = (l.take k).flatten ++ (l.drop k).flatten := by rw [← List.flatten_append, List.take_append_drop]
  rw [this]; simp
theorem flat_all (h : l.length ≤ k) : (l.take k).flatten = l.flatten := by rw [List.take_of_length_le h]
end

def layU (n : Int) : UInt64 := UInt64.ofNat (n % 18446744073709551616).toNat % UInt64.ofNat 268435457
def layN (ns : List Int) (i : Nat) : Int := (layU (ns.getD i 0)).toNat
def lay (ns : List Int) (ms : List Bool) : Nat → List Tag
  | 0 => [⟨0, 2⟩]
  | i + 1 => ⟨2, layN ns i⟩ :: (if ms[i]? = some true then (lay ns ms i).drop 1 else lay ns ms i)
section
variable {ns : List Int} {ms : List Bool} {i : Nat}
end

def Tag.apart (sets : List (List Tag)) : Bool := decide sets.flatten.Nodup
section
variable {l : List Tag} {x : Tag} {k : Nat}
end
section
variable {κ ν : Type} [DecidableEq κ]
theorem mget_isSome (m : List (κ × ν)) (x : κ) : (mget m x).isSome = decide (x ∈ m.map Prod.fst) := by
  induction m with
  | nil => rfl
  | cons p m ih =>
    unfold mget
    by_cases h : x = p.1
    · simp [h]
    · simp only [h, if_false, ih, List.map_cons, List.mem_cons, false_or]
theorem mget_miss {m : List (κ × ν)} {x : κ} (h : (mget m x).isSome = false) : mget m x = none := by
  cases hm : mget m x <;> simp [hm] at h ⊢
end
section
variable {sets : List (List Tag)} {k i : Nat} {x : Tag}
theorem flat_split (hk : k < sets.length) (hi : i < (sets[k]'hk).length) : ∃ r, sets.flatten = ((sets.take k).flatten ++ (sets[k]'hk).take i) ++ (sets[k]'hk)[i]'hi :: r := by
  refine ⟨(sets[k]'hk).drop (i + 1) ++ (sets.drop (k + 1)).flatten, ?_⟩
  have h1 : sets.flatten = (sets.take k).flatten ++ (sets.drop k).flatten := by rw [← List.flatten_append, List.take_append_drop]
  have h2 : sets.drop k = sets[k]'hk :: sets.drop (k + 1) := List.drop_eq_getElem_cons hk
  have h3 : sets[k]'hk = (sets[k]'hk).take i ++ (sets[k]'hk)[i]'hi :: (sets[k]'hk).drop (i + 1) := by
    rw [← List.drop_eq_getElem_cons hi, List.take_append_drop]
  have h4 : sets[k]'hk ++ (sets.drop (k + 1)).flatten = (sets[k]'hk).take i ++ (sets[k]'hk)[i]'hi :: ((sets[k]'hk).drop (i + 1) ++ (sets.drop (k + 1)).flatten) := by
    rw [← List.cons_append, ← List.append_assoc, ← h3]
  rw [h1, h2, List.flatten_cons, List.append_assoc, h4]
theorem dist_hit (hk : k < sets.length) (hi : i < (sets[k]'hk).length) (h : (sets[k]'hk)[i]'hi ∈ (sets.take k).flatten ++ (sets[k]'hk).take i) : false = Tag.apart sets := by
  obtain ⟨r, e⟩ := flat_split hk hi
  symm
  unfold Tag.apart
  rw [decide_eq_false_iff_not, e]
  intro hn
  exact (List.nodup_append.1 hn).2.2 _ h _ (List.mem_cons_self ..) rfl
theorem dist_next {l : List Tag} (h : l.Nodup) (hx : x ∉ l) : (l ++ [x]).Nodup := by
  rw [List.nodup_append]
  exact ⟨h, by simp, fun a ha b hb e => hx (by simp at hb; subst hb; subst e; exact ha)⟩
theorem dist_step (hk : k < sets.length) (hi : i < (sets[k]'hk).length) : ((sets.take k).flatten ++ (sets[k]'hk).take i) ++ [(sets[k]'hk)[i]'hi] = (sets.take k).flatten ++ (sets[k]'hk).take (i + 1) := by
  rw [List.take_succ_eq_append_getElem hi, List.append_assoc]
theorem dist_round (hk : k < sets.length) (hi : (sets[k]'hk).length ≤ i) : (sets.take k).flatten ++ (sets[k]'hk).take i = (sets.take (k + 1)).flatten := by
  rw [List.take_of_length_le hi, flat_app hk]
theorem dist_all (h : sets.length ≤ k) (hn : ((sets.take k).flatten).Nodup) : true = Tag.apart sets := by
  rw [List.take_of_length_le h] at hn
  simp [Tag.apart, hn]
end

section
variable {l : List Tag} {k : Nat}
end

section
variable {l : List Tag} {f z : Tag} {k : Nat}
end
theorem sl37 : SlB Tryz.prog 37 2 true = true := by kernel_rfl
theorem el37 : elB Tryz.prog 37 2 = true := by kernel_rfl
theorem ze66 : ZeroOk Tryz.prog 66 (Tag.zero : Tag) := Tag.zeroOk (by kernel_rfl)
theorem sl44 : SlB Tryz.prog 44 1 false = true := by kernel_rfl
theorem ty37 : TyB Tryz.prog 37 1 false = true := by kernel_rfl
theorem ap37_37 : appB Tryz.prog 37 37 2 = true := by kernel_rfl
theorem ty66 : TyB Tryz.prog 66 2 true = true := by kernel_rfl
theorem ze3 : ZeroOk Tryz.prog 3 (0 : Int) := ZeroOk.of (z := .int .i64 0) (by kernel_rfl) fun _ => isv_int.2 ⟨rfl, in_mk (by omega) (by omega)⟩
theorem key66 : KeyOk Tryz.prog 66 Tag := KeyOk.tag Tryz.underlying66 (by kernel_rfl) Tryz.underlying3
theorem grow_spec (n : Int) (h0 : 0 ≤ n) (h1 : n ≤ 68719476736) : Ctr Tryz.prog 145 [nilv, isv n] [] (fun R H => ∃ t, R = appv t ([] : List Tag) ∧ H = [tokE t]) := by
  refine spec_intro Tryz.func145 rfl (by decide +kernel) (by rfl) fun w0 S0 hT => ?_
  refine w_know (i := 1) rfl know_int' (fun hi1 => ?_)
  refine w_seq ?_
  refine w_region ?_
  refine op_cons rfl (OpV.t (v_assign rfl) ?_)
  refine rl_nil ?_
  refine fin_nxt ?_
  refine w_seq ?_
  refine w_seq ?_
  refine w_region ?_
  refine op_cons rfl (OpV.t (v_move rfl) ?_)
  refine op_cons rfl (OpV.t (v_lss rfl rfl) ?_)
  refine rl_nil ?_
  refine fin_nxt ?_
  refine w_cond rfl (fun h2b => ?_) (fun h2b => ?_)
  · have h2 := of_decide_eq_true h2b
    exfalso; omega
  · have h2 := of_decide_eq_false h2b
    refine w_skip ?_
    refine fin_nxt ?_
    refine w_seq ?_
    refine w_seq ?_
    refine w_region ?_
    refine op_cons rfl (OpV.t (v_move rfl) ?_)
    refine op_cons rfl (OpV.t (v_move rfl) ?_)
    refine op_cons rfl (OpV.t (v_capN sl37 rfl) ?_)
    refine op_cons rfl (OpV.t (v_move rfl) ?_)
    refine op_cons rfl (OpV.t (v_lenN sl37 rfl) ?_)
    refine op_cons rfl (OpV.t (v_sub rfl rfl (in_mk (by omega) (by omega))) ?_)
    refine op_cons rfl (OpV.t (v_sub rfl rfl (in_mk (by omega) (by omega))) ?_)
    refine op_cons rfl (OpV.t (v_assign rfl) ?_)
    refine rl_nil ?_
    refine fin_nxt ?_
    refine w_seq ?_
    refine w_region ?_
    refine op_cons rfl (OpV.t (v_move rfl) ?_)
    refine op_cons rfl (OpV.t (v_gtr rfl rfl) ?_)
    refine rl_nil ?_
    refine fin_nxt ?_
    refine w_cond rfl (fun h4b => ?_) (fun h4b => ?_)
    · have h4 := of_decide_eq_true h4b
      refine w_region ?_
      refine op_cons rfl (OpV.t (v_move rfl) ?_)
      refine op_cons rfl (OpV.t (v_move rfl) ?_)
      refine op_cons rfl (OpV.t (v_capN sl37 rfl) ?_)
      refine op_cons rfl (OpV.t (v_sliceNil sl37 rfl rfl) ?_)
      refine op_cons rfl (OpV.t (v_move rfl) ?_)
      refine op_cons rfl (t_appendZ el37 Tryz.underlying3 ze66 Tryz.underlying37 (by kernel_rfl) rfl rfl (by omega) (by omega) (fun b5 cap6 hcap6 => ?_))
      refine op_cons rfl (OpV.t (v_move rfl) ?_)
      refine op_cons rfl (OpV.t (v_lenN sl37 rfl) ?_)
      refine op_cons rfl (OpV.t (v_sliceArr sl37 rfl rfl (by omega) (by omega)) ?_)
      refine op_cons rfl (OpV.t (v_assign rfl) ?_)
      refine rl_nil ?_
      refine fin_nxt ?_
      refine w_seq ?_
      refine w_region ?_
      refine op_cons rfl (OpV.t (v_move rfl) ?_)
      refine op_cons rfl (OpV.t (v_assign rfl) ?_)
      refine rl_nil ?_
      refine fin_nxt ?_
      refine w_commit (α := Tag) (l := List.replicate _ _) (i := 4) .here rfl (by simp) (by simp) (by simp [maxList]) (fun tg => ?_)
      refine w_ret ?_
      refine ret_post (.tmp rfl .nil) (.cons .here .nil) ?_
      exact ⟨_, rfl, rfl⟩
    · have h4 := of_decide_eq_false h4b
      refine w_skip ?_
      refine fin_nxt ?_
      refine w_seq ?_
      refine w_region ?_
      refine op_cons rfl (OpV.t (v_move rfl) ?_)
      refine op_cons rfl (OpV.t (v_assign rfl) ?_)
      refine rl_nil ?_
      refine fin_nxt ?_
      refine w_none ?_
      refine w_imp (slots_one (i := 4) rfl (nilv_appv (α := Tag))) ?_
      refine w_ret ?_
      refine ret_post (.tmp rfl .nil) (.cons .here .nil) ?_
      exact ⟨_, rfl, rfl⟩

theorem concat_spec (ls : List (List Tag)) (hb : ls.flatten.length ≤ 1000000) : Ctr Tryz.prog 134 [isv ls] [] (pureP ls.flatten) := by
  refine spec_intro Tryz.func134 rfl (by decide +kernel) (by rfl) fun w0 S0 hT => ?_
  refine w_know (i := 0) rfl know_len' (fun hl0 => ?_)
  refine w_seq ?_
  refine w_region ?_
  refine op_cons rfl (OpV.t (v_assign rfl) ?_)
  refine rl_nil ?_
  refine fin_nxt ?_
  refine w_seq ?_
  refine w_region ?_
  refine op_cons rfl (OpV.t (v_assign rfl) ?_)
  refine rl_nil ?_
  refine fin_nxt ?_
  refine w_seq ?_
  refine w_seq ?_
  refine w_region ?_
  refine op_cons rfl (OpV.t (v_move rfl) ?_)
  refine op_cons rfl (OpV.t (v_len sl44 rfl) ?_)
  refine op_cons rfl (OpV.t (v_move rfl) ?_)
  refine rl_nil ?_
  refine fin_nxt ?_
  refine w_block ?_
  refine w_loopOn (ι := Nat) (fun k => k ≤ ls.length) (fun k => [(3, isv ((ls.take k).flatten.length : Int)), (11, isv (k : Int))]) (fun _ => []) (fun k => ls.length - k) (0) ?_ .nil (mod_eq (j := 3) rfl (by first | rfl | (have := flat_next (l := ls) (k := k) (by omega); omega)) (mod_eq (j := 11) rfl (by first | rfl | omega) mod_nil)) (fun k hI => ?_)
  · exact Nat.zero_le _
  refine w_seq ?_
  refine w_region ?_
  refine op_cons rfl (OpV.t (v_lss rfl rfl) ?_)
  refine rl_nil ?_
  refine fin_nxt ?_
  refine w_seq ?_
  refine w_cond rfl (fun h2b => ?_) (fun h2b => ?_)
  · have h2 := of_decide_eq_true h2b
    refine w_skip ?_
    refine fin_nxt ?_
    refine w_seq ?_
    refine w_block ?_
    refine w_seq ?_
    refine w_region ?_
    refine op_cons rfl (OpV.t (v_indexAddr (ls[k]'(by omega)) sl44 rfl rfl (by omega) (List.getElem?_eq_getElem (by omega))) ?_)
    refine op_cons rfl (OpV.t (v_loadI ty37 rfl) ?_)
    refine op_cons rfl (OpV.t (v_assign rfl) ?_)
    refine rl_nil ?_
    refine fin_nxt ?_
    refine w_seq ?_
    refine w_region ?_
    refine op_cons rfl (OpV.t (v_move rfl) ?_)
    refine op_cons rfl (OpV.t (v_move rfl) ?_)
    refine op_cons rfl (OpV.t (v_len sl37 rfl) ?_)
    refine op_cons rfl (OpV.t (v_add rfl rfl ((by have := flat_next (l := ls) (k := k) (by omega); have := flat_le (l := ls) (k + 1); exact in_mk (by omega) (by omega)))) ?_)
    refine op_cons rfl (OpV.t (v_assign rfl) ?_)
    refine rl_nil ?_
    refine fin_nxt ?_
    refine w_seq ?_
    refine w_region ?_
    refine op_cons rfl (OpV.t (v_move rfl) ?_)
    refine op_cons rfl (OpV.t (v_lss rfl rfl) ?_)
    refine rl_nil ?_
    refine fin_nxt ?_
    refine w_cond rfl (fun h4b => ?_) (fun h4b => ?_)
    · have h4 := of_decide_eq_true h4b
      exfalso; omega
    · have h4 := of_decide_eq_false h4b
      refine w_skip ?_
      refine fin_block ?_
      refine fin_nxt ?_
      refine w_region ?_
      refine op_cons rfl (OpV.t (v_add rfl rfl (in_mk (by omega) (by omega))) ?_)
      refine op_cons rfl (OpV.t (v_move rfl) ?_)
      refine rl_nil ?_
      refine fin_loopOn (k + 1) ?_ ?_ 15 rfl rfl (mod_eq (j := 3) rfl (by first | rfl | (have := flat_next (l := ls) (k := k) (by omega); omega)) (mod_eq (j := 11) rfl (by first | rfl | omega) mod_nil)) .nil
      · omega
      · omega
  · have h2 := of_decide_eq_false h2b
    refine w_exit ?_
    refine exi_nxt ?_
    refine exi_loop ?_
    refine exi_block ?_
    refine fin_nxt ?_
    refine w_seq ?_
    have hfl := flat_le (l := ls) k
    refine w_region ?_
    refine op_cons rfl (OpV.t (v_move rfl) ?_)
    refine op_cons rfl (t_call (grow_spec _ (by omega) (by omega)) hT (.same rfl (.same rfl .nil)) .nil (fun R H' hR => ?_))
    revert R H'; rintro _ _ ⟨tg, rfl, rfl⟩
    refine op_cons rfl (OpV.t (v_assign rfl) ?_)
    refine rl_nil ?_
    refine fin_nxt ?_
    refine w_seq ?_
    refine w_seq ?_
    refine w_region ?_
    refine op_cons rfl (OpV.t (v_move rfl) ?_)
    refine op_cons rfl (OpV.t (v_len sl44 rfl) ?_)
    refine op_cons rfl (OpV.t (v_move rfl) ?_)
    refine rl_nil ?_
    refine fin_nxt ?_
    refine w_block ?_
    refine w_loopOn (ι := Nat × Tok) (fun p => p.1 ≤ ls.length) (fun p => [(6, appv p.2 (ls.take p.1).flatten), (27, isv (p.1 : Int))]) (fun p => [tokE p.2]) (fun p => ls.length - p.1) ((0, tg)) ?_ (.cons .here .nil) (mod_app (j := 6) rfl (by first | rfl | exact (flat_app (by omega)).symm) (mod_eq (j := 27) rfl (by first | rfl | (simp; done) | (simp; omega)) mod_nil)) (fun p hI => ?_)
    · exact Nat.zero_le _
    refine w_seq ?_
    refine w_region ?_
    refine op_cons rfl (OpV.t (v_lss rfl rfl) ?_)
    refine rl_nil ?_
    refine fin_nxt ?_
    refine w_seq ?_
    refine w_cond rfl (fun h6b => ?_) (fun h6b => ?_)
    · have h6 := of_decide_eq_true h6b
      refine w_skip ?_
      refine fin_nxt ?_
      refine w_seq ?_
      refine w_block ?_
      refine w_seq ?_
      refine w_region ?_
      refine op_cons rfl (OpV.t (v_indexAddr (ls[p.1]'(by omega)) sl44 rfl rfl (by omega) (List.getElem?_eq_getElem (by omega))) ?_)
      refine op_cons rfl (OpV.t (v_loadI ty37 rfl) ?_)
      refine op_cons rfl (OpV.t (v_assign rfl) ?_)
      refine rl_nil ?_
      refine fin_nxt ?_
      refine w_region ?_
      refine op_cons rfl (OpV.t (v_move rfl) ?_)
      refine op_cons rfl (OpV.t (v_move rfl) ?_)
      refine op_cons rfl (t_append ap37_37 rfl rfl (.inr rfl) (.cons .here .nil) ((by have := flat_next (l := ls) (k := p.1) (by omega); have := flat_le (l := ls) (p.1 + 1); omega)) (fun t7 => ?_))
      refine op_cons rfl (OpV.t (v_assign rfl) ?_)
      refine rl_nil ?_
      refine fin_block ?_
      refine fin_nxt ?_
      refine w_region ?_
      refine op_cons rfl (OpV.t (v_add rfl rfl (in_mk (by omega) (by omega))) ?_)
      refine op_cons rfl (OpV.t (v_move rfl) ?_)
      refine rl_nil ?_
      refine fin_loopOn ((p.1 + 1, t7)) ?_ ?_ 12 rfl rfl (mod_app (j := 6) rfl (by first | rfl | exact (flat_app (by omega)).symm) (mod_eq (j := 27) rfl (by first | rfl | (simp; done) | (simp; omega)) mod_nil)) (.cons .here .nil)
      · simp only; omega
      · simp only; omega
    · have h6 := of_decide_eq_false h6b
      refine w_exit ?_
      refine exi_nxt ?_
      refine exi_loop ?_
      refine exi_block ?_
      refine fin_nxt ?_
      refine w_seq ?_
      refine w_region ?_
      refine op_cons rfl (OpV.t (v_move rfl) ?_)
      refine op_cons rfl (OpV.t (v_assign rfl) ?_)
      refine rl_nil ?_
      refine fin_nxt ?_
      refine w_ret ?_
      refine ret_post (.as rfl appv_isv .nil) .nil ?_
      exact pure1 (flat_all (by omega))

theorem dist_spec (sets : List (List Tag)) : Ctr Tryz.prog 144 [isv sets] [] (pureP (Tag.apart sets)) := by
  refine spec_intro Tryz.func144 rfl (by decide +kernel) (by rfl) fun w0 S0 hT => ?_
  refine w_know (i := 0) rfl know_len' (fun hl0 => ?_)
  refine w_seq ?_
  refine w_region ?_
  refine op_cons rfl (OpV.t (v_assign rfl) ?_)
  refine rl_nil ?_
  refine fin_nxt ?_
  refine w_seq ?_
  refine w_region ?_
  refine op_cons rfl (t_makeMap Tag Int (fun b1 => ?_))
  refine op_cons rfl (OpV.t (v_assign rfl) ?_)
  refine rl_nil ?_
  refine fin_nxt ?_
  refine w_seq ?_
  refine w_seq ?_
  refine w_region ?_
  refine op_cons rfl (OpV.t (v_move rfl) ?_)
  refine op_cons rfl (OpV.t (v_len sl44 rfl) ?_)
  refine op_cons rfl (OpV.t (v_move rfl) ?_)
  refine rl_nil ?_
  refine fin_nxt ?_
  refine w_block ?_
  refine w_loopOn (ι := Nat × List (Tag × Int)) (fun p => p.1 ≤ sets.length ∧ p.2.map Prod.fst = (sets.take p.1).flatten ∧ (p.2.map Prod.fst).Nodup) (fun p => [(2, anyv), (13, isv (p.1 : Int))]) (fun p => [mapE b1 p.2]) (fun p => sets.length - p.1) ((0, [])) ?_ (.cons .here .nil) (mod_cons (j := 2) rfl (fun _ _ _ => trivial) (mod_eq (j := 13) rfl (by first | rfl | (simp; done) | (simp; omega)) mod_nil)) (fun p hI => ?_)
  · exact ⟨Nat.zero_le _, by simp, by simp⟩
  refine w_seq ?_
  refine w_region ?_
  refine op_cons rfl (OpV.t (v_lss rfl rfl) ?_)
  refine rl_nil ?_
  refine fin_nxt ?_
  refine w_seq ?_
  refine w_cond rfl (fun h3b => ?_) (fun h3b => ?_)
  · have h3 := of_decide_eq_true h3b
    have hk : p.1 < sets.length := by have hh := h3; omega
    refine w_skip ?_
    refine fin_nxt ?_
    refine w_seq ?_
    refine w_block ?_
    refine w_seq ?_
    refine w_region ?_
    refine op_cons rfl (OpV.t (v_move rfl) ?_)
    refine op_cons rfl (OpV.t (v_indexAddr (sets[p.1]'hk) sl44 rfl rfl (by omega) (List.getElem?_eq_getElem hk)) ?_)
    refine op_cons rfl (OpV.t (v_loadI ty37 rfl) ?_)
    refine op_cons rfl (OpV.t (v_assign rfl) ?_)
    refine op_cons rfl (OpV.t (v_assign rfl) ?_)
    refine rl_nil ?_
    refine fin_nxt ?_
    refine w_seq ?_
    refine w_know (i := 5) rfl know_len' (fun hl5 => ?_)
    refine w_region ?_
    refine op_cons rfl (OpV.t (v_move rfl) ?_)
    refine op_cons rfl (OpV.t (v_len sl37 rfl) ?_)
    refine op_cons rfl (OpV.t (v_move rfl) ?_)
    refine rl_nil ?_
    refine fin_nxt ?_
    refine w_block ?_
    refine w_loopOn (ι := Nat × List (Tag × Int)) (fun q => q.1 ≤ (sets[p.1]'hk).length ∧ q.2.map Prod.fst = (sets.take p.1).flatten ++ (sets[p.1]'hk).take q.1 ∧ (q.2.map Prod.fst).Nodup) (fun q => [(2, anyv), (20, isv (q.1 : Int))]) (fun q => [mapE b1 q.2]) (fun q => (sets[p.1]'hk).length - q.1) ((0, p.2)) ?_ (.cons .here .nil) (mod_cons (j := 2) rfl (fun _ _ _ => trivial) (mod_eq (j := 20) rfl (by first | rfl | (simp; done) | (simp; omega)) mod_nil)) (fun q hI => ?_)
    · exact ⟨Nat.zero_le _, by simpa using hI.2.1, hI.2.2⟩
    have hJ := hI
    refine w_seq ?_
    refine w_region ?_
    refine op_cons rfl (OpV.t (v_lss rfl rfl) ?_)
    refine rl_nil ?_
    refine fin_nxt ?_
    refine w_seq ?_
    refine w_cond rfl (fun h5b => ?_) (fun h5b => ?_)
    · have h5 := of_decide_eq_true h5b
      have hq : q.1 < (sets[p.1]'hk).length := by have hh := h5; omega
      refine w_skip ?_
      refine fin_nxt ?_
      refine w_seq ?_
      refine w_block ?_
      refine w_seq ?_
      refine w_region ?_
      refine op_cons rfl (OpV.t (v_indexAddr ((sets[p.1]'hk)[q.1]'hq) sl37 rfl rfl (by omega) (List.getElem?_eq_getElem hq)) ?_)
      refine op_cons rfl (OpV.t (v_loadI ty66 rfl) ?_)
      refine op_cons rfl (t_alloc _ ze66 (fun b6 => ?_))
      refine op_cons rfl (t_store ty66 rfl rfl .here ?_)
      refine rl_nil ?_
      refine fin_nxt ?_
      refine w_seq ?_
      refine w_seq ?_
      refine w_region ?_
      refine op_cons rfl (OpV.t (v_move rfl) ?_)
      refine op_cons rfl (t_load ty66 rfl .here ?_)
      refine op_cons rfl (t_lookupOk Tryz.underlying213 key66 ze3 rfl rfl (.there .here) ?_)
      refine op_cons rfl (OpV.t (v_move rfl) ?_)
      refine op_cons rfl (OpV.t (v_extract rfl rfl) ?_)
      refine op_cons rfl (OpV.t (v_extract rfl rfl) ?_)
      refine op_cons rfl (OpV.t (v_assign rfl) ?_)
      refine op_cons rfl (OpV.t (v_assign rfl) ?_)
      refine rl_nil ?_
      refine fin_nxt ?_
      refine w_seq ?_
      refine w_region ?_
      refine op_cons rfl (OpV.t (v_move rfl) ?_)
      refine rl_nil ?_
      refine fin_nxt ?_
      refine w_cond rfl (fun h8b => ?_) (fun h8b => ?_)
      · have h8 := h8b
        have hin : (sets[p.1]'hk)[q.1]'hq ∈ (sets.take p.1).flatten ++ (sets[p.1]'hk).take q.1 := by have hh := h8; rw [mget_isSome] at hh; rw [← hJ.2.1]; exact of_decide_eq_true hh
        refine w_seq ?_
        refine w_region ?_
        refine op_cons rfl (OpV.t (v_assign rfl) ?_)
        refine rl_nil ?_
        refine fin_nxt ?_
        refine w_ret ?_
        refine ret_nxt ?_
        refine ret_block ?_
        refine ret_nxt ?_
        refine ret_loop ?_
        refine ret_block ?_
        refine ret_block ?_
        refine ret_nxt ?_
        refine ret_loop ?_
        refine ret_block ?_
        refine ret_nxt ?_
        refine ret_post (.tmp rfl .nil) .nil ?_
        first | exact pure1 (dist_hit hk hq hin) | exact pure1 (dist_all (k := p.1) (by omega) (by have := hI.2.2; rw [hI.2.1] at this; exact this))
      · have h8 := h8b
        have hno := mget_miss h8
        have hmiss : (sets[p.1]'hk)[q.1]'hq ∉ q.2.map Prod.fst := by have hh := h8; rw [mget_isSome] at hh; exact of_decide_eq_false hh
        refine w_skip ?_
        refine fin_nxt ?_
        refine w_region ?_
        refine op_cons rfl (OpV.t (v_move rfl) ?_)
        refine op_cons rfl (t_load ty66 rfl .here ?_)
        refine op_cons rfl (OpV.t (v_move rfl) ?_)
        refine op_cons rfl (t_mapAdd Tryz.underlying213 key66 rfl rfl rfl (.there .here) (hno) ?_)
        refine rl_nil ?_
        refine fin_block ?_
        refine fin_nxt ?_
        refine w_region ?_
        refine op_cons rfl (OpV.t (v_add rfl rfl (in_mk (by omega) (by omega))) ?_)
        refine op_cons rfl (OpV.t (v_move rfl) ?_)
        refine rl_nil ?_
        refine fin_loopOn ((q.1 + 1, q.2 ++ [((sets[p.1]'hk)[q.1]'hq, (p.1 : Int))])) ?_ ?_ 20 rfl rfl (mod_cons (j := 2) rfl (fun _ _ _ => trivial) (mod_eq (j := 20) rfl (by first | rfl | (simp; done) | (simp; omega)) mod_nil)) (.cons .here .nil)
        · exact ⟨by simp only; omega, by rw [List.map_append, hJ.2.1]; exact dist_step hk hq, by rw [List.map_append]; exact dist_next hJ.2.2 hmiss⟩
        · simp only; omega
    · have h5 := of_decide_eq_false h5b
      refine w_exit ?_
      refine exi_nxt ?_
      refine exi_loop ?_
      refine exi_block ?_
      refine fin_block ?_
      refine fin_nxt ?_
      refine w_region ?_
      refine op_cons rfl (OpV.t (v_add rfl rfl (in_mk (by omega) (by omega))) ?_)
      refine op_cons rfl (OpV.t (v_move rfl) ?_)
      refine rl_nil ?_
      refine fin_loopOn ((p.1 + 1, q.2)) ?_ ?_ 16 rfl rfl (mod_cons (j := 2) rfl (fun _ _ _ => trivial) (mod_eq (j := 13) rfl (by first | rfl | (simp; done) | (simp; omega)) mod_nil)) (.cons .here .nil)
      · exact ⟨by simp only; omega, by have := hJ.2.1; rw [dist_round hk (by omega)] at this; exact this, hJ.2.2⟩
      · simp only; omega
  · have h3 := of_decide_eq_false h3b
    refine w_exit ?_
    refine exi_nxt ?_
    refine exi_loop ?_
    refine exi_block ?_
    refine fin_nxt ?_
    refine w_seq ?_
    refine w_region ?_
    refine op_cons rfl (OpV.t (v_assign rfl) ?_)
    refine rl_nil ?_
    refine fin_nxt ?_
    refine w_ret ?_
    refine ret_post (.tmp rfl .nil) .nil ?_
    first | exact pure1 (dist_hit hk hq hin) | exact pure1 (dist_all (k := p.1) (by omega) (by have := hI.2.2; rw [hI.2.1] at this; exact this))
end Go.Proofs.YtiibmpdjkdjbiaaGreatDoor.GT
namespace Go.Proofs.YtiibmpdjkdjbiaaGreatDoor
open Go.Sy
theorem slices_Concat_Lapi_Tag_api_Tag_w : ∀ {a_slices : (List (List Tag))} {r : (List Tag)}, slices_Concat_Lapi_Tag_api_Tag a_slices = some r → Ctr Tryz.prog 134 [isv (a_slices)] [] (fun R H => R = oneOf [isv (r)] ∧ H = []) := by
  intro a r h
  unfold slices_Concat_Lapi_Tag_api_Tag at h
  cases hb : Nat.ble a.flatten.length 1000000 with
  | false => rw [hb] at h; cases h
  | true =>
    rw [hb] at h
    obtain rfl := Option.some.inj h
    exact GT.concat_spec a (Nat.le_of_ble_eq_true hb)
theorem tags_Distinct_w : ∀ {a_sets : (List (List Tag))} {r : Bool}, tags_Distinct a_sets = some r → Ctr Tryz.prog 144 [isv (a_sets)] [] (fun R H => R = oneOf [isv (r)] ∧ H = []) := by
  intro a r h
  obtain rfl := Option.some.inj h
  exact GT.dist_spec a
end Go.Proofs.YtiibmpdjkdjbiaaGreatDoor


namespace Go.Proofs.YtiibmpdjkdjbiaaGreatDoor
open Go.Sy
def valRen : Shelf.Ren := ⟨fun x => bif Nat.beq x 196 then 98 else bif Nat.beq x 259 then 119 else x, fun x => bif Nat.beq x 0 then 0 else bif Nat.beq x 3 then 3 else bif Nat.beq x 4 then 4 else bif Nat.beq x 5 then 5 else bif Nat.beq x 9 then 9 else bif Nat.beq x 12 then 12 else bif Nat.beq x 46 then 59 else bif Nat.beq x 53 then 58 else bif Nat.beq x 119 then 185 else bif Nat.beq x 138 then 187 else bif Nat.beq x 139 then 188 else x, fun x => bif Nat.beq x 3 then 0 else bif Nat.beq x 4 then 1 else x⟩
set_option maxRecDepth 100000 in
theorem valLays : Lays.n196 Tryz.prog valRen := {
  mixed := by kernel_rfl
  f196 := Tryz.func98.trans (by kernel_rfl)
  f259 := Tryz.func119.trans (by kernel_rfl)
  t0 := Tryz.underlying0
  a0 := Tryz.isAgg0
  z0 := Tryz.sizeOf0
  v0 := Tryz.zeroValue0
  t3 := Tryz.underlying3
  a3 := Tryz.isAgg3
  z3 := Tryz.sizeOf3
  v3 := Tryz.zeroValue3
  t4 := Tryz.underlying4
  a4 := Tryz.isAgg4
  z4 := Tryz.sizeOf4
  v4 := Tryz.zeroValue4
  t5 := Tryz.underlying5
  a5 := Tryz.isAgg5
  z5 := Tryz.sizeOf5
  v5 := Tryz.zeroValue5
  t9 := Tryz.underlying9
  a9 := Tryz.isAgg9
  z9 := Tryz.sizeOf9
  v9 := Tryz.zeroValue9
  t12 := Tryz.underlying12
  a12 := Tryz.isAgg12
  z12 := Tryz.sizeOf12
  v12 := Tryz.zeroValue12
  t46 := Tryz.underlying59
  a46 := Tryz.isAgg59
  z46 := Tryz.sizeOf59
  v46 := Tryz.zeroValue59
  t53 := Tryz.underlying58
  a53 := Tryz.isAgg58
  z53 := Tryz.sizeOf58
  v53 := Tryz.zeroValue58
  t119 := Tryz.underlying185
  a119 := Tryz.isAgg185
  z119 := Tryz.sizeOf185
  t138 := Tryz.underlying187
  a138 := Tryz.isAgg187
  z138 := Tryz.sizeOf187
  v138 := Tryz.zeroValue187
  t139 := Tryz.underlying188
  a139 := Tryz.isAgg188
  z139 := Tryz.sizeOf188
  v139 := Tryz.zeroValue188
  g3 := by kernel_rfl
  g4 := by kernel_rfl }
theorem utf8_ValidString_w : ∀ {a_s : Str} {r : Bool}, utf8_ValidString a_s = some r → Ctr Tryz.prog 98 [isv (a_s)] [] (fun R H => R = oneOf [isv (r)] ∧ H = []) := by
  intro s r h
  obtain rfl := Option.some.inj h
  refine ⟨⟨_, Tryz.func98, rfl, by decide +kernel⟩, fun S w vs hT hs hv ho => ?_⟩
  match vs, hv with
  | [v], ⟨hv, _⟩ =>
    obtain ⟨rfl, hl⟩ := isv_str.1 hv
    have hb := Any.utf8_ValidString valLays s.ba w (by rw [Str.ba_size]; unfold maxText at hl; omega) (hT w hs _ _ valLays.g3 valLays.g4)
    refine hb.mono fun e w' ⟨he, hk⟩ => ⟨.bool (Lib.validD s.ba.data.toList), S, _, [], ⟨rfl, rfl⟩, he, ?_, ⟨⟨hk.os, hk.tape, hk.output, hk.size, fun k hk' _ => hk.block k hk'⟩, Go.Sy.Grow.refl _ _ _, fun b cs hb => ?_⟩, owns_nil _ _ _ _⟩
    · refine isv_bool.2 ?_
      show Value.bool (Lib.validD s.b.toArray.toList) = _
      rfl
    · obtain ⟨c, T, fr, h1, h2⟩ := hs b cs hb
      exact ⟨c, T, fr, by rw [hk.block b (Array.getElem?_eq_some_iff.1 h1).1]; exact h1, h2⟩
end Go.Proofs.YtiibmpdjkdjbiaaGreatDoor


namespace Go.Proofs.YtiibmpdjkdjbiaaGreatDoor
open Go.Sy
set_option maxRecDepth 4000
@[reducible] def pt84_0_0 : Fld ((List GTok) × Int × (Str × Int × (TList Str) × (TList Int) × Vh) × Int × Int) (List GTok) := pf0
@[reducible] def pt84_0_1 : Fld ((List GTok) × Int × (Str × Int × (TList Str) × (TList Int) × Vh) × Int × Int) Int := pf1
@[reducible] def pt84_0_3 : Fld ((List GTok) × Int × (Str × Int × (TList Str) × (TList Int) × Vh) × Int × Int) Int := pf3
@[reducible] def pt84_0_4 : Fld ((List GTok) × Int × (Str × Int × (TList Str) × (TList Int) × Vh) × Int × Int) Int := pl4
@[reducible] def pt84_0_2 : Fld ((List GTok) × Int × (Str × Int × (TList Str) × (TList Int) × Vh) × Int × Int) (Str × Int × (TList Str) × (TList Int) × Vh) := pf2
@[reducible] def pt26_0_0 : Fld (Str × Int × (TList Str) × (TList Int) × Vh) Str := pf0
@[reducible] def pt26_0_1 : Fld (Str × Int × (TList Str) × (TList Int) × Vh) Int := pf1
@[reducible] def pt26_0_2 : Fld (Str × Int × (TList Str) × (TList Int) × Vh) (TList Str) := pf2
@[reducible] def pt26_0_4 : Fld (Str × Int × (TList Str) × (TList Int) × Vh) Vh := pl4
@[reducible] def pt120_0_2 : Fld (Int × Str × GMark × GCon × (TList GItem) × (TList GFld) × Int × Bool × Int) GMark := pf2
@[reducible] def pt120_0_0 : Fld (Int × Str × GMark × GCon × (TList GItem) × (TList GFld) × Int × Bool × Int) Int := pf0
@[reducible] def pt120_0_3 : Fld (Int × Str × GMark × GCon × (TList GItem) × (TList GFld) × Int × Bool × Int) GCon := pf3
@[reducible] def pt120_0_4 : Fld (Int × Str × GMark × GCon × (TList GItem) × (TList GFld) × Int × Bool × Int) (TList GItem) := pf4
@[reducible] def pt120_0_7 : Fld (Int × Str × GMark × GCon × (TList GItem) × (TList GFld) × Int × Bool × Int) Bool := pf7
@[reducible] def pt120_0_6 : Fld (Int × Str × GMark × GCon × (TList GItem) × (TList GFld) × Int × Bool × Int) Int := pf6
@[reducible] def pt120_0_5 : Fld (Int × Str × GMark × GCon × (TList GItem) × (TList GFld) × Int × Bool × Int) (TList GFld) := pf5
@[reducible] def pt120_0_8 : Fld (Int × Str × GMark × GCon × (TList GItem) × (TList GFld) × Int × Bool × Int) Int := pl8
@[reducible] def pt120_0_1 : Fld (Int × Str × GMark × GCon × (TList GItem) × (TList GFld) × Int × Bool × Int) Str := pf1
@[reducible] def pt26_0_3 : Fld (Str × Int × (TList Str) × (TList Int) × Vh) (TList Int) := pf3
@[reducible] def pt84_1_2 : Fld ((List GTok) × Int × (Str × Int × (TList Str) × (TList Int) × (List GNode)) × Int × Int) (Str × Int × (TList Str) × (TList Int) × (List GNode)) := pf2
theorem ze26 : ZeroOk Tryz.prog 26 ((GMod.mk (Str.mk []) (0 : Int) ([] : (List Str)) ([] : (List Int)) ([] : (List GNode))) : GMod) := zero_agg (cs := [.string ⟨#[]⟩, .int .i64 0, .slice none 0 0, .slice none 0 0, .slice none 0 0]) rfl (by kernel_rfl) (zr_pair zr_str (zr_pair zr_int (zr_pair zr_list (zr_pair zr_list zr_list))))
theorem st9 : StrB Tryz.prog 9 = true := by kernel_rfl
theorem eq5 : EqOk Tryz.prog 5 UInt8 := EqOk.u8
theorem fd88_2 : FldB Tryz.prog 88 2 2 1 false = true := by kernel_rfl
theorem bu88 : BuildB Tryz.prog 88 = true := by kernel_rfl
theorem ze88 : ZeroOk Tryz.prog 88 ((GTok.mk (0 : Int) (Str.mk []) (0 : Int)) : GTok) := zero_agg (cs := [.int .i64 0, .string ⟨#[]⟩, .int .i64 0]) rfl (by kernel_rfl) (zr_pair zr_int (zr_pair zr_str zr_int))
theorem el79 : elB Tryz.prog 79 3 = true := by kernel_rfl
theorem ap79_79 : appB Tryz.prog 79 79 3 = true := by kernel_rfl
theorem ty88 : TyB Tryz.prog 88 3 true = true := by kernel_rfl
theorem moOrd : Tryz.prog.follows .mixedOrders = true := by kernel_rfl
theorem fd88_0 : FldB Tryz.prog 88 0 0 1 false = true := by kernel_rfl
theorem ty3 : TyB Tryz.prog 3 1 false = true := by kernel_rfl
theorem fd88_1 : FldB Tryz.prog 88 1 1 1 false = true := by kernel_rfl
theorem ty9 : TyB Tryz.prog 9 1 false = true := by kernel_rfl
theorem el22 : elB Tryz.prog 22 1 = true := by kernel_rfl
theorem sl22 : SlB Tryz.prog 22 1 false = true := by kernel_rfl
theorem eq9 : EqOk Tryz.prog 9 Str := EqOk.str
theorem bu26 : BuildB Tryz.prog 26 = true := by kernel_rfl
theorem ty26 : TyB Tryz.prog 26 5 true = true := by kernel_rfl
theorem fd84_0 : FldB Tryz.prog 84 0 0 1 false = true := by kernel_rfl
theorem bu84 : BuildB Tryz.prog 84 = true := by kernel_rfl
theorem zt84_0 : ZeroOk Tryz.prog 84 ((([] : (List GTok)), (0 : Int), ((Str.mk []), (0 : Int), (TList.mk none ([] : (List Str))), (TList.mk none ([] : (List Int))), (Vh.mk none 0)), (0 : Int), (0 : Int)) : ((List GTok) × Int × (Str × Int × (TList Str) × (TList Int) × Vh) × Int × Int)) := zero_agg (cs := [.slice none 0 0, .int .i64 0, .string ⟨#[]⟩, .int .i64 0, .slice none 0 0, .slice none 0 0, .slice none 0 0, .int .i64 0, .int .i64 0]) rfl (by kernel_rfl) (zr_pair zr_list (zr_pair zr_int (zr_pair (zr_pair zr_str (zr_pair zr_int (zr_pair zr_tl (zr_pair zr_tl zr_vh)))) (zr_pair zr_int zr_int))))
theorem ty79 : TyB Tryz.prog 79 1 false = true := by kernel_rfl
theorem fd84_1 : FldB Tryz.prog 84 1 1 1 false = true := by kernel_rfl
theorem sl79 : SlB Tryz.prog 79 3 true = true := by kernel_rfl
theorem fd84_3 : FldB Tryz.prog 84 3 7 1 false = true := by kernel_rfl
theorem ty27 : TyB Tryz.prog 27 1 false = true := by kernel_rfl
theorem fd84_4 : FldB Tryz.prog 84 4 8 1 false = true := by kernel_rfl
theorem fd84_2 : FldB Tryz.prog 84 2 2 5 true = true := by kernel_rfl
theorem fd26_0 : FldB Tryz.prog 26 0 0 1 false = true := by kernel_rfl
theorem fd26_1 : FldB Tryz.prog 26 1 1 1 false = true := by kernel_rfl
theorem fd26_2 : FldB Tryz.prog 26 2 2 1 false = true := by kernel_rfl
theorem ty22 : TyB Tryz.prog 22 1 false = true := by kernel_rfl
theorem fd26_4 : FldB Tryz.prog 26 4 4 1 false = true := by kernel_rfl
theorem ty24 : TyB Tryz.prog 24 1 false = true := by kernel_rfl
theorem sl24 : SlB Tryz.prog 24 16 true = true := by kernel_rfl
theorem bu120 : BuildB Tryz.prog 120 = true := by kernel_rfl
theorem ze120 : ZeroOk Tryz.prog 120 ((GNode.mk (0 : Int) (Str.mk []) (GMark.mk false (0 : Int) (0 : Int)) (GCon.mk false false false false (0 : Int) (0 : Int)) ([] : (List GItem)) ([] : (List GFld)) (0 : Int) false (0 : Int)) : GNode) := zero_agg (cs := [.int .i64 0, .string ⟨#[]⟩, .bool false, .int .i64 0, .int .i64 0, .bool false, .bool false, .bool false, .bool false, .int .i64 0, .int .i64 0, .slice none 0 0, .slice none 0 0, .int .i64 0, .bool false, .int .i64 0]) rfl (by kernel_rfl) (zr_pair zr_int (zr_pair zr_str (zr_pair (zr_pair zr_bool (zr_pair zr_int zr_int)) (zr_pair (zr_pair zr_bool (zr_pair zr_bool (zr_pair zr_bool (zr_pair zr_bool (zr_pair zr_int zr_int))))) (zr_pair zr_list (zr_pair zr_list (zr_pair zr_int (zr_pair zr_bool zr_int))))))))
theorem el24 : elB Tryz.prog 24 16 = true := by kernel_rfl
theorem ap24_24 : appB Tryz.prog 24 24 16 = true := by kernel_rfl
theorem zt120_1 : ZeroOk Tryz.prog 120 (((0 : Int), (Str.mk []), (GMark.mk false (0 : Int) (0 : Int)), (GCon.mk false false false false (0 : Int) (0 : Int)), (TList.mk none ([] : (List GItem))), (TList.mk none ([] : (List GFld))), (0 : Int), false, (0 : Int)) : (Int × Str × GMark × GCon × (TList GItem) × (TList GFld) × Int × Bool × Int)) := zero_agg (cs := [.int .i64 0, .string ⟨#[]⟩, .bool false, .int .i64 0, .int .i64 0, .bool false, .bool false, .bool false, .bool false, .int .i64 0, .int .i64 0, .slice none 0 0, .slice none 0 0, .int .i64 0, .bool false, .int .i64 0]) rfl (by kernel_rfl) (zr_pair zr_int (zr_pair zr_str (zr_pair (zr_pair zr_bool (zr_pair zr_int zr_int)) (zr_pair (zr_pair zr_bool (zr_pair zr_bool (zr_pair zr_bool (zr_pair zr_bool (zr_pair zr_int zr_int))))) (zr_pair zr_tl (zr_pair zr_tl (zr_pair zr_int (zr_pair zr_bool zr_int))))))))
theorem ty120 : TyB Tryz.prog 120 16 true = true := by kernel_rfl
theorem fd118_1 : FldB Tryz.prog 118 1 1 1 false = true := by kernel_rfl
theorem fd118_0 : FldB Tryz.prog 118 0 0 1 false = true := by kernel_rfl
theorem bu118 : BuildB Tryz.prog 118 = true := by kernel_rfl
theorem ze118 : ZeroOk Tryz.prog 118 ((GMark.mk false (0 : Int) (0 : Int)) : GMark) := zero_agg (cs := [.bool false, .int .i64 0, .int .i64 0]) rfl (by kernel_rfl) (zr_pair zr_bool (zr_pair zr_int zr_int))
theorem fd120_2 : FldB Tryz.prog 120 2 2 3 true = true := by kernel_rfl
theorem ty118 : TyB Tryz.prog 118 3 true = true := by kernel_rfl
theorem fd118_2 : FldB Tryz.prog 118 2 2 1 false = true := by kernel_rfl
theorem fd120_0 : FldB Tryz.prog 120 0 0 1 false = true := by kernel_rfl
theorem ze39 : ZeroOk Tryz.prog 39 ((GCon.mk false false false false (0 : Int) (0 : Int)) : GCon) := zero_agg (cs := [.bool false, .bool false, .bool false, .bool false, .int .i64 0, .int .i64 0]) rfl (by kernel_rfl) (zr_pair zr_bool (zr_pair zr_bool (zr_pair zr_bool (zr_pair zr_bool (zr_pair zr_int zr_int)))))
theorem bu39 : BuildB Tryz.prog 39 = true := by kernel_rfl
theorem ty39 : TyB Tryz.prog 39 6 true = true := by kernel_rfl
theorem fd39_0 : FldB Tryz.prog 39 0 0 1 false = true := by kernel_rfl
theorem fd39_1 : FldB Tryz.prog 39 1 1 1 false = true := by kernel_rfl
theorem ty4 : TyB Tryz.prog 4 1 false = true := by kernel_rfl
theorem fd39_4 : FldB Tryz.prog 39 4 4 1 false = true := by kernel_rfl
theorem ty2 : TyB Tryz.prog 2 1 false = true := by kernel_rfl
theorem fd39_2 : FldB Tryz.prog 39 2 2 1 false = true := by kernel_rfl
theorem fd39_5 : FldB Tryz.prog 39 5 5 1 false = true := by kernel_rfl
theorem fd39_3 : FldB Tryz.prog 39 3 3 1 false = true := by kernel_rfl
theorem fd120_3 : FldB Tryz.prog 120 3 5 6 true = true := by kernel_rfl
theorem fd120_4 : FldB Tryz.prog 120 4 11 1 false = true := by kernel_rfl
theorem ty40 : TyB Tryz.prog 40 1 false = true := by kernel_rfl
theorem sl40 : SlB Tryz.prog 40 3 true = true := by kernel_rfl
theorem fd120_7 : FldB Tryz.prog 120 7 14 1 false = true := by kernel_rfl
theorem fd120_6 : FldB Tryz.prog 120 6 13 1 false = true := by kernel_rfl
theorem fd63_0 : FldB Tryz.prog 63 0 0 1 false = true := by kernel_rfl
theorem bu63 : BuildB Tryz.prog 63 = true := by kernel_rfl
theorem ze63 : ZeroOk Tryz.prog 63 ((GItem.mk (Str.mk []) (0 : Int) false) : GItem) := zero_agg (cs := [.string ⟨#[]⟩, .int .i64 0, .bool false]) rfl (by kernel_rfl) (zr_pair zr_str (zr_pair zr_int zr_bool))
theorem ty63 : TyB Tryz.prog 63 3 true = true := by kernel_rfl
theorem fd63_2 : FldB Tryz.prog 63 2 2 1 false = true := by kernel_rfl
theorem fd63_1 : FldB Tryz.prog 63 1 1 1 false = true := by kernel_rfl
theorem el40 : elB Tryz.prog 40 3 = true := by kernel_rfl
theorem ap40_40 : appB Tryz.prog 40 40 3 = true := by kernel_rfl
theorem fd120_5 : FldB Tryz.prog 120 5 12 1 false = true := by kernel_rfl
theorem ty41 : TyB Tryz.prog 41 1 false = true := by kernel_rfl
theorem sl41 : SlB Tryz.prog 41 11 true = true := by kernel_rfl
theorem fd51_5 : FldB Tryz.prog 51 5 10 1 false = true := by kernel_rfl
theorem fd51_0 : FldB Tryz.prog 51 0 0 1 false = true := by kernel_rfl
theorem bu51 : BuildB Tryz.prog 51 = true := by kernel_rfl
theorem ze51 : ZeroOk Tryz.prog 51 ((GFld.mk (Str.mk []) (0 : Int) false false (Val.mk (0 : Int) (0 : Int) ([] : (List UInt8)) ([] : (List Val)) (0 : Int) ([] : (List Raw))) (0 : Int)) : GFld) := zero_agg (cs := [.string ⟨#[]⟩, .int .i64 0, .bool false, .bool false, .int .i64 0, .int .i64 0, .slice none 0 0, .slice none 0 0, .int .i64 0, .slice none 0 0, .int .i64 0]) rfl (by kernel_rfl) (zr_pair zr_str (zr_pair zr_int (zr_pair zr_bool (zr_pair zr_bool (zr_pair zr_val zr_int)))))
theorem ty51 : TyB Tryz.prog 51 11 true = true := by kernel_rfl
theorem fd51_1 : FldB Tryz.prog 51 1 1 1 false = true := by kernel_rfl
theorem fd51_2 : FldB Tryz.prog 51 2 2 1 false = true := by kernel_rfl
theorem ze49 : ZeroOk Tryz.prog 49 ((Val.mk (0 : Int) (0 : Int) ([] : (List UInt8)) ([] : (List Val)) (0 : Int) ([] : (List Raw))) : Val) := zero_agg (cs := [.int .i64 0, .int .i64 0, .slice none 0 0, .slice none 0 0, .int .i64 0, .slice none 0 0]) rfl (by kernel_rfl) zr_val
theorem fd49_1 : FldB Tryz.prog 49 1 1 1 false = true := by kernel_rfl
theorem fd49_0 : FldB Tryz.prog 49 0 0 1 false = true := by kernel_rfl
theorem bu49 : BuildB Tryz.prog 49 = true := by kernel_rfl
theorem ty49 : TyB Tryz.prog 49 6 true = true := by kernel_rfl
theorem fd49_2 : FldB Tryz.prog 49 2 2 1 false = true := by kernel_rfl
theorem el45 : elB Tryz.prog 45 1 = true := by kernel_rfl
theorem ap45_45 : appB Tryz.prog 45 45 1 = true := by kernel_rfl
theorem fd51_3 : FldB Tryz.prog 51 3 3 1 false = true := by kernel_rfl
theorem fd51_4 : FldB Tryz.prog 51 4 4 6 true = true := by kernel_rfl
theorem el41 : elB Tryz.prog 41 11 = true := by kernel_rfl
theorem ap41_41 : appB Tryz.prog 41 41 11 = true := by kernel_rfl
theorem fd120_8 : FldB Tryz.prog 120 8 15 1 false = true := by kernel_rfl
theorem fd120_1 : FldB Tryz.prog 120 1 1 1 false = true := by kernel_rfl
theorem ap22_22 : appB Tryz.prog 22 22 1 = true := by kernel_rfl
theorem fd26_3 : FldB Tryz.prog 26 3 3 1 false = true := by kernel_rfl
theorem ty23 : TyB Tryz.prog 23 1 false = true := by kernel_rfl
theorem el23 : elB Tryz.prog 23 1 = true := by kernel_rfl
theorem ap23_23 : appB Tryz.prog 23 23 1 = true := by kernel_rfl
end Go.Proofs.YtiibmpdjkdjbiaaGreatDoor


namespace Go.Proofs.YtiibmpdjkdjbiaaGreatDoor
open Go.Sy
set_option maxRecDepth 4000
@[reducible] def pt98_0_1 : Fld ((Wr Vh) × GMod) GMod := pl1
@[reducible] def pt33_0_0 : Fld (Str × (List Str) × (TList Int) × (List GTyp)) Str := pf0
@[reducible] def pt33_0_1 : Fld (Str × (List Str) × (TList Int) × (List GTyp)) (List Str) := pf1
@[reducible] def pt98_0_0 : Fld ((Wr Vh) × GMod) (Wr Vh) := pf0
@[reducible] def pt96_0_0 : Fld (Wr Vh) Vh := Fld.wr _
@[reducible] def pt33_0_2 : Fld (Str × (List Str) × (TList Int) × (List GTyp)) (TList Int) := pf2
@[reducible] def pt33_0_3 : Fld (Str × (List Str) × (TList Int) × (List GTyp)) (List GTyp) := pl3
theorem ze33 : ZeroOk Tryz.prog 33 ((GTab.mk (Str.mk []) ([] : (List Str)) ([] : (List Int)) ([] : (List GTyp))) : GTab) := zero_agg (cs := [.string ⟨#[]⟩, .slice none 0 0, .slice none 0 0, .slice none 0 0]) rfl (by kernel_rfl) (zr_pair zr_str (zr_pair zr_list (zr_pair zr_list zr_list)))
theorem sl23 : SlB Tryz.prog 23 1 false = true := by kernel_rfl
theorem zt22_2 : ZeroOk Tryz.prog 22 ((TList.mk none ([] : (List Str))) : (TList Str)) := zero_one (v := .slice none 0 0) rfl (by kernel_rfl) zr_tl
theorem el55 : elB Tryz.prog 55 1 = true := by kernel_rfl
theorem ze4 : ZeroOk Tryz.prog 4 (false : Bool) := zero_one (v := .bool false) rfl (by kernel_rfl) zr_bool
theorem sl55 : SlB Tryz.prog 55 1 false = true := by kernel_rfl
theorem el124 : elB Tryz.prog 124 1 = true := by kernel_rfl
theorem ap124_124 : appB Tryz.prog 124 124 1 = true := by kernel_rfl
theorem sl124 : SlB Tryz.prog 124 1 false = true := by kernel_rfl
theorem zt23_3 : ZeroOk Tryz.prog 23 ((TList.mk none ([] : (List Int))) : (TList Int)) := zero_one (v := .slice none 0 0) rfl (by kernel_rfl) zr_tl
theorem bu33 : BuildB Tryz.prog 33 = true := by kernel_rfl
theorem ty33 : TyB Tryz.prog 33 4 true = true := by kernel_rfl
theorem fd98_1 : FldB Tryz.prog 98 1 1 5 true = true := by kernel_rfl
theorem bu98 : BuildB Tryz.prog 98 = true := by kernel_rfl
theorem zt98_4 : ZeroOk Tryz.prog 98 (((Wr.mk (Vh.mk none 0)), (GMod.mk (Str.mk []) (0 : Int) ([] : (List Str)) ([] : (List Int)) ([] : (List GNode)))) : ((Wr Vh) × GMod)) := zero_agg (cs := [.slice none 0 0, .string ⟨#[]⟩, .int .i64 0, .slice none 0 0, .slice none 0 0, .slice none 0 0]) rfl (by kernel_rfl) (zr_pair (zr_wr zr_vh) (zr_pair zr_str (zr_pair zr_int (zr_pair zr_list (zr_pair zr_list zr_list)))))
theorem fd33_0 : FldB Tryz.prog 33 0 0 1 false = true := by kernel_rfl
theorem fd33_1 : FldB Tryz.prog 33 1 1 1 false = true := by kernel_rfl
theorem zt33_5 : ZeroOk Tryz.prog 33 (((Str.mk []), ([] : (List Str)), (TList.mk none ([] : (List Int))), ([] : (List GTyp))) : (Str × (List Str) × (TList Int) × (List GTyp))) := zero_agg (cs := [.string ⟨#[]⟩, .slice none 0 0, .slice none 0 0, .slice none 0 0]) rfl (by kernel_rfl) (zr_pair zr_str (zr_pair zr_list (zr_pair zr_tl zr_list)))
theorem fd98_0 : FldB Tryz.prog 98 0 0 1 true = true := by kernel_rfl
theorem fd96_0 : FldB Tryz.prog 96 0 0 1 false = true := by kernel_rfl
theorem ty31 : TyB Tryz.prog 31 1 false = true := by kernel_rfl
theorem sl31 : SlB Tryz.prog 31 13 true = true := by kernel_rfl
theorem fd43_6 : FldB Tryz.prog 43 6 11 1 false = true := by kernel_rfl
theorem fd43_5 : FldB Tryz.prog 43 5 10 1 false = true := by kernel_rfl
theorem fd43_2 : FldB Tryz.prog 43 2 2 6 true = true := by kernel_rfl
theorem fd43_0 : FldB Tryz.prog 43 0 0 1 false = true := by kernel_rfl
theorem bu43 : BuildB Tryz.prog 43 = true := by kernel_rfl
theorem ze43 : ZeroOk Tryz.prog 43 ((GTyp.mk (0 : Int) ([] : (List Tag)) (GCon.mk false false false false (0 : Int) (0 : Int)) ([] : (List GItem)) ([] : (List GFld)) (0 : Int) false (0 : Int)) : GTyp) := zero_agg (cs := [.int .i64 0, .slice none 0 0, .bool false, .bool false, .bool false, .bool false, .int .i64 0, .int .i64 0, .slice none 0 0, .slice none 0 0, .int .i64 0, .bool false, .int .i64 0]) rfl (by kernel_rfl) (zr_pair zr_int (zr_pair zr_list (zr_pair (zr_pair zr_bool (zr_pair zr_bool (zr_pair zr_bool (zr_pair zr_bool (zr_pair zr_int zr_int))))) (zr_pair zr_list (zr_pair zr_list (zr_pair zr_int (zr_pair zr_bool zr_int)))))))
theorem ty43 : TyB Tryz.prog 43 13 true = true := by kernel_rfl
theorem ze66 : ZeroOk Tryz.prog 66 (Tag.zero : Tag) := zero_agg (cs := [.int .i64 0, .int .i64 0]) rfl (by kernel_rfl) (zr_pair zr_int zr_int)
theorem fd66_1 : FldB Tryz.prog 66 1 1 1 false = true := by kernel_rfl
theorem fd66_0 : FldB Tryz.prog 66 0 0 1 false = true := by kernel_rfl
theorem bu66 : BuildB Tryz.prog 66 = true := by kernel_rfl
theorem ty66 : TyB Tryz.prog 66 2 true = true := by kernel_rfl
theorem el37 : elB Tryz.prog 37 2 = true := by kernel_rfl
theorem fd43_1 : FldB Tryz.prog 43 1 1 1 false = true := by kernel_rfl
theorem ty37 : TyB Tryz.prog 37 1 false = true := by kernel_rfl
theorem el31 : elB Tryz.prog 31 13 = true := by kernel_rfl
theorem ap31_31 : appB Tryz.prog 31 31 13 = true := by kernel_rfl
theorem fd166_0 : FldB Tryz.prog 166 0 0 6 true = true := by kernel_rfl
theorem bu166 : BuildB Tryz.prog 166 = true := by kernel_rfl
theorem ze166 : ZeroOk Tryz.prog 166 ((GCkd.mk (GCon.mk false false false false (0 : Int) (0 : Int))) : GCkd) := zero_agg (cs := [.bool false, .bool false, .bool false, .bool false, .int .i64 0, .int .i64 0]) rfl (by kernel_rfl) (zr_pair zr_bool (zr_pair zr_bool (zr_pair zr_bool (zr_pair zr_bool (zr_pair zr_int zr_int)))))
theorem ty166 : TyB Tryz.prog 166 6 true = true := by kernel_rfl
theorem fd43_7 : FldB Tryz.prog 43 7 12 1 false = true := by kernel_rfl
theorem fd43_3 : FldB Tryz.prog 43 3 8 1 false = true := by kernel_rfl
theorem ty94 : TyB Tryz.prog 94 1 false = true := by kernel_rfl
theorem ty45 : TyB Tryz.prog 45 1 false = true := by kernel_rfl
theorem sl45 : SlB Tryz.prog 45 1 false = true := by kernel_rfl
theorem ty5 : TyB Tryz.prog 5 1 false = true := by kernel_rfl
theorem gl_first : Tryz.prog.globals.findIdx? (·.name == "unicode/utf8.first") = some 0 := by kernel_rfl
theorem ar185 : ArrB Tryz.prog 185 256 1 false = true := by kernel_rfl
theorem gl_acceptRanges : Tryz.prog.globals.findIdx? (·.name == "unicode/utf8.acceptRanges") = some 1 := by kernel_rfl
theorem ar188 : ArrB Tryz.prog 188 16 2 true = true := by kernel_rfl
theorem ty187 : TyB Tryz.prog 187 2 true = true := by kernel_rfl
theorem ze187 : ZeroOk Tryz.prog 187 (GAcc.zero : GAcc) := zero_agg (cs := [.int .u8 0, .int .u8 0]) rfl (by kernel_rfl) (zr_pair zr_u8 zr_u8)
theorem fd187_0 : FldB Tryz.prog 187 0 0 1 false = true := by kernel_rfl
theorem fd187_1 : FldB Tryz.prog 187 1 1 1 false = true := by kernel_rfl
theorem sl37 : SlB Tryz.prog 37 2 true = true := by kernel_rfl
theorem el44 : elB Tryz.prog 44 1 = true := by kernel_rfl
theorem fd43_4 : FldB Tryz.prog 43 4 9 1 false = true := by kernel_rfl
theorem ze3 : ZeroOk Tryz.prog 3 ((0 : Int) : Int) := zero_one (v := .int .i64 0) rfl (by kernel_rfl) zr_int
theorem zt37_6 : ZeroOk Tryz.prog 37 ((TList.mk none ([] : (List Tag))) : (TList Tag)) := zero_one (v := .slice none 0 0) rfl (by kernel_rfl) zr_tl
theorem ap37_37 : appB Tryz.prog 37 37 2 = true := by kernel_rfl
theorem ap44_44 : appB Tryz.prog 44 44 1 = true := by kernel_rfl
theorem fd33_2 : FldB Tryz.prog 33 2 2 1 false = true := by kernel_rfl
theorem fd33_3 : FldB Tryz.prog 33 3 3 1 false = true := by kernel_rfl
end Go.Proofs.YtiibmpdjkdjbiaaGreatDoor


namespace Go.Proofs.YtiibmpdjkdjbiaaGreatDoor
open Go.Sy
set_option maxRecDepth 4000
end Go.Proofs.YtiibmpdjkdjbiaaGreatDoor


namespace Go.Proofs.YtiibmpdjkdjbiaaGreatDoor
open Go.Sy
set_option maxRecDepth 4000
theorem eq66 : EqOk Tryz.prog 66 Tag := Tag.eqOk Tryz.underlying66 (by kernel_rfl) (by kernel_rfl) Tryz.underlying3
theorem eq63 : EqOk Tryz.prog 63 GItem := GItem.eqOk Tryz.underlying63 (by kernel_rfl) (by kernel_rfl) rfl rfl Tryz.underlying9 rfl rfl Tryz.underlying2 rfl rfl Tryz.underlying4
end Go.Proofs.YtiibmpdjkdjbiaaGreatDoor


namespace Go.Proofs.YtiibmpdjkdjbiaaGreatDoor
open Go.Sy
set_option maxRecDepth 4000
end Go.Proofs.YtiibmpdjkdjbiaaGreatDoor


namespace Go.Proofs.YtiibmpdjkdjbiaaGreatDoor
open Go.Sy
set_option maxRecDepth 4000
theorem eq39 : EqOk Tryz.prog 39 GCon := GCon.eqOk Tryz.underlying39 (by kernel_rfl) (by kernel_rfl) rfl rfl Tryz.underlying4 rfl rfl Tryz.underlying4 rfl rfl Tryz.underlying4 rfl rfl Tryz.underlying4 rfl rfl Tryz.underlying2 rfl rfl Tryz.underlying2
theorem eq4 : EqOk Tryz.prog 4 Bool := EqOk.bool Tryz.underlying4
theorem fd49_3 : FldB Tryz.prog 49 3 3 1 false = true := by kernel_rfl
theorem ty46 : TyB Tryz.prog 46 1 false = true := by kernel_rfl
theorem sl46 : SlB Tryz.prog 46 6 true = true := by kernel_rfl
theorem fd49_4 : FldB Tryz.prog 49 4 4 1 false = true := by kernel_rfl
theorem fd49_5 : FldB Tryz.prog 49 5 5 1 false = true := by kernel_rfl
theorem ty47 : TyB Tryz.prog 47 1 false = true := by kernel_rfl
theorem sl47 : SlB Tryz.prog 47 2 true = true := by kernel_rfl
theorem ty182 : TyB Tryz.prog 182 2 true = true := by kernel_rfl
theorem fd182_0 : FldB Tryz.prog 182 0 0 1 false = true := by kernel_rfl
theorem fd182_1 : FldB Tryz.prog 182 1 1 1 false = true := by kernel_rfl
theorem sl44 : SlB Tryz.prog 44 1 false = true := by kernel_rfl
end Go.Proofs.YtiibmpdjkdjbiaaGreatDoor


namespace Go.Proofs.YtiibmpdjkdjbiaaGreatDoor
open Go.Sy
set_option maxRecDepth 4000
theorem r04_at_w : ∀ {a_s : Str} {a_i : Int} {r : UInt8}, r04_at a_s a_i = some r → Ctr Tryz.prog 69 [isv (a_s), isv (a_i)] [] (fun R H => R = oneOf [isv (r)] ∧ H = []) := by
 intro a_s a_i r h
 unfold r04_at at h
 refine spec_introD Tryz.func69 rfl fun w0 S0 hT => wsr (oA rfl (rnf (w_seq (wsr (oM rfl (oV (v_lss rfl rfl) (oM rfl ?_)))))))
 refine rl_j (jb 12) je .nil h 5 rfl (fun q1 g1 h => ?_) (fun J2 h hJ2 => ?_)
 ·refine rnf (w_condM h rfl (fun _ h => ?_) (fun _ h => ?_))
  ·refine wsr (oA rfl (rnf (w_ret (ret_nxt ?_))))
   cases h
   exact ret_post (.tmp rfl .nil) .nil ⟨rfl, rfl⟩
  refine wkf (wsr (oM rfl (oM rfl (cal_inv h fun y4 hy4 h => oV (v_idxS y4 st9 rfl rfl hy4) (oA rfl (rnf (w_ret ?_)))))))
  cases h
  exact ret_post (.tmp rfl .nil) .nil ⟨rfl, rfl⟩
 refine rl_condM (j := 7) h rfl (fun g3 h => ?_) (fun g3 h => ?_)
 ·exact oP 7 rfl rfl g3 (oP 7 rfl rfl g3 (oP 7 rfl rfl g3 (oP 7 rfl rfl g3 (oV (v_pick_t rfl g3 rfl) (hJ2 _ () h _ (ji 5 12 rfl rfl rfl))))))
 exact oK 7 rfl rfl rfl g3 (v_move rfl) (oK 7 rfl rfl rfl g3 (v_move rfl) (oK 7 rfl rfl rfl g3 (v_lenS st9 rfl) (oK 7 rfl rfl rfl g3 (v_geq rfl rfl) (oV (v_pick_f rfl g3 rfl) (hJ2 _ () h _ (ji 5 12 rfl rfl rfl))))))


theorem r04_white_w : ∀ {a_s : Str} {a_i : Int} {r : Int}, r04_white a_s a_i = some r → Ctr Tryz.prog 48 [isv (a_s), isv (a_i)] [] (fun R H => R = oneOf [isv (r)] ∧ H = []) := by
 intro a_s a_i r h
 unfold r04_white at h
 refine spec_introD Tryz.func48 rfl fun w0 S0 hT => wsr (oA rfl (rnf (w_seq (w_block (w_lp (ι := Int) (γ := Unit) (fun q1 g1 => [(1, isv (q1))]) (fun q1 g1 => []) h () (mod_cons (j := 1) rfl hI mod_nil) .nil (fun L2 q1 g1 Q99 h hL2 eL2 rL2 => w_seq (wsr ?_)))))))
 refine oM rfl (oM rfl (oV (v_lenS st9 rfl) (oV (v_lss rfl rfl) (rnf (w_condM h rfl (fun _ h => ?_) (fun _ h => ?_))))))
 ·refine wkf (w_block (w_block (wsr (oM rfl (oM rfl (cal_inv h fun y51 hy51 h => oV (v_idxS y51 st9 rfl rfl hy51) (oV (v_eqA eq5 rfl rfl) ?_)))))))
  refine oM rfl (rl_j (jb 20) je .nil h 5 rfl (fun q52 g52 h => ?_) (fun J53 h hJ53 => ?_))
  ·refine oM rfl (rl_j (jb 26) je .nil h 5 rfl (fun q56 g56 h => ?_) (fun J57 h hJ57 => ?_))
   ·refine oM rfl (rl_j (jb 32) je .nil h 5 rfl (fun q60 g60 h => ?_) (fun J61 h hJ61 => ?_))
    ·refine oA rfl (rnf (w_condM h rfl (fun _ h => ?_) (fun _ h => ?_)))
     ·exact w_region (oM rfl (ck_inv h fun q64 h => oV (v_add rfl rfl q64) (oA rfl (rl_nil (fin_block (fin_block (hL2 _ () h _ (ji 19 1 rfl rfl rfl))))))))
     refine wsr (oM rfl (oM rfl (cal_inv h fun y65 hy65 h => oV (v_idxS y65 st9 rfl rfl hy65) (oV (v_eqA eq5 rfl rfl) (oM rfl (rl_j (jb 46) je .nil h 6 rfl (fun q66 g66 h => ?_) (fun J67 h hJ67 => ?_)))))))
     ·refine oA rfl (rnf (w_condM h rfl (fun _ h => ?_) (fun _ h => ?_)))
      ·refine wsr (oM rfl (ck_inv h fun q71 h => oV (v_add rfl rfl q71) (oA rfl (rnf (w_block (w_lp (ι := Int) (γ := Unit) (fun q72 g72 => [(1, isv (q72))]) (fun q72 g72 => []) h () (mod_cons (j := 1) rfl hI mod_nil) .nil (fun L73 q72 g72 Q98 h hL73 eL73 rL73 => w_seq ?_)))))))
       refine wsr (oM rfl (oM rfl (oV (v_lenS st9 rfl) (oV (v_lss rfl rfl) (oM rfl (rl_j (jb 58) je .nil h 5 rfl (fun q86 g86 h => ?_) (fun J87 h hJ87 => ?_)))))))
       ·refine rnf (w_condM h rfl (fun _ h => ?_) (fun _ h => ?_))
        ·refine wkf (w_block (w_seq (wsr (oM rfl (oM rfl (cal_inv h fun y90 hy90 h => oV (v_idxS y90 st9 rfl rfl hy90) (oV (v_eqA eq5 rfl rfl) ?_)))))))
         refine oM rfl (rl_j (jb 69) je .nil h 6 rfl (fun q91 g91 h => ?_) (fun J92 h hJ92 => ?_))
         ·refine rnf (w_condM h rfl (fun _ h => ?_) (fun _ h => ?_))
          ·refine wsr (oM rfl (ck_inv h fun q96 h => oV (v_add rfl rfl q96) (oA rfl (rnf (w_exit (exi_nxt (exi_pass rfl ?_)))))))
           exact eL73 _ _ (exi_block (fin_block (fin_block (hL2 _ () h _ (ji 42 1 rfl rfl rfl)))))
          exact wkf (w_region (oM rfl (ck_inv h fun q97 h => oV (v_add rfl rfl q97) (oA rfl (rl_nil (fin_block (hL73 _ () h _ (ji 16 1 rfl rfl rfl))))))))
         refine rl_condM (j := 63) h rfl (fun g93 h => ?_) (fun g93 h => ?_)
         ·exact oK 63 rfl rfl rfl g93 (v_move rfl) (oK 63 rfl rfl rfl g93 (v_move rfl) (ck_inv h fun q94 h => oK 63 rfl rfl rfl g93 (v_add rfl rfl q94) (cal_inv h fun y95 hy95 h => op_take rfl rfl (dj := 63) rfl g93 (t_callE (r04_at_w hy95) hT (s2 rfl rfl) .nil (oK 63 rfl rfl rfl g93 (v_eqA eq5 rfl rfl) (oV (v_pick_t rfl g93 rfl) (hJ92 _ () h _ (ji 6 69 rfl rfl rfl))))))))
         exact oP 63 rfl rfl g93 (oP 63 rfl rfl g93 (oP 63 rfl rfl g93 (oP 63 rfl rfl g93 (oP 63 rfl rfl g93 (oV (v_pick_f rfl g93 rfl) (hJ92 _ () h _ (ji 6 69 rfl rfl rfl)))))))
        exact w_exit (exi_nxt (eL73 _ _ (exi_block (fin_block (fin_block (hL2 _ () h _ (ji 33 1 rfl rfl rfl)))))))
       refine rl_condM (j := 53) h rfl (fun g88 h => ?_) (fun g88 h => ?_)
       ·exact oK 53 rfl rfl rfl g88 (v_move rfl) (oK 53 rfl rfl rfl g88 (v_move rfl) (cal_inv h fun y89 hy89 h => oK 53 rfl rfl rfl g88 (v_idxS y89 st9 rfl rfl hy89) (oK 53 rfl rfl rfl g88 (v_neA eq5 rfl rfl) (oV (v_pick_t rfl g88 rfl) (hJ87 _ () h _ (ji 5 58 rfl rfl rfl))))))
       exact oP 53 rfl rfl g88 (oP 53 rfl rfl g88 (oP 53 rfl rfl g88 (oP 53 rfl rfl g88 (oV (v_pick_f rfl g88 rfl) (hJ87 _ () h _ (ji 5 58 rfl rfl rfl))))))
      refine wsr (oM rfl (oA rfl (rnf (w_ret (ret_block (ret_block (rL2 _ (ret_block ?_))))))))
      refine ret_nxt ?_
      cases h
      exact ret_post (.tmp rfl .nil) .nil ⟨rfl, rfl⟩
     refine rl_condM (j := 40) h rfl (fun g68 h => ?_) (fun g68 h => ?_)
     ·exact oK 40 rfl rfl rfl g68 (v_move rfl) (oK 40 rfl rfl rfl g68 (v_move rfl) (ck_inv h fun q69 h => oK 40 rfl rfl rfl g68 (v_add rfl rfl q69) (cal_inv h fun y70 hy70 h => op_take rfl rfl (dj := 40) rfl g68 (t_callE (r04_at_w hy70) hT (s2 rfl rfl) .nil (oK 40 rfl rfl rfl g68 (v_eqA eq5 rfl rfl) (oV (v_pick_t rfl g68 rfl) (hJ67 _ () h _ (ji 6 46 rfl rfl rfl))))))))
     exact oP 40 rfl rfl g68 (oP 40 rfl rfl g68 (oP 40 rfl rfl g68 (oP 40 rfl rfl g68 (oP 40 rfl rfl g68 (oV (v_pick_f rfl g68 rfl) (hJ67 _ () h _ (ji 6 46 rfl rfl rfl)))))))
    refine rl_condM (j := 27) h rfl (fun g62 h => ?_) (fun g62 h => ?_)
    ·exact oP 27 rfl rfl g62 (oP 27 rfl rfl g62 (oP 27 rfl rfl g62 (oP 27 rfl rfl g62 (oV (v_pick_t rfl g62 rfl) (hJ61 _ () h _ (ji 5 32 rfl rfl rfl))))))
    exact oK 27 rfl rfl rfl g62 (v_move rfl) (oK 27 rfl rfl rfl g62 (v_move rfl) (cal_inv h fun y63 hy63 h => oK 27 rfl rfl rfl g62 (v_idxS y63 st9 rfl rfl hy63) (oK 27 rfl rfl rfl g62 (v_eqA eq5 rfl rfl) (oV (v_pick_f rfl g62 rfl) (hJ61 _ () h _ (ji 5 32 rfl rfl rfl))))))
   refine rl_condM (j := 21) h rfl (fun g58 h => ?_) (fun g58 h => ?_)
   ·exact oP 21 rfl rfl g58 (oP 21 rfl rfl g58 (oP 21 rfl rfl g58 (oP 21 rfl rfl g58 (oV (v_pick_t rfl g58 rfl) (hJ57 _ () h _ (ji 5 26 rfl rfl rfl))))))
   exact oK 21 rfl rfl rfl g58 (v_move rfl) (oK 21 rfl rfl rfl g58 (v_move rfl) (cal_inv h fun y59 hy59 h => oK 21 rfl rfl rfl g58 (v_idxS y59 st9 rfl rfl hy59) (oK 21 rfl rfl rfl g58 (v_eqA eq5 rfl rfl) (oV (v_pick_f rfl g58 rfl) (hJ57 _ () h _ (ji 5 26 rfl rfl rfl))))))
  refine rl_condM (j := 15) h rfl (fun g54 h => ?_) (fun g54 h => ?_)
  ·exact oP 15 rfl rfl g54 (oP 15 rfl rfl g54 (oP 15 rfl rfl g54 (oP 15 rfl rfl g54 (oV (v_pick_t rfl g54 rfl) (hJ53 _ () h _ (ji 5 20 rfl rfl rfl))))))
  exact oK 15 rfl rfl rfl g54 (v_move rfl) (oK 15 rfl rfl rfl g54 (v_move rfl) (cal_inv h fun y55 hy55 h => oK 15 rfl rfl rfl g54 (v_idxS y55 st9 rfl rfl hy55) (oK 15 rfl rfl rfl g54 (v_eqA eq5 rfl rfl) (oV (v_pick_f rfl g54 rfl) (hJ53 _ () h _ (ji 5 20 rfl rfl rfl))))))
 refine w_exit (exi_nxt (eL2 _ _ (exi_block (fin_nxt (wsr (oM rfl (oA rfl (rnf ?_))))))))
 refine w_ret ?_
 cases h
 exact ret_post (.tmp rfl .nil) .nil ⟨rfl, rfl⟩


theorem r04_letter_w : ∀ {a_c : UInt8} {r : Bool}, r04_letter a_c = some r → Ctr Tryz.prog 70 [isv (a_c)] [] (fun R H => R = oneOf [isv (r)] ∧ H = []) := by
 intro a_c r h
 unfold r04_letter at h
 refine spec_introD Tryz.func70 rfl fun w0 S0 hT => wsr (oA rfl (rnf (wsr (oM rfl (oV (v_geq8 rfl rfl) (oM rfl (rl_j (jb 8) je .nil h 3 rfl (fun q1 g1 h => ?_) (fun J2 h hJ2 => ?_))))))))
 ·refine oM rfl (rl_j (jb 16) je .nil h 7 rfl (fun q4 g4 h => ?_) (fun J5 h hJ5 => ?_))
  ·refine oA rfl (rnf (w_ret ?_))
   cases h
   exact ret_post (.tmp rfl .nil) .nil ⟨rfl, rfl⟩
  refine rl_condM (j := 9) h rfl (fun g6 h => ?_) (fun g6 h => ?_)
  ·exact oP 9 rfl rfl g6 (oP 9 rfl rfl g6 (oP 9 rfl rfl g6 (op_passU rfl (dj := 12) rfl (op_passU rfl (dj := 12) rfl (oP 9 rfl rfl g6 (oV (v_pick_t rfl g6 rfl) (hJ5 _ () h _ (ji 7 16 rfl rfl rfl))))))))
  refine oK 9 rfl rfl rfl g6 (v_move rfl) (oK 9 rfl rfl rfl g6 (v_geq8 rfl rfl) (oK 9 rfl rfl rfl g6 (v_move rfl) (rl_j (jb 15) je .nil h 3 rfl (fun q7 g7 h => ?_) (fun J8 h hJ8 => ?_))))
  ·exact oV (v_pick_f rfl g6 rfl) (hJ5 _ () h _ (ji 5 16 rfl rfl rfl))
  refine rl_condM (j := 12) h rfl (fun g9 h => ?_) (fun g9 h => ?_)
  ·exact oK 12 rfl rfl rfl g9 (v_move rfl) (oK 12 rfl rfl rfl g9 (v_leq8 rfl rfl) (oK 9 rfl rfl rfl g6 (v_pick_t rfl g9 rfl) (hJ8 _ () h _ (ji 3 15 rfl rfl rfl))))
  exact oP 12 rfl rfl g9 (oP 12 rfl rfl g9 (oK 9 rfl rfl rfl g6 (v_pick_f rfl g9 rfl) (hJ8 _ () h _ (ji 3 15 rfl rfl rfl))))
 refine rl_condM (j := 5) h rfl (fun g3 h => ?_) (fun g3 h => ?_)
 ·exact oK 5 rfl rfl rfl g3 (v_move rfl) (oK 5 rfl rfl rfl g3 (v_leq8 rfl rfl) (oV (v_pick_t rfl g3 rfl) (hJ2 _ () h _ (ji 3 8 rfl rfl rfl))))
 exact oP 5 rfl rfl g3 (oP 5 rfl rfl g3 (oV (v_pick_f rfl g3 rfl) (hJ2 _ () h _ (ji 3 8 rfl rfl rfl))))


theorem r04_digit_w : ∀ {a_c : UInt8} {r : Bool}, r04_digit a_c = some r → Ctr Tryz.prog 73 [isv (a_c)] [] (fun R H => R = oneOf [isv (r)] ∧ H = []) := by
 intro a_c r h
 unfold r04_digit at h
 refine spec_introD Tryz.func73 rfl fun w0 S0 hT => wsr (oA rfl (rnf (wsr (oM rfl (oV (v_geq8 rfl rfl) (oM rfl (rl_j (jb 8) je .nil h 3 rfl (fun q1 g1 h => ?_) (fun J2 h hJ2 => ?_))))))))
 ·refine oA rfl (rnf (w_ret ?_))
  cases h
  exact ret_post (.tmp rfl .nil) .nil ⟨rfl, rfl⟩
 refine rl_condM (j := 5) h rfl (fun g3 h => ?_) (fun g3 h => ?_)
 ·exact oK 5 rfl rfl rfl g3 (v_move rfl) (oK 5 rfl rfl rfl g3 (v_leq8 rfl rfl) (oV (v_pick_t rfl g3 rfl) (hJ2 _ () h _ (ji 3 8 rfl rfl rfl))))
 exact oP 5 rfl rfl g3 (oP 5 rfl rfl g3 (oV (v_pick_f rfl g3 rfl) (hJ2 _ () h _ (ji 3 8 rfl rfl rfl))))


theorem r04_name_w : ∀ {a_s : Str} {a_i : Int} {r : Int}, r04_name a_s a_i = some r → Ctr Tryz.prog 71 [isv (a_s), isv (a_i)] [] (fun R H => R = oneOf [isv (r)] ∧ H = []) := by
 intro a_s a_i r h
 unfold r04_name at h
 refine spec_introD Tryz.func71 rfl fun w0 S0 hT => wsr (oA rfl (rnf (wsr (oM rfl (oA rfl (rnf (w_seq ?_)))))))
 refine w_block (w_lp (ι := Int) (γ := Unit) (fun q1 g1 => [(1, isv (q1))]) (fun q1 g1 => []) h () (mod_cons (j := 1) rfl hI mod_nil) .nil (fun L2 q1 g1 Q55 h hL2 eL2 rL2 => w_seq (wsr (oM rfl (oM rfl (oV (v_lenS st9 rfl) (oV (v_lss rfl rfl) (oM rfl ?_))))))))
 refine rl_j (jb 35) je .nil h 24 rfl (fun q29 g29 h => ?_) (fun J30 h hJ30 => ?_)
 ·refine rnf (w_condM h rfl (fun _ h => ?_) (fun _ h => ?_))
  ·refine wkf (w_block (w_region (oM rfl (ck_inv h fun q48 h => oV (v_add rfl rfl q48) (oA rfl (rl_nil (fin_block ?_)))))))
   exact hL2 _ () h _ (ji 10 1 rfl rfl rfl)
  refine w_exit (exi_nxt (eL2 _ _ (exi_block (fin_nxt (w_seq (wsr (oM rfl (oM rfl ?_))))))))
  refine ck_inv h fun q49 h => oV (v_sub rfl rfl q49) (cal_inv h fun y50 hy50 h => oV (v_idxS y50 st9 rfl rfl hy50) (oV (v_eqA eq5 rfl rfl) (oM rfl (rl_j (jb 48) je .nil h 5 rfl (fun q51 g51 h => ?_) (fun J52 h hJ52 => ?_)))))
  ·refine rnf (w_condM h rfl (fun _ h => ?_) (fun _ h => ?_))
   ·refine wsr (oA rfl (rnf (w_ret (ret_nxt ?_))))
    cases h
    exact ret_post (.tmp rfl .nil) .nil ⟨rfl, rfl⟩
   refine wkf (wsr (oM rfl (oA rfl (rnf (w_ret ?_)))))
   cases h
   exact ret_post (.tmp rfl .nil) .nil ⟨rfl, rfl⟩
  refine rl_condM (j := 43) h rfl (fun g53 h => ?_) (fun g53 h => ?_)
  ·exact oP 43 rfl rfl g53 (oP 43 rfl rfl g53 (oP 43 rfl rfl g53 (oP 43 rfl rfl g53 (oV (v_pick_t rfl g53 rfl) (hJ52 _ () h _ (ji 5 48 rfl rfl rfl))))))
  exact oK 43 rfl rfl rfl g53 (v_move rfl) (oK 43 rfl rfl rfl g53 (v_move rfl) (ck_inv h fun q54 h => oK 43 rfl rfl rfl g53 (v_sub rfl rfl q54) (oK 43 rfl rfl rfl g53 (v_gtr rfl rfl) (oV (v_pick_f rfl g53 rfl) (hJ52 _ () h _ (ji 5 48 rfl rfl rfl))))))
 refine rl_condM (j := 11) h rfl (fun g31 h => ?_) (fun g31 h => ?_)
 ·refine oK 11 rfl rfl rfl g31 (v_move rfl) (oK 11 rfl rfl rfl g31 (v_move rfl) (cal_inv h fun y32 hy32 h => oK 11 rfl rfl rfl g31 (v_idxS y32 st9 rfl rfl hy32) (cal_inv h fun y33 hy33 h => op_take rfl rfl (dj := 11) rfl g31 (t_callE (r04_letter_w hy33) hT (s1 rfl) .nil (oK 11 rfl rfl rfl g31 (v_move rfl) (rl_j (jb 21) je .nil h 5 rfl (fun q34 g34 h => ?_) (fun J35 h hJ35 => ?_)))))))
  ·refine oK 11 rfl rfl rfl g31 (v_move rfl) (rl_j (jb 34) je .nil h 12 rfl (fun q39 g39 h => ?_) (fun J40 h hJ40 => ?_))
   ·exact oV (v_pick_t rfl g31 rfl) (hJ30 _ () h _ (ji 9 35 rfl rfl rfl))
   refine rl_condM (j := 22) h rfl (fun g41 h => ?_) (fun g41 h => ?_)
   ·refine oP 22 rfl rfl g41 (oP 22 rfl rfl g41 (oP 22 rfl rfl g41 (oP 22 rfl rfl g41 (oP 22 rfl rfl g41 (op_passU rfl (dj := 27) rfl (op_passU rfl (dj := 27) rfl (op_passU rfl (dj := 27) rfl (op_passU rfl (dj := 27) rfl ?_))))))))
    exact op_passU rfl (dj := 27) rfl (oP 22 rfl rfl g41 (oK 11 rfl rfl rfl g31 (v_pick_t rfl g41 rfl) (hJ40 _ () h _ (ji 12 34 rfl rfl rfl))))
   refine oK 22 rfl rfl rfl g41 (v_move rfl) (oK 22 rfl rfl rfl g41 (v_move rfl) (cal_inv h fun y42 hy42 h => oK 22 rfl rfl rfl g41 (v_idxS y42 st9 rfl rfl hy42) (oK 22 rfl rfl rfl g41 (v_eqA eq5 rfl rfl) (oK 22 rfl rfl rfl g41 (v_move rfl) (rl_j (jb 33) je .nil h 6 rfl (fun q43 g43 h => ?_) (fun J44 h hJ44 => ?_))))))
   ·exact oK 11 rfl rfl rfl g31 (v_pick_f rfl g41 rfl) (hJ40 _ () h _ (ji 7 34 rfl rfl rfl))
   refine rl_condM (j := 27) h rfl (fun g45 h => ?_) (fun g45 h => ?_)
   ·exact oK 27 rfl rfl rfl g45 (v_move rfl) (oK 27 rfl rfl rfl g45 (v_move rfl) (ck_inv h fun q46 h => oK 27 rfl rfl rfl g45 (v_add rfl rfl q46) (cal_inv h fun y47 hy47 h => op_take rfl rfl (dj := 27) rfl g45 (t_callE (r04_at_w hy47) hT (s2 rfl rfl) .nil (oK 27 rfl rfl rfl g45 (v_neA eq5 rfl rfl) (oK 22 rfl rfl rfl g41 (v_pick_t rfl g45 rfl) (hJ44 _ () h _ (ji 6 33 rfl rfl rfl))))))))
   exact oP 27 rfl rfl g45 (oP 27 rfl rfl g45 (oP 27 rfl rfl g45 (oP 27 rfl rfl g45 (oP 27 rfl rfl g45 (oK 22 rfl rfl rfl g41 (v_pick_f rfl g45 rfl) (hJ44 _ () h _ (ji 6 33 rfl rfl rfl)))))))
  refine rl_condM (j := 16) h rfl (fun g36 h => ?_) (fun g36 h => ?_)
  ·exact oP 16 rfl rfl g36 (oP 16 rfl rfl g36 (oP 16 rfl rfl g36 (oP 16 rfl rfl g36 (oK 11 rfl rfl rfl g31 (v_pick_t rfl g36 rfl) (hJ35 _ () h _ (ji 5 21 rfl rfl rfl))))))
  exact oK 16 rfl rfl rfl g36 (v_move rfl) (oK 16 rfl rfl rfl g36 (v_move rfl) (cal_inv h fun y37 hy37 h => oK 16 rfl rfl rfl g36 (v_idxS y37 st9 rfl rfl hy37) (cal_inv h fun y38 hy38 h => op_take rfl rfl (dj := 16) rfl g36 (t_callE (r04_digit_w hy38) hT (s1 rfl) .nil (oK 11 rfl rfl rfl g31 (v_pick_f rfl g36 rfl) (hJ35 _ () h _ (ji 5 21 rfl rfl rfl)))))))
 refine oP 11 rfl rfl g31 (oP 11 rfl rfl g31 (oP 11 rfl rfl g31 (oP 11 rfl rfl g31 (oP 11 rfl rfl g31 (op_passU rfl (dj := 16) rfl (op_passU rfl (dj := 16) rfl (op_passU rfl (dj := 16) rfl (op_passU rfl (dj := 16) rfl ?_))))))))
 refine oP 11 rfl rfl g31 (oP 11 rfl rfl g31 (op_passU rfl (dj := 22) rfl (op_passU rfl (dj := 22) rfl (op_passU rfl (dj := 22) rfl (op_passU rfl (dj := 22) rfl (op_passU rfl (dj := 22) rfl (op_passU rfl (dj := 27) rfl (op_passU rfl (dj := 27) rfl ?_))))))))
 exact op_passU rfl (dj := 27) rfl (op_passU rfl (dj := 27) rfl (op_passU rfl (dj := 27) rfl (op_passU rfl (dj := 22) rfl (oP 11 rfl rfl g31 (oV (v_pick_f rfl g31 rfl) (hJ30 _ () h _ (ji 24 35 rfl rfl rfl)))))))


theorem r04_words_w : ∀  {r : (List Str)}, r04_words  = some r → Ctr Tryz.prog 97 [] [] (fun R H => R = oneOf [isv (r)] ∧ H = []) := by
 intro  r h
 unfold r04_words at h
 refine spec_introD Tryz.func97 rfl fun w0 S0 hT => wsr (oA rfl (rnf (wsr ?_)))
 refine oT (t_buildSlice (l := ([(Str.mk [68, 69, 70, 73, 78, 73, 84, 73, 79, 78, 83]), (Str.mk [69, 88, 80, 76, 73, 67, 73, 84]), (Str.mk [73, 77, 80, 76, 73, 67, 73, 84]), (Str.mk [65, 85, 84, 79, 77, 65, 84, 73, 67]), (Str.mk [84, 65, 71, 83]), (Str.mk [66, 69, 71, 73, 78]), (Str.mk [69, 78, 68]), (Str.mk [66, 79, 79, 76, 69, 65, 78]), (Str.mk [73, 78, 84, 69, 71, 69, 82]), (Str.mk [69, 78, 85, 77, 69, 82, 65, 84, 69, 68]), (Str.mk [78, 85, 76, 76]), (Str.mk [79, 67, 84, 69, 84]), (Str.mk [83, 84, 82, 73, 78, 71]), (Str.mk [85, 84, 70, 56, 83, 116, 114, 105, 110, 103]), (Str.mk [83, 69, 81, 85, 69, 78, 67, 69]), (Str.mk [83, 69, 84]), (Str.mk [67, 72, 79, 73, 67, 69]), (Str.mk [79, 70]), (Str.mk [79, 80, 84, 73, 79, 78, 65, 76]), (Str.mk [68, 69, 70, 65, 85, 76, 84]), (Str.mk [83, 73, 90, 69]), (Str.mk [77, 73, 78]), (Str.mk [77, 65, 88]), (Str.mk [84, 82, 85, 69]), (Str.mk [70, 65, 76, 83, 69])] : (List Str))) el22 (.cons rfl hI (.cons rfl hI (.cons rfl hI (.cons rfl hI (.cons rfl hI (.cons rfl hI (.cons rfl hI (.cons rfl hI (.cons rfl hI (.cons rfl hI (.cons rfl hI (.cons rfl hI (.cons rfl hI (.cons rfl hI (.cons rfl hI (.cons rfl hI (.cons rfl hI (.cons rfl hI (.cons rfl hI (.cons rfl hI (.cons rfl hI (.cons rfl hI (.cons rfl hI (.cons rfl hI (.cons rfl hI .nil))))))))))))))))))))))))) rfl rfl ?_)
 refine oA rfl (rnf (w_ret ?_))
 cases h
 exact ret_post (.as rfl appv_isv .nil) .nil ⟨rfl, rfl⟩


theorem h_In_string_w : ∀ {a_l : (List Str)} {a_x : Str} {r : Bool}, h_In_string a_l a_x = some r → Ctr Tryz.prog 96 [isv (a_l), isv (a_x)] [] (fun R H => R = oneOf [isv (r)] ∧ H = []) := by
 intro a_l a_x r h
 unfold h_In_string at h
 refine spec_introD Tryz.func96 rfl fun w0 S0 hT => wsr (oA rfl (rnf (w_seq (wsr (oA rfl (rnf (w_block ?_)))))))
 refine w_lp (ι := Int) (γ := Unit) (fun q1 g1 => [(5, isv (q1))]) (fun q1 g1 => []) h () (mod_cons (j := 5) rfl hI mod_nil) .nil (fun L2 q1 g1 Q7 h hL2 eL2 rL2 => w_seq (wsr (oM rfl (oM rfl (oV (v_ln (l := a_l) rfl hI sl22) (oV (v_lss rfl rfl) (rnf (w_condM h rfl (fun _ h => ?_) (fun _ h => ?_)))))))))
 ·refine wkf (w_seq (w_block (wsr (oM rfl (oM rfl (cal_inv h fun y5 hy5 h => oV (v_ix (l := a_l) rfl hI rfl sl22 hy5) (oV (v_loadI ty9 rfl) ?_)))))))
  refine oM rfl (oV (v_eqA eq9 rfl rfl) (rnf (w_condM h rfl (fun _ h => ?_) (fun _ h => ?_))))
  ·refine wsr (oA rfl (rnf (w_ret (ret_block (ret_nxt (rL2 _ (ret_block (ret_nxt ?_))))))))
   cases h
   exact ret_post (.tmp rfl .nil) .nil ⟨rfl, rfl⟩
  refine w_skip (fin_block (fin_nxt (w_region (oM rfl (ck_inv h fun q6 h => oV (v_add rfl rfl q6) (oA rfl (rl_nil ?_)))))))
  exact hL2 _ () h _ (ji 14 5 rfl rfl rfl)
 refine w_exit (exi_nxt (eL2 _ _ (exi_block (fin_nxt (wsr (oA rfl (rnf (w_ret ?_))))))))
 cases h
 exact ret_post (.tmp rfl .nil) .nil ⟨rfl, rfl⟩


theorem r04_Word_w : ∀ {a_s : Str} {r : Bool}, r04_Word a_s = some r → Ctr Tryz.prog 72 [isv (a_s)] [] (fun R H => R = oneOf [isv (r)] ∧ H = []) := by
 intro a_s r h
 unfold r04_Word at h
 refine spec_introD Tryz.func72 rfl fun w0 S0 hT => wsr (oA rfl (rnf (wsr (cal_inv h fun y1 hy1 h => oT (t_callE (r04_words_w hy1) hT .nil .nil (oM rfl (cal_inv h fun y2 hy2 h => ?_)))))))
 refine oT (t_callE (h_In_string_w hy2) hT (s2 rfl rfl) .nil (oA rfl (rnf (w_ret ?_))))
 cases h
 exact ret_post (.tmp rfl .nil) .nil ⟨rfl, rfl⟩


theorem r04_number_w : ∀ {a_s : Str} {a_i : Int} {r : Int}, r04_number a_s a_i = some r → Ctr Tryz.prog 74 [isv (a_s), isv (a_i)] [] (fun R H => R = oneOf [isv (r)] ∧ H = []) := by
 intro a_s a_i r h
 unfold r04_number at h
 refine spec_introD Tryz.func74 rfl fun w0 S0 hT => wsr (oA rfl (rnf (wsr (oM rfl (oM rfl (cal_inv h fun y1 hy1 h => oV (v_idxS y1 st9 rfl rfl hy1) ?_))))))
 refine oV (v_eqA eq5 rfl rfl) (oA rfl (rnf (w_seq (wsr (oM rfl (rnf (w_J (ι := Int) (γ := Unit) (fun q2 g2 => [(1, isv (q2))]) (fun q2 g2 => []) .nil h (fun q2 g2 h => ?_) (fun J3 h hJ3 => ?_))))))))
 ·refine wsr (oM rfl (oA rfl (rnf (wsr (oA rfl (rnf (w_seq (w_block ?_))))))))
  refine w_lp (ι := Int × UInt64) (γ := Unit) (fun q5 g5 => [(1, isv (q5.1)), (7, isv (q5.2))]) (fun q5 g5 => []) h () (mod_cons (j := 1) rfl hI (mod_cons (j := 7) rfl hI mod_nil)) .nil (fun L6 q5 g5 Q91 h hL6 eL6 rL6 => w_seq (wsr (oM rfl (oM rfl (oV (v_lenS st9 rfl) (oV (v_lss rfl rfl) (oM rfl (rl_j (jb 26) je .nil h 5 rfl (fun q49 g49 h => ?_) (fun J50 h hJ50 => ?_)))))))))
  ·refine rnf (w_condM h rfl (fun _ h => ?_) (fun _ h => ?_))
   ·refine wkf (w_block (w_seq (wsr (oM rfl (oM rfl (ck_inv h fun q54 h => oV (v_sub rfl rfl q54) (oV (v_lss rfl rfl) ?_)))))))
    refine rnf (w_J (ι := UInt64) (γ := Unit) (fun q55 g55 => [(7, isv (q55))]) (fun q55 g55 => []) .nil h (fun q55 g55 h => ?_) (fun J56 h hJ56 => ?_))
    ·exact w_region (oM rfl (ck_inv h fun q58 h => oV (v_add rfl rfl q58) (oA rfl (rl_nil (fin_block (hL6 _ () h _ (join_imp 16 rfl rfl (mod_cons (j := 1) rfl hI (mod_cons (j := 7) rfl hI mod_nil)) .nil)))))))
    refine w_condM h rfl (fun _ h => ?_) (fun _ h => ?_)
    ·refine w_region (oM rfl (oV (v_mul64 rfl rfl) (oM rfl (oM rfl (cal_inv h fun y57 hy57 h => oV (v_idxS y57 st9 rfl rfl hy57) (oV (v_sub8 rfl rfl) (oV (v_u8u64 Tryz.underlying5 Tryz.underlying58 rfl) ?_)))))))
     exact oV (v_add64 rfl rfl) (oA rfl (rl_nil (hJ56 _ () h _ (ji 9 7 rfl rfl rfl))))
    exact w_skip (hJ56 _ () h _ (ji 0 7 rfl rfl rfl))
   refine w_exit (exi_nxt (eL6 _ _ (exi_block (fin_nxt (wsr (oM rfl (oM rfl (ck_inv h fun q59 h => ?_))))))))
   refine oV (v_sub rfl rfl q59) (oA rfl (rnf (w_seq (wsr (oM rfl (oV (v_lss rfl rfl) (oM rfl (rl_j (jb 49) je .nil h 3 rfl (fun q60 g60 h => ?_) (fun J61 h hJ61 => ?_)))))))))
   ·refine oM rfl (rl_j (jb 59) je .nil h 9 rfl (fun q63 g63 h => ?_) (fun J64 h hJ64 => ?_))
    ·refine oM rfl (rl_j (jb 68) je .nil h 8 rfl (fun q70 g70 h => ?_) (fun J71 h hJ71 => ?_))
     ·refine oM rfl (rl_j (jb 74) je .nil h 5 rfl (fun q77 g77 h => ?_) (fun J78 h hJ78 => ?_))
      ·refine oM rfl (rl_j (jb 78) je .nil h 3 rfl (fun q82 g82 h => ?_) (fun J83 h hJ83 => ?_))
       ·refine oM rfl (rl_j (jb 86) je .nil h 7 rfl (fun q85 g85 h => ?_) (fun J86 h hJ86 => ?_))
        ·refine rnf (w_condM h rfl (fun _ h => ?_) (fun _ h => ?_))
         ·refine wsr (oA rfl (rnf (w_ret (ret_nxt ?_))))
          cases h
          exact ret_post (.tmp rfl .nil) .nil ⟨rfl, rfl⟩
         refine wkf (wsr (oM rfl (oA rfl (rnf (w_ret ?_)))))
         cases h
         exact ret_post (.tmp rfl .nil) .nil ⟨rfl, rfl⟩
        refine rl_condM (j := 79) h rfl (fun g87 h => ?_) (fun g87 h => ?_)
        ·exact oP 79 rfl rfl g87 (oP 79 rfl rfl g87 (oP 79 rfl rfl g87 (op_passU rfl (dj := 82) rfl (op_passU rfl (dj := 82) rfl (oP 79 rfl rfl g87 (oV (v_pick_t rfl g87 rfl) (hJ86 _ () h _ (ji 7 86 rfl rfl rfl))))))))
        refine oK 79 rfl rfl rfl g87 (v_move rfl) (oK 79 rfl rfl rfl g87 (v_not rfl) (oK 79 rfl rfl rfl g87 (v_move rfl) (rl_j (jb 85) je .nil h 3 rfl (fun q88 g88 h => ?_) (fun J89 h hJ89 => ?_))))
        ·exact oV (v_pick_f rfl g87 rfl) (hJ86 _ () h _ (ji 5 86 rfl rfl rfl))
        refine rl_condM (j := 82) h rfl (fun g90 h => ?_) (fun g90 h => ?_)
        ·exact oK 82 rfl rfl rfl g90 (v_move rfl) (oK 82 rfl rfl rfl g90 (v_eql64 rfl rfl) (oK 79 rfl rfl rfl g87 (v_pick_t rfl g90 rfl) (hJ89 _ () h _ (ji 3 85 rfl rfl rfl))))
        exact oP 82 rfl rfl g90 (oP 82 rfl rfl g90 (oK 79 rfl rfl rfl g87 (v_pick_f rfl g90 rfl) (hJ89 _ () h _ (ji 3 85 rfl rfl rfl))))
       refine rl_condM (j := 75) h rfl (fun g84 h => ?_) (fun g84 h => ?_)
       ·exact oP 75 rfl rfl g84 (oP 75 rfl rfl g84 (oV (v_pick_t rfl g84 rfl) (hJ83 _ () h _ (ji 3 78 rfl rfl rfl))))
       exact oK 75 rfl rfl rfl g84 (v_move rfl) (oK 75 rfl rfl rfl g84 (v_gtr64 rfl rfl) (oV (v_pick_f rfl g84 rfl) (hJ83 _ () h _ (ji 3 78 rfl rfl rfl))))
      refine rl_condM (j := 69) h rfl (fun g79 h => ?_) (fun g79 h => ?_)
      ·exact oP 69 rfl rfl g79 (oP 69 rfl rfl g79 (oP 69 rfl rfl g79 (oP 69 rfl rfl g79 (oV (v_pick_t rfl g79 rfl) (hJ78 _ () h _ (ji 5 74 rfl rfl rfl))))))
      exact oK 69 rfl rfl rfl g79 (v_move rfl) (oK 69 rfl rfl rfl g79 (v_move rfl) (cal_inv h fun y80 hy80 h => op_take rfl rfl (dj := 69) rfl g79 (t_callE (r04_at_w hy80) hT (s2 rfl rfl) .nil (cal_inv h fun y81 hy81 h => op_take rfl rfl (dj := 69) rfl g79 (t_callE (r04_letter_w hy81) hT (s1 rfl) .nil (oV (v_pick_f rfl g79 rfl) (hJ78 _ () h _ (ji 5 74 rfl rfl rfl))))))))
     refine rl_condM (j := 60) h rfl (fun g72 h => ?_) (fun g72 h => ?_)
     ·exact oP 60 rfl rfl g72 (oP 60 rfl rfl g72 (op_passU rfl (dj := 62) rfl (op_passU rfl (dj := 62) rfl (op_passU rfl (dj := 62) rfl (op_passU rfl (dj := 62) rfl (oP 60 rfl rfl g72 (oV (v_pick_t rfl g72 rfl) (hJ71 _ () h _ (ji 8 68 rfl rfl rfl)))))))))
     refine oK 60 rfl rfl rfl g72 (v_move rfl) (oK 60 rfl rfl rfl g72 (v_move rfl) (rl_j (jb 67) je .nil h 5 rfl (fun q73 g73 h => ?_) (fun J74 h hJ74 => ?_)))
     ·exact oV (v_pick_f rfl g72 rfl) (hJ71 _ () h _ (ji 4 68 rfl rfl rfl))
     refine rl_condM (j := 62) h rfl (fun g75 h => ?_) (fun g75 h => ?_)
     ·exact oK 62 rfl rfl rfl g75 (v_move rfl) (oK 62 rfl rfl rfl g75 (v_move rfl) (cal_inv h fun y76 hy76 h => oK 62 rfl rfl rfl g75 (v_idxS y76 st9 rfl rfl hy76) (oK 62 rfl rfl rfl g75 (v_eqA eq5 rfl rfl) (oK 60 rfl rfl rfl g72 (v_pick_t rfl g75 rfl) (hJ74 _ () h _ (ji 5 67 rfl rfl rfl))))))
     exact oP 62 rfl rfl g75 (oP 62 rfl rfl g75 (oP 62 rfl rfl g75 (oP 62 rfl rfl g75 (oK 60 rfl rfl rfl g72 (v_pick_f rfl g75 rfl) (hJ74 _ () h _ (ji 5 67 rfl rfl rfl))))))
    refine rl_condM (j := 50) h rfl (fun g65 h => ?_) (fun g65 h => ?_)
    ·refine oP 50 rfl rfl g65 (oP 50 rfl rfl g65 (oP 50 rfl rfl g65 (op_passU rfl (dj := 53) rfl (op_passU rfl (dj := 53) rfl (op_passU rfl (dj := 53) rfl (op_passU rfl (dj := 53) rfl (oP 50 rfl rfl g65 (oV (v_pick_t rfl g65 rfl) ?_))))))))
     exact hJ64 _ () h _ (ji 9 59 rfl rfl rfl)
    refine oK 50 rfl rfl rfl g65 (v_move rfl) (oK 50 rfl rfl rfl g65 (v_gtr rfl rfl) (oK 50 rfl rfl rfl g65 (v_move rfl) (rl_j (jb 58) je .nil h 5 rfl (fun q66 g66 h => ?_) (fun J67 h hJ67 => ?_))))
    ·exact oV (v_pick_f rfl g65 rfl) (hJ64 _ () h _ (ji 5 59 rfl rfl rfl))
    refine rl_condM (j := 53) h rfl (fun g68 h => ?_) (fun g68 h => ?_)
    ·exact oK 53 rfl rfl rfl g68 (v_move rfl) (oK 53 rfl rfl rfl g68 (v_move rfl) (cal_inv h fun y69 hy69 h => oK 53 rfl rfl rfl g68 (v_idxS y69 st9 rfl rfl hy69) (oK 53 rfl rfl rfl g68 (v_eqA eq5 rfl rfl) (oK 50 rfl rfl rfl g65 (v_pick_t rfl g68 rfl) (hJ67 _ () h _ (ji 5 58 rfl rfl rfl))))))
    exact oP 53 rfl rfl g68 (oP 53 rfl rfl g68 (oP 53 rfl rfl g68 (oP 53 rfl rfl g68 (oK 50 rfl rfl rfl g65 (v_pick_f rfl g68 rfl) (hJ67 _ () h _ (ji 5 58 rfl rfl rfl))))))
   refine rl_condM (j := 46) h rfl (fun g62 h => ?_) (fun g62 h => ?_)
   ·exact oP 46 rfl rfl g62 (oP 46 rfl rfl g62 (oV (v_pick_t rfl g62 rfl) (hJ61 _ () h _ (ji 3 49 rfl rfl rfl))))
   exact oK 46 rfl rfl rfl g62 (v_move rfl) (oK 46 rfl rfl rfl g62 (v_gtr rfl rfl) (oV (v_pick_f rfl g62 rfl) (hJ61 _ () h _ (ji 3 49 rfl rfl rfl))))
  refine rl_condM (j := 21) h rfl (fun g51 h => ?_) (fun g51 h => ?_)
  ·exact oK 21 rfl rfl rfl g51 (v_move rfl) (oK 21 rfl rfl rfl g51 (v_move rfl) (cal_inv h fun y52 hy52 h => oK 21 rfl rfl rfl g51 (v_idxS y52 st9 rfl rfl hy52) (cal_inv h fun y53 hy53 h => op_take rfl rfl (dj := 21) rfl g51 (t_callE (r04_digit_w hy53) hT (s1 rfl) .nil (oV (v_pick_t rfl g51 rfl) (hJ50 _ () h _ (ji 5 26 rfl rfl rfl)))))))
  exact oP 21 rfl rfl g51 (oP 21 rfl rfl g51 (oP 21 rfl rfl g51 (oP 21 rfl rfl g51 (oV (v_pick_f rfl g51 rfl) (hJ50 _ () h _ (ji 5 26 rfl rfl rfl))))))
 refine w_condM h rfl (fun _ h => ?_) (fun _ h => ?_)
 ·exact w_region (oM rfl (ck_inv h fun q4 h => oV (v_add rfl rfl q4) (oA rfl (rl_nil (hJ3 _ () h _ (ji 3 1 rfl rfl rfl))))))
 exact w_skip (hJ3 _ () h _ (ji 0 1 rfl rfl rfl))


theorem r04_hex_w : ∀ {a_s : Str} {a_i : Int} {r : Int × Str}, r04_hex a_s a_i = some r → Ctr Tryz.prog 75 [isv (a_s), isv (a_i)] [] (fun R H => R = oneOf [isv (r.1), isv (r.2)] ∧ H = []) := by
 intro a_s a_i r h
 unfold r04_hex at h
 refine spec_introD Tryz.func75 rfl fun w0 S0 hT => wsr (oA rfl (oA rfl (rnf (wsr (oM rfl (ck_inv h fun q1 h => oV (v_add rfl rfl q1) ?_))))))
 refine oA rfl (rnf (wsr (oM rfl (oA rfl (rnf (w_seq (w_block (w_lp (ι := Int) (γ := Unit) (fun q2 g2 => [(1, isv (q2))]) (fun q2 g2 => []) h () (mod_cons (j := 1) rfl hI mod_nil) .nil (fun L3 q2 g2 Q58 h hL3 eL3 rL3 => ?_)))))))))
 refine w_seq (wsr (oM rfl (oM rfl (oV (v_lenS st9 rfl) (oV (v_lss rfl rfl) (oM rfl (rl_j (jb 31) je .nil h 17 rfl (fun q31 g31 h => ?_) (fun J32 h hJ32 => ?_))))))))
 ·refine rnf (w_condM h rfl (fun _ h => ?_) (fun _ h => ?_))
  ·refine wkf (w_block (w_region (oM rfl (ck_inv h fun q44 h => oV (v_add rfl rfl q44) (oA rfl (rl_nil (fin_block ?_)))))))
   exact hL3 _ () h _ (ji 10 1 rfl rfl rfl)
  refine w_exit (exi_nxt (eL3 _ _ (exi_block (fin_nxt (w_seq (wsr (oM rfl (oM rfl ?_))))))))
  refine ck_inv h fun q45 h => oV (v_sub rfl rfl q45) (asr_inv h fun q46 h => oV (v_remI rfl rfl q46) (oV (v_neq rfl rfl) (oM rfl (rl_j (jb 44) je .nil h 5 rfl (fun q47 g47 h => ?_) (fun J48 h hJ48 => ?_)))))
  ·refine oM rfl (rl_j (jb 51) je .nil h 6 rfl (fun q51 g51 h => ?_) (fun J52 h hJ52 => ?_))
   ·refine rnf (w_condM h rfl (fun _ h => ?_) (fun _ h => ?_))
    ·refine wsr (oA rfl (oA rfl (rnf (w_ret (ret_nxt ?_)))))
     cases h
     exact ret_post (.tmp rfl (.tmp rfl .nil)) .nil ⟨rfl, rfl⟩
    refine wkf (w_seq (w_regionD (.v 0 (.v 1 (.v 2 (.v 3 (.v 4 (.v 5 (.v 6 (.v 7 .nil)))))))) moOrd (by kernel_rfl) ?_))
    refine rvm rfl rfl (ck_inv h fun q56 h => rd_v rfl (v_add rfl rfl q56) (rvm rfl rfl (rvm rfl rfl (rvm rfl rfl (asd_inv h fun q57 h => rd_v rfl (v_slS st9 rfl (.inr ⟨_, rfl, rfl⟩) (.inr ⟨_, rfl, rfl⟩) q57.1 q57.2.1 q57.2.2) (rd_v rfl (v_assign rfl) ?_))))))
    refine rd_v rfl (v_assign rfl) (rd_nil (fin_nxt (w_ret ?_)))
    cases h
    exact ret_post (.tmp rfl (.tmp rfl .nil)) .nil ⟨rfl, rfl⟩
   refine rl_condM (j := 45) h rfl (fun g53 h => ?_) (fun g53 h => ?_)
   ·exact oP 45 rfl rfl g53 (oP 45 rfl rfl g53 (oP 45 rfl rfl g53 (oP 45 rfl rfl g53 (oP 45 rfl rfl g53 (oV (v_pick_t rfl g53 rfl) (hJ52 _ () h _ (ji 6 51 rfl rfl rfl)))))))
   exact oK 45 rfl rfl rfl g53 (v_move rfl) (oK 45 rfl rfl rfl g53 (v_move rfl) (ck_inv h fun q54 h => oK 45 rfl rfl rfl g53 (v_add rfl rfl q54) (cal_inv h fun y55 hy55 h => op_take rfl rfl (dj := 45) rfl g53 (t_callE (r04_at_w hy55) hT (s2 rfl rfl) .nil (oK 45 rfl rfl rfl g53 (v_neA eq5 rfl rfl) (oV (v_pick_f rfl g53 rfl) (hJ52 _ () h _ (ji 6 51 rfl rfl rfl))))))))
  refine rl_condM (j := 39) h rfl (fun g49 h => ?_) (fun g49 h => ?_)
  ·exact oP 39 rfl rfl g49 (oP 39 rfl rfl g49 (oP 39 rfl rfl g49 (oP 39 rfl rfl g49 (oV (v_pick_t rfl g49 rfl) (hJ48 _ () h _ (ji 5 44 rfl rfl rfl))))))
  exact oK 39 rfl rfl rfl g49 (v_move rfl) (oK 39 rfl rfl rfl g49 (v_move rfl) (cal_inv h fun y50 hy50 h => op_take rfl rfl (dj := 39) rfl g49 (t_callE (r04_at_w hy50) hT (s2 rfl rfl) .nil (oK 39 rfl rfl rfl g49 (v_neA eq5 rfl rfl) (oV (v_pick_f rfl g49 rfl) (hJ48 _ () h _ (ji 5 44 rfl rfl rfl)))))))
 refine rl_condM (j := 14) h rfl (fun g33 h => ?_) (fun g33 h => ?_)
 ·refine oK 14 rfl rfl rfl g33 (v_move rfl) (oK 14 rfl rfl rfl g33 (v_move rfl) (cal_inv h fun y34 hy34 h => oK 14 rfl rfl rfl g33 (v_idxS y34 st9 rfl rfl hy34) (cal_inv h fun y35 hy35 h => op_take rfl rfl (dj := 14) rfl g33 (t_callE (r04_digit_w hy35) hT (s1 rfl) .nil (oK 14 rfl rfl rfl g33 (v_move rfl) (rl_j (jb 30) je .nil h 11 rfl (fun q36 g36 h => ?_) (fun J37 h hJ37 => ?_)))))))
  ·exact oV (v_pick_t rfl g33 rfl) (hJ32 _ () h _ (ji 7 31 rfl rfl rfl))
  refine rl_condM (j := 19) h rfl (fun g38 h => ?_) (fun g38 h => ?_)
  ·refine oP 19 rfl rfl g38 (oP 19 rfl rfl g38 (oP 19 rfl rfl g38 (oP 19 rfl rfl g38 (oP 19 rfl rfl g38 (op_passU rfl (dj := 24) rfl (op_passU rfl (dj := 24) rfl (op_passU rfl (dj := 24) rfl (op_passU rfl (dj := 24) rfl ?_))))))))
   exact oP 19 rfl rfl g38 (oK 14 rfl rfl rfl g33 (v_pick_t rfl g38 rfl) (hJ37 _ () h _ (ji 11 30 rfl rfl rfl)))
  refine oK 19 rfl rfl rfl g38 (v_move rfl) (oK 19 rfl rfl rfl g38 (v_move rfl) (cal_inv h fun y39 hy39 h => oK 19 rfl rfl rfl g38 (v_idxS y39 st9 rfl rfl hy39) (oK 19 rfl rfl rfl g38 (v_geq8 rfl rfl) (oK 19 rfl rfl rfl g38 (v_move rfl) (rl_j (jb 29) je .nil h 5 rfl (fun q40 g40 h => ?_) (fun J41 h hJ41 => ?_))))))
  ·exact oK 14 rfl rfl rfl g33 (v_pick_f rfl g38 rfl) (hJ37 _ () h _ (ji 7 30 rfl rfl rfl))
  refine rl_condM (j := 24) h rfl (fun g42 h => ?_) (fun g42 h => ?_)
  ·exact oK 24 rfl rfl rfl g42 (v_move rfl) (oK 24 rfl rfl rfl g42 (v_move rfl) (cal_inv h fun y43 hy43 h => oK 24 rfl rfl rfl g42 (v_idxS y43 st9 rfl rfl hy43) (oK 24 rfl rfl rfl g42 (v_leq8 rfl rfl) (oK 19 rfl rfl rfl g38 (v_pick_t rfl g42 rfl) (hJ41 _ () h _ (ji 5 29 rfl rfl rfl))))))
  exact oP 24 rfl rfl g42 (oP 24 rfl rfl g42 (oP 24 rfl rfl g42 (oP 24 rfl rfl g42 (oK 19 rfl rfl rfl g38 (v_pick_f rfl g42 rfl) (hJ41 _ () h _ (ji 5 29 rfl rfl rfl))))))
 refine oP 14 rfl rfl g33 (oP 14 rfl rfl g33 (oP 14 rfl rfl g33 (oP 14 rfl rfl g33 (oP 14 rfl rfl g33 (op_passU rfl (dj := 19) rfl (op_passU rfl (dj := 19) rfl (op_passU rfl (dj := 19) rfl (op_passU rfl (dj := 19) rfl ?_))))))))
 exact op_passU rfl (dj := 19) rfl (op_passU rfl (dj := 24) rfl (op_passU rfl (dj := 24) rfl (op_passU rfl (dj := 24) rfl (op_passU rfl (dj := 24) rfl (op_passU rfl (dj := 19) rfl (oP 14 rfl rfl g33 (oV (v_pick_f rfl g33 rfl) (hJ32 _ () h _ (ji 17 31 rfl rfl rfl)))))))))


theorem r04_quoted_w : ∀ {a_s : Str} {a_i : Int} {r : Int × Str}, r04_quoted a_s a_i = some r → Ctr Tryz.prog 76 [isv (a_s), isv (a_i)] [] (fun R H => R = oneOf [isv (r.1), isv (r.2)] ∧ H = []) := by
 intro a_s a_i r h
 unfold r04_quoted at h
 refine spec_introD Tryz.func76 rfl fun w0 S0 hT => wsr (oA rfl (oA rfl (rnf (wsr (oA rfl (rnf (w_seq ?_)))))))
 refine wsr (oM rfl (ck_inv h fun q1 h => oV (v_add rfl rfl q1) (oA rfl (rnf (w_block (w_lp (ι := Int × Str) (γ := Unit) (fun q2 g2 => [(1, isv (q2.1)), (6, isv (q2.2))]) (fun q2 g2 => []) h () (mod_cons (j := 1) rfl hI (mod_cons (j := 6) rfl hI mod_nil)) .nil (fun L3 q2 g2 Q30 h hL3 eL3 rL3 => w_seq ?_)))))))
 refine wsr (oM rfl (oM rfl (oV (v_lenS st9 rfl) (oV (v_lss rfl rfl) (rnf (w_condM h rfl (fun _ h => ?_) (fun _ h => ?_)))))))
 ·refine wkf (w_seq (w_J (ι := Int × Str) (γ := Unit) (fun q17 g17 => [(1, isv (q17.1)), (6, isv (q17.2))]) (fun q17 g17 => []) .nil h (fun q17 g17 h => ?_) (fun J18 h hJ18 => ?_)))
  ·exact w_region (oM rfl (ck_inv h fun q29 h => oV (v_add rfl rfl q29) (oA rfl (rl_nil (hL3 _ () h _ (join_imp 11 rfl rfl (mod_cons (j := 1) rfl hI (mod_cons (j := 6) rfl hI mod_nil)) .nil))))))
  refine w_block (w_seq (wsr (oM rfl (oM rfl (cal_inv h fun y19 hy19 h => oV (v_idxS y19 st9 rfl rfl hy19) (oV (v_neA eq5 rfl rfl) (rnf ?_)))))))
  refine w_condM h rfl (fun _ h => ?_) (fun _ h => ?_)
  ·refine wsr (oM rfl (oM rfl (oM rfl (oM rfl (ck_inv h fun q20 h => oV (v_add rfl rfl q20) (asd_inv h fun q21 h => oV (v_slS st9 rfl (.inr ⟨_, rfl, rfl⟩) (.inr ⟨_, rfl, rfl⟩) q21.1 q21.2.1 q21.2.2) ?_))))))
   exact asr_inv h fun q22 h => oV (v_cat rfl rfl q22) (oA rfl (rnf (w_exit (exi_nxt (exi_block (hJ18 _ () h _ (join_imp 12 rfl rfl (mod_cons (j := 1) rfl hI (mod_cons (j := 6) rfl hI mod_nil)) .nil)))))))
  refine wkf (w_seq (wsr (oM rfl (oM rfl (ck_inv h fun q23 h => oV (v_add rfl rfl q23) (cal_inv h fun y24 hy24 h => oT (t_callE (r04_at_w hy24) hT (s2 rfl rfl) .nil ?_)))))))
  refine oV (v_neA eq5 rfl rfl) (rnf (w_condM h rfl (fun _ h => ?_) (fun _ h => ?_)))
  ·refine w_seq (wsr (oM rfl (cal_inv h fun y25 hy25 h => oT (t_callE (utf8_ValidString_w hy25) hT (s1 rfl) .nil (oV (v_not rfl) (rnf (w_condM h rfl (fun _ h => ?_) (fun _ h => ?_))))))))
   ·refine wsr (oA rfl (oA rfl (rnf (w_ret (ret_nxt (ret_nxt (ret_block (ret_nxt ?_))))))))
    refine rL3 _ (ret_block (ret_nxt ?_))
    cases h
    exact ret_post (.tmp rfl (.tmp rfl .nil)) .nil ⟨rfl, rfl⟩
   refine wkf (wsr (oM rfl (ck_inv h fun q26 h => oV (v_add rfl rfl q26) (oM rfl (oA rfl (oA rfl (rnf ?_)))))))
   refine w_ret (ret_nxt (ret_block (ret_nxt (rL3 _ (ret_block (ret_nxt ?_))))))
   cases h
   exact ret_post (.tmp rfl (.tmp rfl .nil)) .nil ⟨rfl, rfl⟩
  refine wkf (wsr (oM rfl (asr_inv h fun q27 h => oV (v_cat rfl rfl q27) (oA rfl (rnf (w_region (oM rfl ?_)))))))
  exact ck_inv h fun q28 h => oV (v_add rfl rfl q28) (oA rfl (rl_nil (fin_block (hJ18 _ () h _ (join_imp 15 rfl rfl (mod_cons (j := 1) rfl hI (mod_cons (j := 6) rfl hI mod_nil)) .nil)))))
 refine w_exit (exi_nxt (eL3 _ _ (exi_block (fin_nxt (wsr (oA rfl (oA rfl (rnf ?_))))))))
 refine w_ret ?_
 cases h
 exact ret_post (.tmp rfl (.tmp rfl .nil)) .nil ⟨rfl, rfl⟩


theorem r04_sign_w : ∀ {a_s : Str} {a_i : Int} {r : Int}, r04_sign a_s a_i = some r → Ctr Tryz.prog 77 [isv (a_s), isv (a_i)] [] (fun R H => R = oneOf [isv (r)] ∧ H = []) := by
 intro a_s a_i r h
 unfold r04_sign at h
 refine spec_introD Tryz.func77 rfl fun w0 S0 hT => wsr (oA rfl (rnf (wsr (oM rfl (oM rfl (asd_inv h fun q1 h => oV (v_slS st9 rfl (.inr ⟨_, rfl, rfl⟩) (.inl ⟨rfl, rfl⟩) q1.1 q1.2.1 q1.2.2) ?_))))))
 refine oA rfl (rnf (wsr (oT (t_buildSlice (l := ([(Str.mk [58, 58, 61]), (Str.mk [46, 46, 46]), (Str.mk [46, 46]), (Str.mk [91, 91]), (Str.mk [93, 93]), (Str.mk [123]), (Str.mk [125]), (Str.mk [91]), (Str.mk [93]), (Str.mk [40]), (Str.mk [41]), (Str.mk [44]), (Str.mk [58])] : (List Str))) el22 (.cons rfl hI (.cons rfl hI (.cons rfl hI (.cons rfl hI (.cons rfl hI (.cons rfl hI (.cons rfl hI (.cons rfl hI (.cons rfl hI (.cons rfl hI (.cons rfl hI (.cons rfl hI (.cons rfl hI .nil))))))))))))) rfl rfl (oA rfl (rnf (w_seq (wsr (oA rfl ?_)))))))))
 refine rnf (w_block (w_lp (ι := Int) (γ := Unit) (fun q3 g3 => [(7, isv (q3))]) (fun q3 g3 => []) h () (mod_cons (j := 7) rfl hI mod_nil) .nil (fun L4 q3 g3 Q19 h hL4 eL4 rL4 => w_seq (wsr (oM rfl (oM rfl (oV (v_ln (l := ([(Str.mk [58, 58, 61]), (Str.mk [46, 46, 46]), (Str.mk [46, 46]), (Str.mk [91, 91]), (Str.mk [93, 93]), (Str.mk [123]), (Str.mk [125]), (Str.mk [91]), (Str.mk [93]), (Str.mk [40]), (Str.mk [41]), (Str.mk [44]), (Str.mk [58])] : (List Str))) rfl appv_isv sl22) (oV (v_lss rfl rfl) ?_))))))))
 refine rnf (w_condM h rfl (fun _ h => ?_) (fun _ h => ?_))
 ·refine wkf (w_seq (w_block (wsr (oM rfl (oM rfl (cal_inv h fun y12 hy12 h => oV (v_ix (l := ([(Str.mk [58, 58, 61]), (Str.mk [46, 46, 46]), (Str.mk [46, 46]), (Str.mk [91, 91]), (Str.mk [93, 93]), (Str.mk [123]), (Str.mk [125]), (Str.mk [91]), (Str.mk [93]), (Str.mk [40]), (Str.mk [41]), (Str.mk [44]), (Str.mk [58])] : (List Str))) rfl appv_isv rfl sl22 hy12) (oV (v_loadI ty9 rfl) ?_)))))))
  refine oV (v_lenS st9 rfl) (oA rfl (rnf (w_seq (w_regionD (.v 0 (.v 1 (.v 2 (.v 3 (.v 4 (.v 5 (.v 6 (.v 7 (.v 8 (.v 9 (.v 10 (.v 11 (.v 12 (.v 13 .nil)))))))))))))) moOrd (by kernel_rfl) ?_))))
  refine rvm rfl rfl (rd_v rfl (v_lenS st9 rfl) (rvm rfl rfl (rd_v rfl (v_geq rfl rfl) (rvm rfl rfl (rd_j (jb 37) je .nil h 9 rfl (fun q13 g13 h => ?_) (fun J14 h hJ14 => ?_))))))
  ·refine rd_nil (fin_nxt (w_condM h rfl (fun _ h => ?_) (fun _ h => ?_)))
   ·refine wsr (oM rfl (oA rfl (rnf (w_ret (ret_block (ret_nxt (rL4 _ (ret_block ?_))))))))
    refine ret_nxt ?_
    cases h
    exact ret_post (.tmp rfl .nil) .nil ⟨rfl, rfl⟩
   refine w_skip (fin_block (fin_nxt (w_region (oM rfl (ck_inv h fun q18 h => oV (v_add rfl rfl q18) (oA rfl (rl_nil ?_)))))))
   exact hL4 _ () h _ (ji 20 7 rfl rfl rfl)
  refine rd_condM (j := 28) h rfl (fun g15 h => ?_) (fun g15 h => ?_)
  ·refine rvt 28 rfl rfl rfl g15 (v_move rfl) (rvt 28 rfl rfl rfl g15 (v_move rfl) (asd_inv h fun q16 h => rvt 28 rfl rfl rfl g15 (v_slS st9 rfl (.inl ⟨rfl, rfl⟩) (.inr ⟨_, rfl, rfl⟩) q16.1 q16.2.1 q16.2.2) (rvt 28 rfl rfl rfl g15 (v_move rfl) (rvt 28 rfl rfl rfl g15 (v_move rfl) (cal_inv h fun y17 hy17 h => rvt 28 rfl rfl rfl g15 (v_ix (l := ([(Str.mk [58, 58, 61]), (Str.mk [46, 46, 46]), (Str.mk [46, 46]), (Str.mk [91, 91]), (Str.mk [93, 93]), (Str.mk [123]), (Str.mk [125]), (Str.mk [91]), (Str.mk [93]), (Str.mk [40]), (Str.mk [41]), (Str.mk [44]), (Str.mk [58])] : (List Str))) rfl appv_isv rfl sl22 hy17) (rvt 28 rfl rfl rfl g15 (v_loadI ty9 rfl) ?_))))))
   exact rvt 28 rfl rfl rfl g15 (v_eqA eq9 rfl rfl) (rd_v rfl (v_pick_t rfl g15 rfl) (hJ14 _ () h _ (ji 9 37 rfl rfl rfl)))
  refine rpv 28 rfl rfl rfl g15 (rpv 28 rfl rfl rfl g15 (rpv 28 rfl rfl rfl g15 (rpv 28 rfl rfl rfl g15 (rpv 28 rfl rfl rfl g15 (rpv 28 rfl rfl rfl g15 (rpv 28 rfl rfl rfl g15 (rpv 28 rfl rfl rfl g15 (rd_v rfl (v_pick_f rfl g15 rfl) ?_))))))))
  exact hJ14 _ () h _ (ji 9 37 rfl rfl rfl)
 refine w_exit (exi_nxt (eL4 _ _ (exi_block (fin_nxt (wsr (oA rfl (rnf (w_ret ?_))))))))
 cases h
 exact ret_post (.tmp rfl .nil) .nil ⟨rfl, rfl⟩


theorem r04_one_w : ∀ {a_s : Str} {a_i : Int} {r : GTok × Int}, r04_one a_s a_i = some r → Ctr Tryz.prog 49 [isv (a_s), isv (a_i)] [] (fun R H => R = oneOf [isv (r.1), isv (r.2)] ∧ H = []) := by
 intro a_s a_i r h
 unfold r04_one at h
 refine spec_introD Tryz.func49 rfl fun w0 S0 hT => wsr (oT (t_alloc _ ze88 fun b1 => oA rfl (rnf (wsr (oM rfl (oV (v_build (z := (GTok.mk (0 : Int) (Str.mk []) a_i)) rfl bu88 ze88 (.cons GTok.f2 fd88_2 rfl hI .nil)) (oT (t_alloc _ ze88 fun b2 => ?_))))))))
 refine oT (t_storeC (y' := ((GTok.mk (0 : Int) (Str.mk []) a_i) : GTok)) ty88 rfl rfl hI .here rfl (rnf (wsr (oM rfl (oM rfl (cal_inv h fun y3 hy3 h => oV (v_idxS y3 st9 rfl rfl hy3) (oA rfl (rnf ?_))))))))
 refine wsr (oA rfl (rnf (w_seq (w_J (ι := Int × GTok) (γ := Unit) (fun q4 g4 => [(8, isv (q4.1))]) (fun q4 g4 => [boxE b2 (q4.2 : GTok)]) k1 h (fun q4 g4 h => ?_) (fun J5 h hJ5 => ?_)))))
 ·refine wsr (oT (t_loadC (R := isv (q4.2)) ty88 rfl .here hI (oM rfl (oT (t_storeC (y' := (q4.2 : GTok)) ty88 rfl rfl hI tH rfl (oA rfl (rnf (w_ret ?_))))))))
  cases h
  exact ret_post (.cell rfl .here ty88 (.tmp rfl .nil)) .nil ⟨rfl, rfl⟩
 refine w_block (wsr (oM rfl (cal_inv h fun y6 hy6 h => oT (t_callE (r04_letter_w hy6) hT (s1 rfl) .nil (oA rfl (rnf (w_condM h rfl (fun _ h => ?_) (fun _ h => ?_))))))))
 ·refine wsr (oM rfl (oM rfl (cal_inv h fun y7 hy7 h => oT (t_callE (r04_name_w hy7) hT (s2 rfl rfl) .nil (oA rfl (rnf (w_seq (wsr ?_))))))))
  refine oM rfl (oV (v_lss rfl rfl) (rnf (w_condM h rfl (fun _ h => ?_) (fun _ h => ?_))))
  ·refine wsr (oT (t_loadC (R := isv ((GTok.mk (0 : Int) (Str.mk []) a_i))) ty88 rfl .here hI (oT (t_storeC (y' := ((GTok.mk (0 : Int) (Str.mk []) a_i) : GTok)) ty88 rfl rfl hI tH rfl (oA rfl (rnf (w_ret (ret_nxt (ret_block (ret_nxt ?_))))))))))
   cases h
   exact ret_post (.cell rfl .here ty88 (.tmp rfl .nil)) .nil ⟨rfl, rfl⟩
  refine wkf (w_seq (w_regionD (.v 0 (.v 1 (.v 2 (.v 3 (.v 4 (.t 5 (.v 6 (.t 7 .nil)))))))) moOrd (by kernel_rfl) ?_))
  refine rvm rfl rfl (rvm rfl rfl (rvm rfl rfl (asd_inv h fun q8 h => rd_v rfl (v_slS st9 rfl (.inr ⟨_, rfl, rfl⟩) (.inr ⟨_, rfl, rfl⟩) q8.1 q8.2.1 q8.2.2) (rd_v rfl (v_fa rfl GTok.f0 fd88_0) (rd_t rfl rfl (t_storeC (y' := ((GTok.mk (2 : Int) (Str.mk []) a_i) : GTok)) ty3 rfl rfl hI .here rfl (rd_v rfl (v_fa rfl GTok.f1 fd88_1) (rd_t rfl rfl (t_storeC (y' := ((GTok.mk (2 : Int) (Str.mk ((a_s.b.take (y7).toNat).drop (a_i).toNat)) a_i) : GTok)) ty9 rfl rfl hI .here rfl ?_)))))))))
  refine rd_nil (fin_nxt (w_seq (wsr (oM rfl (oV (v_leq8 rfl rfl) (rnf (w_J (ι := GTok) (γ := Unit) (fun q9 g9 => []) (fun q9 g9 => [boxE b2 (q9 : GTok)]) k1 h (fun q9 g9 h => ?_) (fun J10 h hJ10 => ?_))))))))
  ·refine wsr (oV (v_fa rfl GTok.f1 fd88_1) (oT (t_loadC (R := isv (q9.text)) ty9 rfl .here hI (cal_inv h fun y11 hy11 h => oT (t_callE (r04_Word_w hy11) hT (s1 rfl) .nil (rnf (w_condM h rfl (fun _ h => ?_) (fun _ h => ?_))))))))
   ·exact w_region (oV (v_fa rfl GTok.f0 fd88_0) (oT (t_storeC (y' := ({ q9 with kind := (5 : Int) } : GTok)) ty3 rfl rfl hI .here rfl (rl_nil (fin_block (hJ5 _ () h _ (join_imp 21 rfl rfl (mod_cons (j := 8) rfl hI mod_nil) k2)))))))
   exact w_skip (fin_block (hJ5 _ () h _ (join_imp 20 rfl rfl (mod_cons (j := 8) rfl hI mod_nil) k2)))
  refine w_condM h rfl (fun _ h => ?_) (fun _ h => ?_)
  ·exact w_region (oV (v_fa rfl GTok.f0 fd88_0) (oT (t_storeC (y' := ((GTok.mk (1 : Int) (Str.mk ((a_s.b.take (y7).toNat).drop (a_i).toNat)) a_i) : GTok)) ty3 rfl rfl hI .here rfl (rl_nil (hJ10 _ () h _ (join_imp 1 rfl rfl mod_nil k2))))))
  exact w_skip (hJ10 _ () h _ (join_imp 0 rfl rfl mod_nil k2))
 refine wsr (oM rfl (cal_inv h fun y12 hy12 h => oT (t_callE (r04_digit_w hy12) hT (s1 rfl) .nil (oM rfl (rl_j (jb 66) je .nil h 10 rfl (fun q13 g13 h => ?_) (fun J14 h hJ14 => ?_))))))
 ·refine oA rfl (rnf (w_condM h rfl (fun _ h => ?_) (fun _ h => ?_)))
  ·refine wsr (oM rfl (oM rfl (cal_inv h fun y22 hy22 h => oT (t_callE (r04_number_w hy22) hT (s2 rfl rfl) .nil (oA rfl (rnf (w_seq (wsr ?_))))))))
   refine oM rfl (oV (v_lss rfl rfl) (rnf (w_condM h rfl (fun _ h => ?_) (fun _ h => ?_))))
   ·refine wsr (oT (t_loadC (R := isv ((GTok.mk (0 : Int) (Str.mk []) a_i))) ty88 rfl .here hI (oT (t_storeC (y' := ((GTok.mk (0 : Int) (Str.mk []) a_i) : GTok)) ty88 rfl rfl hI tH rfl (oA rfl (rnf (w_ret (ret_nxt (ret_block (ret_nxt ?_))))))))))
    cases h
    exact ret_post (.cell rfl .here ty88 (.tmp rfl .nil)) .nil ⟨rfl, rfl⟩
   refine wkf (w_regionD (.v 0 (.v 1 (.v 2 (.v 3 (.v 4 (.t 5 (.v 6 (.t 7 .nil)))))))) moOrd (by kernel_rfl) ?_)
   refine rvm rfl rfl (rvm rfl rfl (rvm rfl rfl (asd_inv h fun q23 h => rd_v rfl (v_slS st9 rfl (.inr ⟨_, rfl, rfl⟩) (.inr ⟨_, rfl, rfl⟩) q23.1 q23.2.1 q23.2.2) (rd_v rfl (v_fa rfl GTok.f0 fd88_0) (rd_t rfl rfl (t_storeC (y' := ((GTok.mk (3 : Int) (Str.mk []) a_i) : GTok)) ty3 rfl rfl hI .here rfl (rd_v rfl (v_fa rfl GTok.f1 fd88_1) (rd_t rfl rfl (t_storeC (y' := ((GTok.mk (3 : Int) (Str.mk ((a_s.b.take (y22).toNat).drop (a_i).toNat)) a_i) : GTok)) ty9 rfl rfl hI .here rfl ?_)))))))))
   exact rd_nil (fin_block (hJ5 _ () h _ (join_imp 20 rfl rfl (mod_cons (j := 8) rfl hI mod_nil) k2)))
  refine wsr (oM rfl (oV (v_eqA eq5 rfl rfl) (oA rfl (rnf (w_condM h rfl (fun _ h => ?_) (fun _ h => ?_))))))
  ·refine wsr (oV (v_fa rfl GTok.f0 fd88_0) (oT (t_storeC (y' := ((GTok.mk (4 : Int) (Str.mk []) a_i) : GTok)) ty3 rfl rfl hI .here rfl (rnf (w_region (oM rfl (oM rfl (cal_inv h fun y24 hy24 h => oT (t_callE (r04_hex_w hy24) hT (s2 rfl rfl) .nil ?_)))))))))
   exact oM rfl (oV (v_extract rfl rfl) (oV (v_extract rfl rfl) (oA rfl (oV (v_fa rfl GTok.f1 fd88_1) (oT (t_storeC (y' := ((GTok.mk (4 : Int) y24.2 a_i) : GTok)) ty9 rfl rfl hI .here rfl (rl_nil (fin_block (hJ5 _ () h _ (join_imp 20 rfl rfl (mod_cons (j := 8) rfl hI mod_nil) k2))))))))))
  refine wsr (oM rfl (oV (v_eqA eq5 rfl rfl) (oA rfl (rnf (w_condM h rfl (fun _ h => ?_) (fun _ h => ?_))))))
  ·refine wsr (oV (v_fa rfl GTok.f0 fd88_0) (oT (t_storeC (y' := ((GTok.mk (7 : Int) (Str.mk []) a_i) : GTok)) ty3 rfl rfl hI .here rfl (rnf (w_region (oM rfl (oM rfl (cal_inv h fun y25 hy25 h => oT (t_callE (r04_quoted_w hy25) hT (s2 rfl rfl) .nil ?_)))))))))
   exact oM rfl (oV (v_extract rfl rfl) (oV (v_extract rfl rfl) (oA rfl (oV (v_fa rfl GTok.f1 fd88_1) (oT (t_storeC (y' := ((GTok.mk (7 : Int) y25.2 a_i) : GTok)) ty9 rfl rfl hI .here rfl (rl_nil (fin_block (hJ5 _ () h _ (join_imp 23 rfl rfl (mod_cons (j := 8) rfl hI mod_nil) k2))))))))))
  refine wsr (oM rfl (oM rfl (cal_inv h fun y26 hy26 h => oT (t_callE (r04_sign_w hy26) hT (s2 rfl rfl) .nil (oA rfl (rnf (wsr (oM rfl ?_))))))))
  refine oV (v_gtr rfl rfl) (rnf (w_condM h rfl (fun _ h => ?_) (fun _ h => ?_)))
  ·refine w_regionD (.v 0 (.v 1 (.v 2 (.v 3 (.v 4 (.v 5 (.v 6 (.v 7 (.v 8 (.v 9 (.t 10 (.v 11 (.t 12 (.v 13 .nil)))))))))))))) moOrd (by kernel_rfl) ?_
   refine rvm rfl rfl (rvm rfl rfl (rvm rfl rfl (rvm rfl rfl (ck_inv h fun q27 h => rd_v rfl (v_add rfl rfl q27) (asd_inv h fun q28 h => rd_v rfl (v_slS st9 rfl (.inr ⟨_, rfl, rfl⟩) (.inr ⟨_, rfl, rfl⟩) q28.1 q28.2.1 q28.2.2) (rvm rfl rfl ?_))))))
   refine rvm rfl rfl (ck_inv h fun q29 h => rd_v rfl (v_add rfl rfl q29) (rd_v rfl (v_fa rfl GTok.f0 fd88_0) (rd_t rfl rfl (t_storeC (y' := ((GTok.mk (6 : Int) (Str.mk []) a_i) : GTok)) ty3 rfl rfl hI .here rfl (rd_v rfl (v_fa rfl GTok.f1 fd88_1) (rd_t rfl rfl (t_storeC (y' := ((GTok.mk (6 : Int) (Str.mk ((a_s.b.take ((a_i + y26)).toNat).drop (a_i).toNat)) a_i) : GTok)) ty9 rfl rfl hI .here rfl (rd_v rfl (v_assign rfl) (rd_nil ?_)))))))))
   exact fin_block (hJ5 _ () h _ (join_imp 32 rfl rfl (mod_cons (j := 8) rfl hI mod_nil) k2))
  exact w_skip (fin_block (hJ5 _ () h _ (join_imp 20 rfl rfl (mod_cons (j := 8) rfl hI mod_nil) k2)))
 refine rl_condM (j := 56) h rfl (fun g15 h => ?_) (fun g15 h => ?_)
 ·refine oP 56 rfl rfl g15 (oP 56 rfl rfl g15 (oP 56 rfl rfl g15 (op_passU rfl (dj := 59) rfl (op_passU rfl (dj := 59) rfl (op_passU rfl (dj := 59) rfl (op_passU rfl (dj := 59) rfl (op_passU rfl (dj := 59) rfl (oP 56 rfl rfl g15 ?_))))))))
  exact oV (v_pick_t rfl g15 rfl) (hJ14 _ () h _ (join_imp 10 rfl rfl (mod_cons (j := 66) rfl hI mod_nil) k2))
 refine oK 56 rfl rfl rfl g15 (v_move rfl) (oK 56 rfl rfl rfl g15 (v_eqA eq5 rfl rfl) (oK 56 rfl rfl rfl g15 (v_move rfl) (rl_j (jb 65) je .nil h 6 rfl (fun q16 g16 h => ?_) (fun J17 h hJ17 => ?_))))
 ·exact oV (v_pick_f rfl g15 rfl) (hJ14 _ () h _ (join_imp 5 rfl rfl (mod_cons (j := 66) rfl hI mod_nil) k2))
 refine rl_condM (j := 59) h rfl (fun g18 h => ?_) (fun g18 h => ?_)
 ·refine oK 59 rfl rfl rfl g18 (v_move rfl) (oK 59 rfl rfl rfl g18 (v_move rfl) (ck_inv h fun q19 h => oK 59 rfl rfl rfl g18 (v_add rfl rfl q19) (cal_inv h fun y20 hy20 h => op_take rfl rfl (dj := 59) rfl g18 (t_callE (r04_at_w hy20) hT (s2 rfl rfl) .nil (cal_inv h fun y21 hy21 h => op_take rfl rfl (dj := 59) rfl g18 (t_callE (r04_digit_w hy21) hT (s1 rfl) .nil (oK 56 rfl rfl rfl g15 (v_pick_t rfl g18 rfl) ?_)))))))
  exact hJ17 _ () h _ (join_imp 6 rfl rfl (mod_cons (j := 65) rfl hI mod_nil) k2)
 exact oP 59 rfl rfl g18 (oP 59 rfl rfl g18 (oP 59 rfl rfl g18 (oP 59 rfl rfl g18 (oP 59 rfl rfl g18 (oK 56 rfl rfl rfl g15 (v_pick_f rfl g18 rfl) (hJ17 _ () h _ (join_imp 6 rfl rfl (mod_cons (j := 65) rfl hI mod_nil) k2)))))))


theorem r04_Tokens_w : ∀ {a_text : Str} {r : (List GTok) × Int × Int}, r04_Tokens a_text = some r → Ctr Tryz.prog 27 [isv (a_text)] [] (fun R H => R = oneOf [isv (r.1), isv (r.2.1), isv (r.2.2)] ∧ H = []) := by
 intro a_text r h
 unfold r04_Tokens at h
 refine spec_introD Tryz.func27 rfl fun w0 S0 hT => wsr (oA rfl (oA rfl (oA rfl (rnf (w_seq (wsr (oM rfl ?_)))))))
 refine oV (v_lenS st9 rfl) (oV (v_gtr rfl rfl) (rnf (w_condM h rfl (fun _ h => ?_) (fun _ h => ?_))))
 ·refine wsr (oA rfl (oA rfl (oA rfl (rnf (w_ret (ret_nxt ?_))))))
  cases h
  exact ret_post (.as rfl (nilv_isv (α := GTok)) (.tmp rfl (.tmp rfl .nil))) .nil ⟨rfl, rfl⟩
 refine wkf (wsr (oA rfl (rnf (wsr (oA rfl (rnf (w_block (w_upd (upd_tok) ?_))))))))
 refine w_lp (ι := (List GTok) × Int) (γ := Tok) (fun q1 g1 => [(5, appv g1 (q1.1)), (6, isv (q1.2))]) (fun q1 g1 => [tokE g1]) h (none) (mod_cons (j := 5) rfl nilv_appv (mod_cons (j := 6) rfl hI mod_nil)) k1 (fun L2 q1 g1 Q22 h hL2 eL2 rL2 => w_block (wsr (oM rfl (oM rfl (cal_inv h fun y12 hy12 h => oT (t_callE (r04_white_w hy12) hT (s2 rfl rfl) .nil (oA rfl (rnf ?_))))))))
 refine w_seq (wsr (oM rfl (oM rfl (oV (v_lenS st9 rfl) (oV (v_geq rfl rfl) (rnf (w_condM h rfl (fun _ h => ?_) (fun _ h => ?_))))))))
 ·refine wsr (oM rfl (oM rfl (oV (v_lenS st9 rfl) (oV (v_build (z := (GTok.mk (0 : Int) (Str.mk []) (a_text.b.length : Int))) rfl bu88 ze88 (.cons GTok.f2 fd88_2 rfl hI .nil)) (oT (t_buildSlice (l := ([(GTok.mk (0 : Int) (Str.mk []) (a_text.b.length : Int))] : (List GTok))) el79 (.cons rfl hI .nil) rfl rfl (asr_inv h fun q15 h => oT (t_appC (l := q1.1) (m := ([(GTok.mk (0 : Int) (Str.mk []) (a_text.b.length : Int))] : (List GTok))) ap79_79 rfl hI rfl appv_isv .here q15 fun t14 => oA rfl ?_))))))))
  refine oA rfl (oA rfl (rnf (w_ret (ret_nxt (ret_block (rL2 _ (ret_block ?_)))))))
  cases h
  exact ret_post (.as rfl appv_isv (.tmp rfl (.tmp rfl .nil))) .nil ⟨rfl, rfl⟩
 refine wkf (wsr (oM rfl (oM rfl (cal_inv h fun y16 hy16 h => oT (t_callE (r04_one_w hy16) hT (s2 rfl rfl) .nil (oM rfl (oV (v_extract rfl rfl) (oV (v_extract rfl rfl) ?_))))))))
 refine oT (t_alloc _ ze88 fun b17 => oT (t_storeC (y' := (y16.1 : GTok)) ty88 rfl rfl hI .here rfl (rl_upd (upd_imm 7 .here rfl) (oA rfl (rnf (w_seq (wsr (oM rfl (oV (v_lss rfl rfl) ?_)))))))))
 refine rnf (w_condM h rfl (fun _ h => ?_) (fun _ h => ?_))
 ·refine wsr (oM rfl (oA rfl (oA rfl (oA rfl (rnf (w_ret (ret_nxt (ret_block ?_))))))))
  refine rL2 _ (ret_block ?_)
  cases h
  exact ret_post (.as rfl (nilv_isv (α := GTok)) (.tmp rfl (.tmp rfl .nil))) .nil ⟨rfl, rfl⟩
 refine wkf (wsr (oM rfl (oV (v_loadI ty88 rfl) (oT (t_buildSlice (l := ([y16.1] : (List GTok))) el79 (.cons rfl hI .nil) rfl rfl (asr_inv h fun q20 h => oT (t_appC (l := q1.1) (m := ([y16.1] : (List GTok))) ap79_79 rfl hI rfl appv_isv .here q20 fun t19 => oA rfl (rnf ?_))))))))
 exact w_region (oM rfl (oA rfl (rl_nil (fin_block (hL2 _ (t19) h _ (join_imp 28 rfl rfl (mod_cons (j := 5) rfl hI (mod_cons (j := 6) rfl hI mod_nil)) k1))))))


theorem r05_parser_now_w : ∀ {a_x : GPar} {b_a_x : Nat} {t_a_x1 : Tok} {t_a_x2 : Tok} {v_a_x3 : Vt} {r : GTok × GPar}, r05_parser_now a_x = some r → Ctr Tryz.prog 31 [ptrv b_a_x (Fld.id ((List GTok) × Int × (Str × Int × (TList Str) × (TList Int) × Vh) × Int × Int))] [boxE b_a_x ((a_x.l, a_x.at_, (a_x.m.name, a_x.m.tagging, (TList.mk t_a_x1 a_x.m.names), (TList.mk t_a_x2 a_x.m.types), (Vh.mk v_a_x3 a_x.m.nodes.length)), a_x.e, a_x.p) : ((List GTok) × Int × (Str × Int × (TList Str) × (TList Int) × Vh) × Int × Int)), tokE t_a_x1, tokE t_a_x2, vecE v_a_x3 (a_x.m.nodes : List GNode)] (fun R H => ∃ u1 : Tok, ∃ u2 : Tok, R = oneOf [isv (r.1)] ∧ H = [boxE b_a_x ((r.2.l, r.2.at_, (r.2.m.name, r.2.m.tagging, (TList.mk u1 r.2.m.names), (TList.mk u2 r.2.m.types), (Vh.mk v_a_x3 r.2.m.nodes.length)), r.2.e, r.2.p)), tokE u1, tokE u2, vecE v_a_x3 (r.2.m.nodes)]) := by
 intro a_x b_a_x t_a_x1 t_a_x2 v_a_x3 r h
 unfold r05_parser_now at h
 refine spec_introD Tryz.func31 rfl fun w0 S0 hT => wsr (oT (t_alloc _ ze88 fun b4 => rnf (w_seq (w_pinN 0 tH rfl (fun o5 hn6 => w_regionD (.v 0 (.v 1 (.v 2 (.v 3 (.v 4 (.v 5 (.v 6 (.v 7 (.v 8 (.v 9 (.t 10 .nil))))))))))) moOrd (by kernel_rfl) ?_)))))
 refine rvm rfl rfl (rd_v rfl (v_nilCheckP rfl) (rd_v rfl (v_fp rfl pt84_0_0 fd84_0) (rd_v rfl (v_lpC (R := isv (a_x.l)) ty79 rfl (List.Mem.head _) hI) (rvm rfl rfl (rd_v rfl (v_nilCheckP rfl) (rd_v rfl (v_fp rfl pt84_0_1 fd84_1) (rd_v rfl (v_lpC (R := isv (a_x.at_)) ty3 rfl (List.Mem.head _) hI) (cal_inv h fun y7 hy7 h => ?_))))))))
 refine rd_v rfl (v_ix (l := a_x.l) rfl hI rfl sl79 hy7) (rd_v rfl (v_loadI ty88 rfl) (rd_t rfl rfl (t_storeC (y' := (y7 : GTok)) ty88 rfl rfl hI .here rfl (rd_nil (fin_unpinN 0 hn6 rfl (fin_nxt (w_ret (ret_post (.cell rfl tH ty88 .nil) (.cons .here (.cons tH (.cons tH (.cons tH .nil)))) ?_))))))))
 cases h
 exact ⟨t_a_x1, t_a_x2, rfl, rfl⟩


theorem r05_parser_fail_w : ∀ {a_x : GPar} {a_e : Int} {a_t : GTok} {b_a_x : Nat} {t_a_x1 : Tok} {t_a_x2 : Tok} {v_a_x3 : Vt} {r : GPar}, r05_parser_fail a_x a_e a_t = some r → Ctr Tryz.prog 32 [ptrv b_a_x (Fld.id ((List GTok) × Int × (Str × Int × (TList Str) × (TList Int) × Vh) × Int × Int)), isv (a_e), isv (a_t)] [boxE b_a_x ((a_x.l, a_x.at_, (a_x.m.name, a_x.m.tagging, (TList.mk t_a_x1 a_x.m.names), (TList.mk t_a_x2 a_x.m.types), (Vh.mk v_a_x3 a_x.m.nodes.length)), a_x.e, a_x.p) : ((List GTok) × Int × (Str × Int × (TList Str) × (TList Int) × Vh) × Int × Int)), tokE t_a_x1, tokE t_a_x2, vecE v_a_x3 (a_x.m.nodes : List GNode)] (fun R H => ∃ u1 : Tok, ∃ u2 : Tok, R = oneOf [] ∧ H = [boxE b_a_x ((r.l, r.at_, (r.m.name, r.m.tagging, (TList.mk u1 r.m.names), (TList.mk u2 r.m.types), (Vh.mk v_a_x3 r.m.nodes.length)), r.e, r.p)), tokE u1, tokE u2, vecE v_a_x3 (r.m.nodes)]) := by
 intro a_x a_e a_t b_a_x t_a_x1 t_a_x2 v_a_x3 r h
 unfold r05_parser_fail at h
 refine spec_introD Tryz.func32 rfl fun w0 S0 hT => wsr (oT (t_boxIC (y := a_t) rfl hI (rnf (wsr (oM rfl (oV (v_nilCheck rfl) (oV (v_fa rfl pt84_0_3 fd84_3) (oT (t_loadC (R := isv (a_x.e)) ty27 rfl .here hI ?_)))))))))
 refine oV (v_eql rfl rfl) (rnf (w_condM h rfl (fun _ h => ?_) (fun _ h => ?_)))
 ·refine w_regionD (.v 0 (.v 1 (.v 2 (.v 3 (.v 4 (.v 5 (.v 6 (.t 7 (.v 8 (.v 9 (.t 10 .nil))))))))))) moOrd (by kernel_rfl) ?_
  refine rvm rfl rfl (rvm rfl rfl (rvm rfl rfl (rd_v rfl (v_fi rfl GTok.f2 fd88_2 rfl (z := a_t.at_)) (rd_v rfl (v_loadI ty3 rfl) (rd_v rfl (v_nilCheck rfl) (rd_v rfl (v_fa rfl pt84_0_3 fd84_3) (rd_t rfl rfl (t_storeC (y' := ((a_x.l, a_x.at_, (a_x.m.name, a_x.m.tagging, (TList.mk t_a_x1 a_x.m.names), (TList.mk t_a_x2 a_x.m.types), (Vh.mk v_a_x3 a_x.m.nodes.length)), a_e, a_x.p) : ((List GTok) × Int × (Str × Int × (TList Str) × (TList Int) × Vh) × Int × Int))) ty27 rfl rfl hI .here rfl (rd_v rfl (v_nilCheck rfl) ?_)))))))))
  refine rd_v rfl (v_fa rfl pt84_0_4 fd84_4) (rd_t rfl rfl (t_storeC (y' := ((a_x.l, a_x.at_, (a_x.m.name, a_x.m.tagging, (TList.mk t_a_x1 a_x.m.names), (TList.mk t_a_x2 a_x.m.types), (Vh.mk v_a_x3 a_x.m.nodes.length)), a_e, a_t.at_) : ((List GTok) × Int × (Str × Int × (TList Str) × (TList Int) × Vh) × Int × Int))) ty3 rfl rfl hI .here rfl (rd_nil (fin_post .nil k4 ?_))))
  cases h
  exact ⟨t_a_x1, t_a_x2, rfl, rfl⟩
 refine w_skip (fin_post .nil k4 ?_)
 cases h
 exact ⟨t_a_x1, t_a_x2, rfl, rfl⟩


theorem r05_parser_next_w : ∀ {a_x : GPar} {b_a_x : Nat} {t_a_x1 : Tok} {t_a_x2 : Tok} {v_a_x3 : Vt} {r : GTok × GPar}, r05_parser_next a_x = some r → Ctr Tryz.prog 50 [ptrv b_a_x (Fld.id ((List GTok) × Int × (Str × Int × (TList Str) × (TList Int) × Vh) × Int × Int))] [boxE b_a_x ((a_x.l, a_x.at_, (a_x.m.name, a_x.m.tagging, (TList.mk t_a_x1 a_x.m.names), (TList.mk t_a_x2 a_x.m.types), (Vh.mk v_a_x3 a_x.m.nodes.length)), a_x.e, a_x.p) : ((List GTok) × Int × (Str × Int × (TList Str) × (TList Int) × Vh) × Int × Int)), tokE t_a_x1, tokE t_a_x2, vecE v_a_x3 (a_x.m.nodes : List GNode)] (fun R H => ∃ u1 : Tok, ∃ u2 : Tok, R = oneOf [isv (r.1)] ∧ H = [boxE b_a_x ((r.2.l, r.2.at_, (r.2.m.name, r.2.m.tagging, (TList.mk u1 r.2.m.names), (TList.mk u2 r.2.m.types), (Vh.mk v_a_x3 r.2.m.nodes.length)), r.2.e, r.2.p)), tokE u1, tokE u2, vecE v_a_x3 (r.2.m.nodes)]) := by
 intro a_x b_a_x t_a_x1 t_a_x2 v_a_x3 r h
 unfold r05_parser_next at h
 refine spec_introD Tryz.func50 rfl fun w0 S0 hT => wsr (oT (t_alloc _ ze88 fun b4 => rnf (w_seq (w_pinN 0 tH rfl (fun o5 hn6 => w_regionD (.v 0 (.v 1 (.v 2 (.v 3 (.v 4 (.v 5 (.v 6 (.v 7 (.v 8 (.v 9 (.t 10 (.t 11 .nil)))))))))))) moOrd (by kernel_rfl) ?_)))))
 refine rvm rfl rfl (rd_v rfl (v_nilCheckP rfl) (rd_v rfl (v_fp rfl pt84_0_0 fd84_0) (rd_v rfl (v_lpC (R := isv (a_x.l)) ty79 rfl (List.Mem.head _) hI) (rvm rfl rfl (rd_v rfl (v_nilCheckP rfl) (rd_v rfl (v_fp rfl pt84_0_1 fd84_1) (rd_v rfl (v_lpC (R := isv (a_x.at_)) ty3 rfl (List.Mem.head _) hI) (cal_inv h fun y7 hy7 h => ?_))))))))
 refine rd_v rfl (v_ix (l := a_x.l) rfl hI rfl sl79 hy7) (rd_v rfl (v_loadI ty88 rfl) (rd_t rfl rfl (t_alloc _ ze88 fun b8 => rd_t rfl rfl (t_storeC (y' := (y7 : GTok)) ty88 rfl rfl hI .here rfl (rd_upd (upd_imm 3 .here rfl) (rd_nil (fin_unpinN 0 hn6 rfl (fin_nxt (w_seq ?_)))))))))
 refine w_seq (w_pinN 0 .here rfl (fun o9 hn10 => w_regionD (.v 0 (.v 1 (.v 2 (.v 3 (.v 4 (.v 5 (.v 6 (.v 7 (.v 8 (.v 9 (.v 10 .nil))))))))))) moOrd (by kernel_rfl) ?_))
 refine rvm rfl rfl (rd_v rfl (v_nilCheckP rfl) (rd_v rfl (v_fp rfl pt84_0_1 fd84_1) (rd_v rfl (v_lpC (R := isv (a_x.at_)) ty3 rfl (List.Mem.head _) hI) (ck_inv h fun q11 h => rd_v rfl (v_add rfl rfl q11) (rvm rfl rfl (rd_v rfl (v_nilCheckP rfl) (rd_v rfl (v_fp rfl pt84_0_0 fd84_0) ?_)))))))
 refine rd_v rfl (v_lpC (R := isv (a_x.l)) ty79 rfl (List.Mem.head _) hI) (rd_v rfl (v_ln (l := a_x.l) rfl hI sl79) (rd_v rfl (v_lss rfl rfl) (rd_nil (fin_unpinN 0 hn10 rfl (fin_nxt (w_J (ι := GPar) (γ := Tok × Tok) (fun q12 g12 => []) (fun q12 g12 => [boxE b_a_x ((q12.l, q12.at_, (q12.m.name, q12.m.tagging, (TList.mk g12.1 q12.m.names), (TList.mk g12.2 q12.m.types), (Vh.mk v_a_x3 q12.m.nodes.length)), q12.e, q12.p) : ((List GTok) × Int × (Str × Int × (TList Str) × (TList Int) × Vh) × Int × Int)), tokE g12.1, tokE g12.2, vecE v_a_x3 (q12.m.nodes : List GNode)]) (.cons .here (.cons tH (.cons tH (.cons tH .nil)))) h (fun q12 g12 h => ?_) (fun J13 h hJ13 => ?_)))))))
 ·refine wsr (oV (v_loadI ty88 rfl) (oT (t_storeC (y' := (y7 : GTok)) ty88 rfl rfl hI (.there (.there tI)) rfl (rnf (w_ret (ret_post (.cell rfl .here ty88 .nil) (.cons tH (.cons tH (.cons tH (.cons tH .nil)))) ?_))))))
  cases h
  exact ⟨g12.1, g12.2, rfl, rfl⟩
 refine w_condM h rfl (fun _ h => ?_) (fun _ h => ?_)
 ·refine w_region (oM rfl (oV (v_nilCheck rfl) (oV (v_fa rfl pt84_0_1 fd84_1) (oT (t_loadC (R := isv (a_x.at_)) ty3 rfl .here hI (ck_inv h fun q14 h => oV (v_add rfl rfl q14) (oV (v_nilCheck rfl) (oV (v_fa rfl pt84_0_1 fd84_1) ?_))))))))
  exact oT (t_storeC (y' := ((a_x.l, (a_x.at_ + (1 : Int)), (a_x.m.name, a_x.m.tagging, (TList.mk t_a_x1 a_x.m.names), (TList.mk t_a_x2 a_x.m.types), (Vh.mk v_a_x3 a_x.m.nodes.length)), a_x.e, a_x.p) : ((List GTok) × Int × (Str × Int × (TList Str) × (TList Int) × Vh) × Int × Int))) ty3 rfl rfl hI .here rfl (rl_nil (hJ13 _ (t_a_x1, t_a_x2) h _ (join_imp 7 rfl rfl mod_nil (.cons .here (.cons tH (.cons tH (.cons tH k1))))))))
 exact w_skip (hJ13 _ (t_a_x1, t_a_x2) h _ (join_imp 0 rfl rfl mod_nil (.cons .here (.cons tH (.cons tH (.cons tH k1))))))


theorem r05_parser_kind_w : ∀ {a_x : GPar} {a_k : Int} {b_a_x : Nat} {t_a_x1 : Tok} {t_a_x2 : Tok} {v_a_x3 : Vt} {r : Str × GPar}, r05_parser_kind a_x a_k = some r → Ctr Tryz.prog 28 [ptrv b_a_x (Fld.id ((List GTok) × Int × (Str × Int × (TList Str) × (TList Int) × Vh) × Int × Int)), isv (a_k)] [boxE b_a_x ((a_x.l, a_x.at_, (a_x.m.name, a_x.m.tagging, (TList.mk t_a_x1 a_x.m.names), (TList.mk t_a_x2 a_x.m.types), (Vh.mk v_a_x3 a_x.m.nodes.length)), a_x.e, a_x.p) : ((List GTok) × Int × (Str × Int × (TList Str) × (TList Int) × Vh) × Int × Int)), tokE t_a_x1, tokE t_a_x2, vecE v_a_x3 (a_x.m.nodes : List GNode)] (fun R H => ∃ u1 : Tok, ∃ u2 : Tok, R = oneOf [isv (r.1)] ∧ H = [boxE b_a_x ((r.2.l, r.2.at_, (r.2.m.name, r.2.m.tagging, (TList.mk u1 r.2.m.names), (TList.mk u2 r.2.m.types), (Vh.mk v_a_x3 r.2.m.nodes.length)), r.2.e, r.2.p)), tokE u1, tokE u2, vecE v_a_x3 (r.2.m.nodes)]) := by
 intro a_x a_k b_a_x t_a_x1 t_a_x2 v_a_x3 r h
 unfold r05_parser_kind at h
 refine spec_introD Tryz.func28 rfl fun w0 S0 hT => wsr (oA rfl (rnf (wsr (oM rfl (cal_inv h fun y4 hy4 h => oT (t_call (r05_parser_now_w hy4) hT (s1 rfl) k4 (fun R H' hR => ?_)))))))
 obtain ⟨t5, t6, rfl, rfl⟩ := hR
 refine oT (t_alloc _ ze88 fun b7 => oT (t_storeC (y' := (y4.1 : GTok)) ty88 rfl rfl hI .here rfl (rl_upd (upd_imm 5 .here rfl) (rnf (w_seq (wsr (oM rfl (oV (v_nilCheck rfl) (oV (v_fa rfl pt84_0_3 fd84_3) ?_)))))))))
 refine oT (t_loadC (R := isv (y4.2.e)) ty27 rfl .here hI (oV (v_neq rfl rfl) (oM rfl (rl_j (jb 18) je .nil h 5 rfl (fun q8 g8 h => ?_) (fun J9 h hJ9 => ?_)))))
 ·refine rnf (w_condM h rfl (fun _ h => ?_) (fun _ h => ?_))
  ·refine wsr (oM rfl (oV (v_loadI ty88 rfl) (cal_inv h fun y11 hy11 h => oT (t_call (r05_parser_fail_w hy11) hT (s3 rfl rfl rfl) k4 (fun R H' hR => ?_)))))
   obtain ⟨t12, t13, rfl, rfl⟩ := hR
   refine rnf (wsr (oA rfl (rnf (w_ret (ret_nxt (ret_post (.tmp rfl .nil) k4 ?_))))))
   cases h
   exact ⟨t12, t13, rfl, rfl⟩
  refine wkf (wsr (oM rfl (cal_inv h fun y14 hy14 h => oT (t_call (r05_parser_next_w hy14) hT (s1 rfl) k4 (fun R H' hR => ?_)))))
  obtain ⟨t15, t16, rfl, rfl⟩ := hR
  refine oV (v_field GTok.f1 rfl fd88_1 rfl) (oA rfl (rnf (w_ret (ret_post (.tmp rfl .nil) k4 ?_))))
  cases h
  exact ⟨t15, t16, rfl, rfl⟩
 refine rl_condM (j := 13) h rfl (fun g10 h => ?_) (fun g10 h => ?_)
 ·exact oP 13 rfl rfl g10 (oP 13 rfl rfl g10 (oP 13 rfl rfl g10 (oP 13 rfl rfl g10 (oV (v_pick_t rfl g10 rfl) (hJ9 _ () h _ (join_imp 5 rfl rfl (mod_cons (j := 18) rfl hI mod_nil) k4))))))
 exact oK 13 rfl rfl rfl g10 (v_fi rfl GTok.f0 fd88_0 rfl (z := y4.1.kind)) (oK 13 rfl rfl rfl g10 (v_loadI ty3 rfl) (oK 13 rfl rfl rfl g10 (v_move rfl) (oK 13 rfl rfl rfl g10 (v_neq rfl rfl) (oV (v_pick_f rfl g10 rfl) (hJ9 _ () h _ (join_imp 5 rfl rfl (mod_cons (j := 18) rfl hI mod_nil) k4))))))


theorem r05_parser_is_w : ∀ {a_x : GPar} {a_s : Str} {b_a_x : Nat} {t_a_x1 : Tok} {t_a_x2 : Tok} {v_a_x3 : Vt} {r : Bool × GPar}, r05_parser_is a_x a_s = some r → Ctr Tryz.prog 30 [ptrv b_a_x (Fld.id ((List GTok) × Int × (Str × Int × (TList Str) × (TList Int) × Vh) × Int × Int)), isv (a_s)] [boxE b_a_x ((a_x.l, a_x.at_, (a_x.m.name, a_x.m.tagging, (TList.mk t_a_x1 a_x.m.names), (TList.mk t_a_x2 a_x.m.types), (Vh.mk v_a_x3 a_x.m.nodes.length)), a_x.e, a_x.p) : ((List GTok) × Int × (Str × Int × (TList Str) × (TList Int) × Vh) × Int × Int)), tokE t_a_x1, tokE t_a_x2, vecE v_a_x3 (a_x.m.nodes : List GNode)] (fun R H => ∃ u1 : Tok, ∃ u2 : Tok, R = oneOf [isv (r.1)] ∧ H = [boxE b_a_x ((r.2.l, r.2.at_, (r.2.m.name, r.2.m.tagging, (TList.mk u1 r.2.m.names), (TList.mk u2 r.2.m.types), (Vh.mk v_a_x3 r.2.m.nodes.length)), r.2.e, r.2.p)), tokE u1, tokE u2, vecE v_a_x3 (r.2.m.nodes)]) := by
 intro a_x a_s b_a_x t_a_x1 t_a_x2 v_a_x3 r h
 unfold r05_parser_is at h
 refine spec_introD Tryz.func30 rfl fun w0 S0 hT => wsr (oA rfl (rnf (wsr (oM rfl (cal_inv h fun y4 hy4 h => oT (t_call (r05_parser_now_w hy4) hT (s1 rfl) k4 (fun R H' hR => ?_)))))))
 obtain ⟨t5, t6, rfl, rfl⟩ := hR
 refine oT (t_alloc _ ze88 fun b7 => oT (t_storeC (y' := (y4.1 : GTok)) ty88 rfl rfl hI .here rfl (rl_upd (upd_imm 5 .here rfl) (rnf (w_seq (wsr (oM rfl (oV (v_nilCheck rfl) (oV (v_fa rfl pt84_0_3 fd84_3) ?_)))))))))
 refine oT (t_loadC (R := isv (y4.2.e)) ty27 rfl .here hI (oV (v_eql rfl rfl) (oM rfl (rl_j (jb 22) je .nil h 9 rfl (fun q8 g8 h => ?_) (fun J9 h hJ9 => ?_)))))
 ·refine oM rfl (rl_j (jb 28) je .nil h 5 rfl (fun q14 g14 h => ?_) (fun J15 h hJ15 => ?_))
  ·refine rnf (w_condM h rfl (fun _ h => ?_) (fun _ h => ?_))
   ·refine wsr (oM rfl (cal_inv h fun y17 hy17 h => oT (t_call (r05_parser_next_w hy17) hT (s1 rfl) k4 (fun R H' hR => ?_))))
    obtain ⟨t18, t19, rfl, rfl⟩ := hR
    refine rnf (wsr (oA rfl (rnf (w_ret (ret_nxt (ret_post (.tmp rfl .nil) k4 ?_))))))
    cases h
    exact ⟨t18, t19, rfl, rfl⟩
   refine wkf (wsr (oA rfl (rnf (w_ret (ret_post (.tmp rfl .nil) k4 ?_)))))
   cases h
   exact ⟨t5, t6, rfl, rfl⟩
  refine rl_condM (j := 23) h rfl (fun g16 h => ?_) (fun g16 h => ?_)
  ·exact oK 23 rfl rfl rfl g16 (v_fi rfl GTok.f1 fd88_1 rfl (z := y4.1.text)) (oK 23 rfl rfl rfl g16 (v_loadI ty9 rfl) (oK 23 rfl rfl rfl g16 (v_move rfl) (oK 23 rfl rfl rfl g16 (v_eqA eq9 rfl rfl) (oV (v_pick_t rfl g16 rfl) (hJ15 _ () h _ (join_imp 5 rfl rfl (mod_cons (j := 28) rfl hI mod_nil) k4))))))
  exact oP 23 rfl rfl g16 (oP 23 rfl rfl g16 (oP 23 rfl rfl g16 (oP 23 rfl rfl g16 (oV (v_pick_f rfl g16 rfl) (hJ15 _ () h _ (join_imp 5 rfl rfl (mod_cons (j := 28) rfl hI mod_nil) k4))))))
 refine rl_condM (j := 13) h rfl (fun g10 h => ?_) (fun g10 h => ?_)
 ·refine oK 13 rfl rfl rfl g10 (v_fi rfl GTok.f0 fd88_0 rfl (z := y4.1.kind)) (oK 13 rfl rfl rfl g10 (v_loadI ty3 rfl) (oK 13 rfl rfl rfl g10 (v_eql rfl rfl) (oK 13 rfl rfl rfl g10 (v_move rfl) (rl_j (jb 21) je .nil h 4 rfl (fun q11 g11 h => ?_) (fun J12 h hJ12 => ?_)))))
  ·exact oV (v_pick_t rfl g10 rfl) (hJ9 _ () h _ (join_imp 6 rfl rfl (mod_cons (j := 22) rfl hI mod_nil) k4))
  refine rl_condM (j := 17) h rfl (fun g13 h => ?_) (fun g13 h => ?_)
  ·exact oP 17 rfl rfl g13 (oP 17 rfl rfl g13 (oP 17 rfl rfl g13 (oK 13 rfl rfl rfl g10 (v_pick_t rfl g13 rfl) (hJ12 _ () h _ (join_imp 4 rfl rfl (mod_cons (j := 21) rfl hI mod_nil) k4)))))
  exact oK 17 rfl rfl rfl g13 (v_fi rfl GTok.f0 fd88_0 rfl (z := y4.1.kind)) (oK 17 rfl rfl rfl g13 (v_loadI ty3 rfl) (oK 17 rfl rfl rfl g13 (v_eql rfl rfl) (oK 13 rfl rfl rfl g10 (v_pick_f rfl g13 rfl) (hJ12 _ () h _ (join_imp 4 rfl rfl (mod_cons (j := 21) rfl hI mod_nil) k4)))))
 refine oP 13 rfl rfl g10 (oP 13 rfl rfl g10 (oP 13 rfl rfl g10 (oP 13 rfl rfl g10 (op_passU rfl (dj := 17) rfl (op_passU rfl (dj := 17) rfl (op_passU rfl (dj := 17) rfl (oP 13 rfl rfl g10 (oV (v_pick_f rfl g10 rfl) ?_))))))))
 exact hJ9 _ () h _ (join_imp 9 rfl rfl (mod_cons (j := 22) rfl hI mod_nil) k4)


theorem r05_parser_must_w : ∀ {a_x : GPar} {a_s : Str} {b_a_x : Nat} {t_a_x1 : Tok} {t_a_x2 : Tok} {v_a_x3 : Vt} {r : GPar}, r05_parser_must a_x a_s = some r → Ctr Tryz.prog 29 [ptrv b_a_x (Fld.id ((List GTok) × Int × (Str × Int × (TList Str) × (TList Int) × Vh) × Int × Int)), isv (a_s)] [boxE b_a_x ((a_x.l, a_x.at_, (a_x.m.name, a_x.m.tagging, (TList.mk t_a_x1 a_x.m.names), (TList.mk t_a_x2 a_x.m.types), (Vh.mk v_a_x3 a_x.m.nodes.length)), a_x.e, a_x.p) : ((List GTok) × Int × (Str × Int × (TList Str) × (TList Int) × Vh) × Int × Int)), tokE t_a_x1, tokE t_a_x2, vecE v_a_x3 (a_x.m.nodes : List GNode)] (fun R H => ∃ u1 : Tok, ∃ u2 : Tok, R = oneOf [] ∧ H = [boxE b_a_x ((r.l, r.at_, (r.m.name, r.m.tagging, (TList.mk u1 r.m.names), (TList.mk u2 r.m.types), (Vh.mk v_a_x3 r.m.nodes.length)), r.e, r.p)), tokE u1, tokE u2, vecE v_a_x3 (r.m.nodes)]) := by
 intro a_x a_s b_a_x t_a_x1 t_a_x2 v_a_x3 r h
 unfold r05_parser_must at h
 refine spec_introD Tryz.func29 rfl fun w0 S0 hT => wsr (oM rfl (oV (v_nilCheck rfl) (oV (v_fa rfl pt84_0_3 fd84_3) (oT (t_loadC (R := isv (a_x.e)) ty27 rfl .here hI (oV (v_eql rfl rfl) (oM rfl (rl_j (ι := Bool × GPar) (γ := Tok × Tok) (fun q4 g4 => [(14, isv (q4.1))]) (fun q4 g4 => [boxE b_a_x ((q4.2.l, q4.2.at_, (q4.2.m.name, q4.2.m.tagging, (TList.mk g4.1 q4.2.m.names), (TList.mk g4.2 q4.2.m.types), (Vh.mk v_a_x3 q4.2.m.nodes.length)), q4.2.e, q4.2.p) : ((List GTok) × Int × (Str × Int × (TList Str) × (TList Int) × Vh) × Int × Int)), tokE g4.1, tokE g4.2, vecE v_a_x3 (q4.2.m.nodes : List GNode)]) k4 h 5 rfl (fun q4 g4 h => ?_) (fun J5 h hJ5 => ?_)))))))))
 ·refine rnf (w_condM h rfl (fun _ h => ?_) (fun _ h => ?_))
  ·refine w_region (oM rfl (oM rfl (cal_inv h fun y10 hy10 h => oT (t_call (r05_parser_now_w hy10) hT (s1 rfl) k4 (fun R H' hR => ?_)))))
   obtain ⟨t11, t12, rfl, rfl⟩ := hR
   refine cal_inv h fun y13 hy13 h => oT (t_call (r05_parser_fail_w hy13) hT (s3 rfl rfl rfl) k4 (fun R H' hR => ?_))
   obtain ⟨t14, t15, rfl, rfl⟩ := hR
   refine rl_nil (fin_post .nil k4 ?_)
   cases h
   exact ⟨t14, t15, rfl, rfl⟩
  refine w_skip (fin_post .nil k4 ?_)
  cases h
  exact ⟨g4.1, g4.2, rfl, rfl⟩
 refine rl_condM (j := 9) h rfl (fun g6 h => ?_) (fun g6 h => ?_)
 ·refine oK 9 rfl rfl rfl g6 (v_move rfl) (oK 9 rfl rfl rfl g6 (v_move rfl) (cal_inv h fun y7 hy7 h => op_take rfl rfl (dj := 9) rfl g6 (t_call (r05_parser_is_w hy7) hT (s2 rfl rfl) k4 (fun R H' hR => ?_))))
  obtain ⟨t8, t9, rfl, rfl⟩ := hR
  exact oK 9 rfl rfl rfl g6 (v_not rfl) (oV (v_pick_t rfl g6 rfl) (hJ5 _ (t8, t9) h _ (join_imp 5 rfl rfl (mod_cons (j := 14) rfl hI mod_nil) k4)))
 exact oP 9 rfl rfl g6 (oP 9 rfl rfl g6 (oP 9 rfl rfl g6 (oP 9 rfl rfl g6 (oV (v_pick_f rfl g6 rfl) (hJ5 _ (t_a_x1, t_a_x2) h _ (join_imp 5 rfl rfl (mod_cons (j := 14) rfl hI mod_nil) k4))))))


theorem r05_begins_w : ∀ {a_t : GTok} {r : Bool}, r05_begins a_t = some r → Ctr Tryz.prog 51 [isv (a_t)] [] (fun R H => R = oneOf [isv (r)] ∧ H = []) := by
 intro a_t r h
 unfold r05_begins at h
 refine spec_introD Tryz.func51 rfl fun w0 S0 hT => wsr (oT (t_boxIC (y := a_t) rfl hI (oA rfl (rnf (wsr (oT (t_buildSlice (l := ([(Str.mk [91]), (Str.mk [66, 79, 79, 76, 69, 65, 78]), (Str.mk [78, 85, 76, 76]), (Str.mk [85, 84, 70, 56, 83, 116, 114, 105, 110, 103]), (Str.mk [73, 78, 84, 69, 71, 69, 82]), (Str.mk [79, 67, 84, 69, 84]), (Str.mk [69, 78, 85, 77, 69, 82, 65, 84, 69, 68]), (Str.mk [83, 69, 84]), (Str.mk [67, 72, 79, 73, 67, 69]), (Str.mk [83, 69, 81, 85, 69, 78, 67, 69])] : (List Str))) el22 (.cons rfl hI (.cons rfl hI (.cons rfl hI (.cons rfl hI (.cons rfl hI (.cons rfl hI (.cons rfl hI (.cons rfl hI (.cons rfl hI (.cons rfl hI .nil)))))))))) rfl rfl (oA rfl (rnf ?_)))))))))
 refine w_seq (wsr (oA rfl (rnf (w_block (w_lp (ι := Int) (γ := Unit) (fun q2 g2 => [(4, isv (q2))]) (fun q2 g2 => []) h () (mod_cons (j := 4) rfl hI mod_nil) .nil (fun L3 q2 g2 Q20 h hL3 eL3 rL3 => w_seq (wsr (oM rfl ?_))))))))
 refine oM rfl (oV (v_ln (l := ([(Str.mk [91]), (Str.mk [66, 79, 79, 76, 69, 65, 78]), (Str.mk [78, 85, 76, 76]), (Str.mk [85, 84, 70, 56, 83, 116, 114, 105, 110, 103]), (Str.mk [73, 78, 84, 69, 71, 69, 82]), (Str.mk [79, 67, 84, 69, 84]), (Str.mk [69, 78, 85, 77, 69, 82, 65, 84, 69, 68]), (Str.mk [83, 69, 84]), (Str.mk [67, 72, 79, 73, 67, 69]), (Str.mk [83, 69, 81, 85, 69, 78, 67, 69])] : (List Str))) rfl appv_isv sl22) (oV (v_lss rfl rfl) (rnf (w_condM h rfl (fun _ h => ?_) (fun _ h => ?_)))))
 ·refine wkf (w_seq (w_block (w_seq (w_regionD (.v 0 (.v 1 (.v 2 (.v 3 (.v 4 (.v 5 (.v 6 (.v 7 (.v 8 (.v 9 (.v 10 (.v 11 (.v 12 (.v 13 (.v 14 (.v 15 (.v 16 .nil))))))))))))))))) moOrd (by kernel_rfl) ?_))))
  refine rvm rfl rfl (rvm rfl rfl (cal_inv h fun y12 hy12 h => rd_v rfl (v_ix (l := ([(Str.mk [91]), (Str.mk [66, 79, 79, 76, 69, 65, 78]), (Str.mk [78, 85, 76, 76]), (Str.mk [85, 84, 70, 56, 83, 116, 114, 105, 110, 103]), (Str.mk [73, 78, 84, 69, 71, 69, 82]), (Str.mk [79, 67, 84, 69, 84]), (Str.mk [69, 78, 85, 77, 69, 82, 65, 84, 69, 68]), (Str.mk [83, 69, 84]), (Str.mk [67, 72, 79, 73, 67, 69]), (Str.mk [83, 69, 81, 85, 69, 78, 67, 69])] : (List Str))) rfl appv_isv rfl sl22 hy12) (rd_v rfl (v_loadI ty9 rfl) (rd_v rfl (v_fi rfl GTok.f1 fd88_1 rfl (z := a_t.text)) (rd_v rfl (v_loadI ty9 rfl) (rd_v rfl (v_eqA eq9 rfl rfl) (rvm rfl rfl ?_)))))))
  refine rd_j (jb 28) je .nil h 9 rfl (fun q13 g13 h => ?_) (fun J14 h hJ14 => ?_)
  ·refine rd_nil (fin_nxt (w_condM h rfl (fun _ h => ?_) (fun _ h => ?_)))
   ·refine wsr (oA rfl (rnf (w_ret (ret_block (ret_nxt (rL3 _ (ret_block (ret_nxt ?_))))))))
    cases h
    exact ret_post (.tmp rfl .nil) .nil ⟨rfl, rfl⟩
   refine w_skip (fin_block (fin_nxt (w_region (oM rfl (ck_inv h fun q19 h => oV (v_add rfl rfl q19) (oA rfl (rl_nil ?_)))))))
   exact hL3 _ () h _ (ji 17 4 rfl rfl rfl)
  refine rd_condM (j := 19) h rfl (fun g15 h => ?_) (fun g15 h => ?_)
  ·refine rvt 19 rfl rfl rfl g15 (v_fi rfl GTok.f0 fd88_0 rfl (z := a_t.kind)) (rvt 19 rfl rfl rfl g15 (v_loadI ty3 rfl) (rvt 19 rfl rfl rfl g15 (v_eql rfl rfl) (rvt 19 rfl rfl rfl g15 (v_move rfl) (rd_j (jb 27) je .nil h 4 rfl (fun q16 g16 h => ?_) (fun J17 h hJ17 => ?_)))))
   ·exact rd_v rfl (v_pick_t rfl g15 rfl) (hJ14 _ () h _ (ji 6 28 rfl rfl rfl))
   refine rd_condM (j := 23) h rfl (fun g18 h => ?_) (fun g18 h => ?_)
   ·exact rpv 23 rfl rfl rfl g18 (rpv 23 rfl rfl rfl g18 (rpv 23 rfl rfl rfl g18 (rvt 19 rfl rfl rfl g15 (v_pick_t rfl g18 rfl) (hJ17 _ () h _ (ji 4 27 rfl rfl rfl)))))
   exact rvt 23 rfl rfl rfl g18 (v_fi rfl GTok.f0 fd88_0 rfl (z := a_t.kind)) (rvt 23 rfl rfl rfl g18 (v_loadI ty3 rfl) (rvt 23 rfl rfl rfl g18 (v_eql rfl rfl) (rvt 19 rfl rfl rfl g15 (v_pick_f rfl g18 rfl) (hJ17 _ () h _ (ji 4 27 rfl rfl rfl)))))
  refine rpv 19 rfl rfl rfl g15 (rpv 19 rfl rfl rfl g15 (rpv 19 rfl rfl rfl g15 (rpv 19 rfl rfl rfl g15 (rd_passUV rfl rfl (dj := 23) rfl (rd_passUV rfl rfl (dj := 23) rfl (rd_passUV rfl rfl (dj := 23) rfl (rpv 19 rfl rfl rfl g15 (rd_v rfl (v_pick_f rfl g15 rfl) ?_))))))))
  exact hJ14 _ () h _ (ji 9 28 rfl rfl rfl)
 refine w_exit (exi_nxt (eL3 _ _ (exi_block (fin_nxt (wsr (oV (v_fi rfl GTok.f0 fd88_0 rfl (z := a_t.kind)) (oV (v_loadI ty3 rfl) (oV (v_eql rfl rfl) ?_))))))))
 refine oA rfl (rnf (w_ret ?_))
 cases h
 exact ret_post (.tmp rfl .nil) .nil ⟨rfl, rfl⟩


theorem r05_Whole_w : ∀ {a_s : Str} {r : Int}, r05_Whole a_s = some r → Ctr Tryz.prog 78 [isv (a_s)] [] (fun R H => R = oneOf [isv (r)] ∧ H = []) := by
 intro a_s r h
 unfold r05_Whole at h
 refine spec_introD Tryz.func78 rfl fun w0 S0 hT => wsr (oA rfl (rnf (wsr (oM rfl (cal_inv h fun y1 hy1 h => oV (v_idxS y1 st9 rfl rfl hy1) (oV (v_eqA eq5 rfl rfl) ?_))))))
 refine oA rfl (rnf (w_seq (wsr (oM rfl (rnf (w_J (ι := Str) (γ := Unit) (fun q2 g2 => [(0, isv (q2))]) (fun q2 g2 => []) .nil h (fun q2 g2 h => ?_) (fun J3 h hJ3 => ?_)))))))
 ·refine wsr (oA rfl (rnf (w_seq (wsr (oA rfl (rnf (w_block (w_lp (ι := UInt64 × Int) (γ := Unit) (fun q5 g5 => [(4, isv (q5.1)), (5, isv (q5.2))]) (fun q5 g5 => []) h () (mod_cons (j := 4) rfl hI (mod_cons (j := 5) rfl hI mod_nil)) .nil (fun L6 q5 g5 Q19 h hL6 eL6 rL6 => ?_)))))))))
  refine w_seq (wsr (oM rfl (oM rfl (oV (v_lenS st9 rfl) (oV (v_lss rfl rfl) (rnf (w_condM h rfl (fun _ h => ?_) (fun _ h => ?_))))))))
  ·refine wkf (w_seq (w_block (w_region (oM rfl (oV (v_mul64 rfl rfl) (oM rfl (oM rfl (cal_inv h fun y13 hy13 h => ?_))))))))
   refine oV (v_idxS y13 st9 rfl rfl hy13) (oV (v_sub8 rfl rfl) (oV (v_u8u64 Tryz.underlying5 Tryz.underlying58 rfl) (oV (v_add64 rfl rfl) (oA rfl (rl_nil (fin_block (fin_nxt (w_region ?_))))))))
   exact oM rfl (ck_inv h fun q14 h => oV (v_add rfl rfl q14) (oA rfl (rl_nil (hL6 _ () h _ (join_imp 18 rfl rfl (mod_cons (j := 4) rfl hI (mod_cons (j := 5) rfl hI mod_nil)) .nil)))))
  refine w_exit (exi_nxt (eL6 _ _ (exi_block (fin_nxt (w_seq (wsr (oM rfl (rnf ?_))))))))
  refine w_condM h rfl (fun _ h => ?_) (fun _ h => ?_)
  ·refine wsr (oM rfl (oV (v_sub64 rfl rfl) (ck_inv h fun q15 h => oV (v_u64i Tryz.underlying58 Tryz.underlying2 rfl q15) (ck_inv h fun q16 h => oV (v_neg rfl q16) (ck_inv h fun q17 h => oV (v_sub rfl rfl q17) ?_)))))
   refine oA rfl (rnf (w_ret (ret_nxt ?_)))
   cases h
   exact ret_post (.tmp rfl .nil) .nil ⟨rfl, rfl⟩
  refine wkf (wsr (oM rfl (ck_inv h fun q18 h => oV (v_u64i Tryz.underlying58 Tryz.underlying2 rfl q18) (oA rfl (rnf (w_ret ?_))))))
  cases h
  exact ret_post (.tmp rfl .nil) .nil ⟨rfl, rfl⟩
 refine w_condM h rfl (fun _ h => ?_) (fun _ h => ?_)
 ·exact w_region (oM rfl (asd_inv h fun q4 h => oV (v_slS st9 rfl (.inr ⟨_, rfl, rfl⟩) (.inl ⟨rfl, rfl⟩) q4.1 q4.2.1 q4.2.2) (oA rfl (rl_nil (hJ3 _ () h _ (ji 3 0 rfl rfl rfl))))))
 exact w_skip (hJ3 _ () h _ (ji 0 0 rfl rfl rfl))


theorem r05_parser_number_w : ∀ {a_x : GPar} {b_a_x : Nat} {t_a_x1 : Tok} {t_a_x2 : Tok} {v_a_x3 : Vt} {r : Int × GPar}, r05_parser_number a_x = some r → Ctr Tryz.prog 52 [ptrv b_a_x (Fld.id ((List GTok) × Int × (Str × Int × (TList Str) × (TList Int) × Vh) × Int × Int))] [boxE b_a_x ((a_x.l, a_x.at_, (a_x.m.name, a_x.m.tagging, (TList.mk t_a_x1 a_x.m.names), (TList.mk t_a_x2 a_x.m.types), (Vh.mk v_a_x3 a_x.m.nodes.length)), a_x.e, a_x.p) : ((List GTok) × Int × (Str × Int × (TList Str) × (TList Int) × Vh) × Int × Int)), tokE t_a_x1, tokE t_a_x2, vecE v_a_x3 (a_x.m.nodes : List GNode)] (fun R H => ∃ u1 : Tok, ∃ u2 : Tok, R = oneOf [isv (r.1)] ∧ H = [boxE b_a_x ((r.2.l, r.2.at_, (r.2.m.name, r.2.m.tagging, (TList.mk u1 r.2.m.names), (TList.mk u2 r.2.m.types), (Vh.mk v_a_x3 r.2.m.nodes.length)), r.2.e, r.2.p)), tokE u1, tokE u2, vecE v_a_x3 (r.2.m.nodes)]) := by
 intro a_x b_a_x t_a_x1 t_a_x2 v_a_x3 r h
 unfold r05_parser_number at h
 refine spec_introD Tryz.func52 rfl fun w0 S0 hT => wsr (oA rfl (rnf (wsr (oM rfl (cal_inv h fun y4 hy4 h => oT (t_call (r05_parser_kind_w hy4) hT (s2 rfl rfl) k4 (fun R H' hR => ?_)))))))
 obtain ⟨t5, t6, rfl, rfl⟩ := hR
 refine oA rfl (rnf (w_seq (wsr (oM rfl (oV (v_eqA eq9 rfl rfl) (rnf (w_condM h rfl (fun _ h => ?_) (fun _ h => ?_))))))))
 ·refine wsr (oA rfl (rnf (w_ret (ret_nxt (ret_post (.tmp rfl .nil) k4 ?_)))))
  cases h
  exact ⟨t5, t6, rfl, rfl⟩
 refine wkf (wsr (oM rfl (cal_inv h fun y7 hy7 h => oT (t_callE (r05_Whole_w hy7) hT (s1 rfl) .nil (oA rfl (rnf (w_ret (ret_post (.tmp rfl .nil) k4 ?_))))))))
 cases h
 exact ⟨t5, t6, rfl, rfl⟩


theorem r05_parser_bounds_w : ∀ {a_x : GPar} {b_a_x : Nat} {t_a_x1 : Tok} {t_a_x2 : Tok} {v_a_x3 : Vt} {r : GCon × GPar}, r05_parser_bounds a_x = some r → Ctr Tryz.prog 80 [ptrv b_a_x (Fld.id ((List GTok) × Int × (Str × Int × (TList Str) × (TList Int) × Vh) × Int × Int))] [boxE b_a_x ((a_x.l, a_x.at_, (a_x.m.name, a_x.m.tagging, (TList.mk t_a_x1 a_x.m.names), (TList.mk t_a_x2 a_x.m.types), (Vh.mk v_a_x3 a_x.m.nodes.length)), a_x.e, a_x.p) : ((List GTok) × Int × (Str × Int × (TList Str) × (TList Int) × Vh) × Int × Int)), tokE t_a_x1, tokE t_a_x2, vecE v_a_x3 (a_x.m.nodes : List GNode)] (fun R H => ∃ u1 : Tok, ∃ u2 : Tok, R = oneOf [isv (r.1)] ∧ H = [boxE b_a_x ((r.2.l, r.2.at_, (r.2.m.name, r.2.m.tagging, (TList.mk u1 r.2.m.names), (TList.mk u2 r.2.m.types), (Vh.mk v_a_x3 r.2.m.nodes.length)), r.2.e, r.2.p)), tokE u1, tokE u2, vecE v_a_x3 (r.2.m.nodes)]) := by
 intro a_x b_a_x t_a_x1 t_a_x2 v_a_x3 r h
 unfold r05_parser_bounds at h
 refine spec_introD Tryz.func80 rfl fun w0 S0 hT => wsr (oT (t_alloc _ ze39 fun b4 => rnf (wsr (oV (v_build (z := (GCon.mk true false false false (0 : Int) (0 : Int))) rfl bu39 ze39 (.cons GCon.f0 fd39_0 rfl hI .nil)) (oT (t_alloc _ ze39 fun b5 => oT (t_storeC (y' := ((GCon.mk true false false false (0 : Int) (0 : Int)) : GCon)) ty39 rfl rfl hI .here rfl (rnf ?_))))))))
 refine w_seq (wsr (oM rfl (cal_inv h fun y6 hy6 h => oT (t_call (r05_parser_is_w hy6) hT (s2 rfl rfl) (.cons tI (.cons tI (.cons tI (.cons tI .nil)))) (fun R H' hR => ?_)))))
 obtain ⟨t7, t8, rfl, rfl⟩ := hR
 refine oV (v_not rfl) (rnf (w_J (ι := GPar × GCon) (γ := Tok × Tok) (fun q9 g9 => []) (fun q9 g9 => [boxE b_a_x ((q9.1.l, q9.1.at_, (q9.1.m.name, q9.1.m.tagging, (TList.mk g9.1 q9.1.m.names), (TList.mk g9.2 q9.1.m.types), (Vh.mk v_a_x3 q9.1.m.nodes.length)), q9.1.e, q9.1.p) : ((List GTok) × Int × (Str × Int × (TList Str) × (TList Int) × Vh) × Int × Int)), tokE g9.1, tokE g9.2, vecE v_a_x3 (q9.1.m.nodes : List GNode), boxE b5 (q9.2 : GCon)]) (.cons .here (.cons (.there tI) k3)) h (fun q9 g9 h => ?_) (fun J10 h hJ10 => ?_)))
 ·refine w_seq (w_J (ι := GPar × GCon) (γ := Tok × Tok) (fun q14 g14 => []) (fun q14 g14 => [boxE b_a_x ((q14.1.l, q14.1.at_, (q14.1.m.name, q14.1.m.tagging, (TList.mk g14.1 q14.1.m.names), (TList.mk g14.2 q14.1.m.types), (Vh.mk v_a_x3 q14.1.m.nodes.length)), q14.1.e, q14.1.p) : ((List GTok) × Int × (Str × Int × (TList Str) × (TList Int) × Vh) × Int × Int)), tokE g14.1, tokE g14.2, vecE v_a_x3 (q14.1.m.nodes : List GNode), boxE b5 (q14.2 : GCon)]) (.cons .here (.cons (.there tI) k3)) h (fun q14 g14 h => ?_) (fun J15 h hJ15 => ?_))
  ·refine w_seq (wsr (oM rfl (cal_inv h fun y25 hy25 h => oT (t_call (r05_parser_is_w hy25) hT (s2 rfl rfl) k4 (fun R H' hR => ?_)))))
   obtain ⟨t26, t27, rfl, rfl⟩ := hR
   refine rnf (w_J (ι := GPar × GCon) (γ := Tok × Tok) (fun q28 g28 => []) (fun q28 g28 => [boxE b_a_x ((q28.1.l, q28.1.at_, (q28.1.m.name, q28.1.m.tagging, (TList.mk g28.1 q28.1.m.names), (TList.mk g28.2 q28.1.m.types), (Vh.mk v_a_x3 q28.1.m.nodes.length)), q28.1.e, q28.1.p) : ((List GTok) × Int × (Str × Int × (TList Str) × (TList Int) × Vh) × Int × Int)), tokE g28.1, tokE g28.2, vecE v_a_x3 (q28.1.m.nodes : List GNode), boxE b5 (q28.2 : GCon)]) (.cons .here (.cons (.there tI) k3)) h (fun q28 g28 h => ?_) (fun J29 h hJ29 => ?_))
   ·refine wsr (oT (t_loadC (R := isv (q28.2)) ty39 rfl (.there (.there tI)) hI (oT (t_storeC (y' := (q28.2 : GCon)) ty39 rfl rfl hI (.there (.there (.there tI))) rfl (rnf (w_ret (ret_post (.cell rfl .here ty39 .nil) (.cons tH (.cons tH (.cons tH (.cons tH .nil)))) ?_)))))))
    cases h
    exact ⟨g28.1, g28.2, rfl, rfl⟩
   refine w_condM h rfl (fun _ h => ?_) (fun _ h => ?_)
   ·refine wsr (oM rfl (cal_inv h fun y30 hy30 h => oT (t_call (r05_parser_must_w hy30) hT (s2 rfl rfl) k4 (fun R H' hR => ?_))))
    obtain ⟨t31, t32, rfl, rfl⟩ := hR
    exact rnf (w_region (oV (v_fa rfl GCon.f3 fd39_3) (oT (t_storeC (y' := ({ q14.2 with more := true } : GCon)) ty4 rfl rfl hI (.there (.there tI)) rfl (rl_nil (hJ29 _ (t31, t32) h _ (join_imp 3 rfl rfl mod_nil (.cons tH (.cons tH (.cons tH (.cons tH k2)))))))))))
   exact w_skip (hJ29 _ (t26, t27) h _ (join_imp 0 rfl rfl mod_nil (.cons .here (.cons .here k4))))
  refine w_block (wsr (oM rfl (cal_inv h fun y16 hy16 h => oT (t_call (r05_parser_is_w hy16) hT (s2 rfl rfl) k4 (fun R H' hR => ?_)))))
  obtain ⟨t17, t18, rfl, rfl⟩ := hR
  refine oA rfl (rnf (w_condM h rfl (fun _ h => ?_) (fun _ h => ?_)))
  ·refine wsr (oM rfl (cal_inv h fun y19 hy19 h => oT (t_call (r05_parser_is_w hy19) hT (s2 rfl rfl) k4 (fun R H' hR => ?_))))
   obtain ⟨t20, t21, rfl, rfl⟩ := hR
   refine oV (v_not rfl) (rnf (w_condM h rfl (fun _ h => ?_) (fun _ h => ?_)))
   ·refine w_region (oM rfl (cal_inv h fun y22 hy22 h => oT (t_call (r05_parser_number_w hy22) hT (s1 rfl) k4 (fun R H' hR => ?_))))
    obtain ⟨t23, t24, rfl, rfl⟩ := hR
    exact oV (v_fa rfl GCon.f2 fd39_2) (oT (t_storeC (y' := ({ q9.2 with hasHigh := true } : GCon)) ty4 rfl rfl hI (.there (.there tI)) rfl (oV (v_fa rfl GCon.f5 fd39_5) (oT (t_storeC (y' := ({ { q9.2 with hasHigh := true } with high := y22.1 } : GCon)) ty2 rfl rfl hI .here rfl (rl_nil (fin_block (hJ15 _ (t23, t24) h _ (join_imp 10 rfl rfl mod_nil (.cons tH (.cons tH (.cons tH (.cons tH k2)))))))))))))
   exact w_skip (fin_block (hJ15 _ (t20, t21) h _ (join_imp 6 rfl rfl mod_nil (.cons .here (.cons .here k4)))))
  refine wsr (oV (v_fa rfl GCon.f1 fd39_1) (oT (t_loadC (R := isv (q9.2.hasLow)) ty4 rfl (.there (.there tI)) hI (oA rfl (rnf (w_condM h rfl (fun _ h => ?_) (fun _ h => ?_)))))))
  ·refine w_region (oV (v_fa rfl GCon.f4 fd39_4) (oT (t_loadC (R := isv (q9.2.low)) ty2 rfl (.there (.there tI)) hI (oV (v_fa rfl GCon.f2 fd39_2) (oT (t_storeC (y' := ({ q9.2 with hasHigh := true } : GCon)) ty4 rfl rfl hI (.there (.there tI)) rfl (oV (v_fa rfl GCon.f5 fd39_5) (oT (t_storeC (y' := ({ { q9.2 with hasHigh := true } with high := q9.2.low } : GCon)) ty2 rfl rfl hI .here rfl (rl_nil (fin_block ?_)))))))))))
   exact hJ15 _ (t17, t18) h _ (join_imp 10 rfl rfl mod_nil (.cons tH (.cons tH (.cons tH (.cons tH k2)))))
  exact w_skip (fin_block (hJ15 _ (t17, t18) h _ (join_imp 6 rfl rfl mod_nil (.cons .here (.cons .here k4)))))
 refine w_condM h rfl (fun _ h => ?_) (fun _ h => ?_)
 ·refine w_region (oM rfl (cal_inv h fun y11 hy11 h => oT (t_call (r05_parser_number_w hy11) hT (s1 rfl) k4 (fun R H' hR => ?_))))
  obtain ⟨t12, t13, rfl, rfl⟩ := hR
  exact oV (v_fa rfl GCon.f1 fd39_1) (oT (t_storeC (y' := ((GCon.mk true true false false (0 : Int) (0 : Int)) : GCon)) ty4 rfl rfl hI (.there (.there tI)) rfl (oV (v_fa rfl GCon.f4 fd39_4) (oT (t_storeC (y' := ((GCon.mk true true false false y11.1 (0 : Int)) : GCon)) ty2 rfl rfl hI .here rfl (rl_nil (hJ10 _ (t12, t13) h _ (join_imp 4 rfl rfl mod_nil (.cons tH (.cons tH (.cons tH (.cons tH k2))))))))))))
 exact w_skip (hJ10 _ (t7, t8) h _ (join_imp 0 rfl rfl mod_nil (.cons .here (.cons .here k4))))

end Go.Proofs.YtiibmpdjkdjbiaaGreatDoor


namespace Go.Proofs.YtiibmpdjkdjbiaaGreatDoor
open Go.Sy
set_option maxRecDepth 4000
theorem r05_parser_size_w : ∀ {a_x : GPar} {b_a_x : Nat} {t_a_x1 : Tok} {t_a_x2 : Tok} {v_a_x3 : Vt} {r : GCon × GPar}, r05_parser_size a_x = some r → Ctr Tryz.prog 79 [ptrv b_a_x (Fld.id ((List GTok) × Int × (Str × Int × (TList Str) × (TList Int) × Vh) × Int × Int))] [boxE b_a_x ((a_x.l, a_x.at_, (a_x.m.name, a_x.m.tagging, (TList.mk t_a_x1 a_x.m.names), (TList.mk t_a_x2 a_x.m.types), (Vh.mk v_a_x3 a_x.m.nodes.length)), a_x.e, a_x.p) : ((List GTok) × Int × (Str × Int × (TList Str) × (TList Int) × Vh) × Int × Int)), tokE t_a_x1, tokE t_a_x2, vecE v_a_x3 (a_x.m.nodes : List GNode)] (fun R H => ∃ u1 : Tok, ∃ u2 : Tok, R = oneOf [isv (r.1)] ∧ H = [boxE b_a_x ((r.2.l, r.2.at_, (r.2.m.name, r.2.m.tagging, (TList.mk u1 r.2.m.names), (TList.mk u2 r.2.m.types), (Vh.mk v_a_x3 r.2.m.nodes.length)), r.2.e, r.2.p)), tokE u1, tokE u2, vecE v_a_x3 (r.2.m.nodes)]) := by
 intro a_x b_a_x t_a_x1 t_a_x2 v_a_x3 r h
 unfold r05_parser_size at h
 refine spec_introD Tryz.func79 rfl fun w0 S0 hT => wsr (oT (t_alloc _ ze39 fun b4 => rnf (w_seq (wsr (oM rfl (cal_inv h fun y5 hy5 h => oT (t_call (r05_parser_is_w hy5) hT (s2 rfl rfl) (.cons tH (.cons tH (.cons tH (.cons tH .nil)))) (fun R H' hR => ?_))))))))
 obtain ⟨t6, t7, rfl, rfl⟩ := hR
 refine oV (v_not rfl) (rnf (w_condM h rfl (fun _ h => ?_) (fun _ h => ?_)))
 ·refine wsr (oV (v_build (z := (GCon.mk false false false false (0 : Int) (0 : Int))) rfl bu39 ze39 .nil) (oT (t_storeC (y' := ((GCon.mk false false false false (0 : Int) (0 : Int)) : GCon)) ty39 rfl rfl hI (.there (.there tI)) rfl (rnf (w_ret (ret_nxt (ret_post (.cell rfl .here ty39 .nil) (.cons tH (.cons tH (.cons tH (.cons tH .nil)))) ?_)))))))
  cases h
  exact ⟨t6, t7, rfl, rfl⟩
 refine wkf (wsr (oM rfl (cal_inv h fun y8 hy8 h => oT (t_call (r05_parser_must_w hy8) hT (s2 rfl rfl) k4 (fun R H' hR => ?_)))))
 obtain ⟨t9, t10, rfl, rfl⟩ := hR
 refine rnf (wsr (oM rfl (cal_inv h fun y11 hy11 h => oT (t_call (r05_parser_must_w hy11) hT (s2 rfl rfl) k4 (fun R H' hR => ?_)))))
 obtain ⟨t12, t13, rfl, rfl⟩ := hR
 refine rnf (wsr (oM rfl (cal_inv h fun y14 hy14 h => oT (t_call (r05_parser_bounds_w hy14) hT (s1 rfl) k4 (fun R H' hR => ?_)))))
 obtain ⟨t15, t16, rfl, rfl⟩ := hR
 refine oT (t_alloc _ ze39 fun b17 => oT (t_storeC (y' := (y14.1 : GCon)) ty39 rfl rfl hI .here rfl (rl_upd (upd_imm 3 .here rfl) (rnf (wsr (oM rfl (cal_inv h fun y18 hy18 h => oT (t_call (r05_parser_must_w hy18) hT (s2 rfl rfl) k4 (fun R H' hR => ?_)))))))))
 obtain ⟨t19, t20, rfl, rfl⟩ := hR
 refine rnf (wsr (oM rfl (cal_inv h fun y21 hy21 h => oT (t_call (r05_parser_must_w hy21) hT (s2 rfl rfl) k4 (fun R H' hR => ?_)))))
 obtain ⟨t22, t23, rfl, rfl⟩ := hR
 refine rnf (wsr (oV (v_loadI ty39 rfl) (oT (t_storeC (y' := (y14.1 : GCon)) ty39 rfl rfl hI (.there (.there tI)) rfl (rnf (w_ret (ret_post (.cell rfl .here ty39 .nil) (.cons tH (.cons tH (.cons tH (.cons tH .nil)))) ?_)))))))
 cases h
 exact ⟨t22, t23, rfl, rfl⟩


theorem r05_parser_items_w : ∀ {a_x : GPar} {a_n_ : GNode} {b_a_x : Nat} {t_a_x1 : Tok} {t_a_x2 : Tok} {v_a_x3 : Vt} {b_a_n_ : Nat} {t_a_n_4 : Tok} {t_a_n_5 : Tok} {r : GPar × GNode}, r05_parser_items a_x a_n_ = some r → Ctr Tryz.prog 81 [ptrv b_a_x (Fld.id ((List GTok) × Int × (Str × Int × (TList Str) × (TList Int) × Vh) × Int × Int)), ptrv b_a_n_ (Fld.id (Int × Str × GMark × GCon × (TList GItem) × (TList GFld) × Int × Bool × Int))] [boxE b_a_x ((a_x.l, a_x.at_, (a_x.m.name, a_x.m.tagging, (TList.mk t_a_x1 a_x.m.names), (TList.mk t_a_x2 a_x.m.types), (Vh.mk v_a_x3 a_x.m.nodes.length)), a_x.e, a_x.p) : ((List GTok) × Int × (Str × Int × (TList Str) × (TList Int) × Vh) × Int × Int)), tokE t_a_x1, tokE t_a_x2, vecE v_a_x3 (a_x.m.nodes : List GNode), boxE b_a_n_ ((a_n_.kind, a_n_.name, a_n_.mark, a_n_.con, (TList.mk t_a_n_4 a_n_.items), (TList.mk t_a_n_5 a_n_.fields), a_n_.root, a_n_.more, a_n_.of) : (Int × Str × GMark × GCon × (TList GItem) × (TList GFld) × Int × Bool × Int)), tokE t_a_n_4, tokE t_a_n_5] (fun R H => ∃ u1 : Tok, ∃ u2 : Tok, ∃ u3 : Tok, ∃ u4 : Tok, R = oneOf [] ∧ H = [boxE b_a_x ((r.1.l, r.1.at_, (r.1.m.name, r.1.m.tagging, (TList.mk u1 r.1.m.names), (TList.mk u2 r.1.m.types), (Vh.mk v_a_x3 r.1.m.nodes.length)), r.1.e, r.1.p)), tokE u1, tokE u2, vecE v_a_x3 (r.1.m.nodes), boxE b_a_n_ ((r.2.kind, r.2.name, r.2.mark, r.2.con, (TList.mk u3 r.2.items), (TList.mk u4 r.2.fields), r.2.root, r.2.more, r.2.of)), tokE u3, tokE u4]) := by
 intro a_x a_n_ b_a_x t_a_x1 t_a_x2 v_a_x3 b_a_n_ t_a_n_4 t_a_n_5 r h
 unfold r05_parser_items at h
 refine spec_introD Tryz.func81 rfl fun w0 S0 hT => w_seq (w_J (ι := GPar × GNode) (γ := Tok × Tok × Tok × Tok) (fun q6 g6 => []) (fun q6 g6 => [boxE b_a_x ((q6.1.l, q6.1.at_, (q6.1.m.name, q6.1.m.tagging, (TList.mk g6.1 q6.1.m.names), (TList.mk g6.2.1 q6.1.m.types), (Vh.mk v_a_x3 q6.1.m.nodes.length)), q6.1.e, q6.1.p) : ((List GTok) × Int × (Str × Int × (TList Str) × (TList Int) × Vh) × Int × Int)), tokE g6.1, tokE g6.2.1, vecE v_a_x3 (q6.1.m.nodes : List GNode), boxE b_a_n_ ((q6.2.kind, q6.2.name, q6.2.mark, q6.2.con, (TList.mk g6.2.2.1 q6.2.items), (TList.mk g6.2.2.2 q6.2.fields), q6.2.root, q6.2.more, q6.2.of) : (Int × Str × GMark × GCon × (TList GItem) × (TList GFld) × Int × Bool × Int)), tokE g6.2.2.1, tokE g6.2.2.2]) (.cons .here (.cons (.there tI) (.cons .here k4))) h (fun q6 g6 h => ?_) (fun J7 h hJ7 => ?_))
 ·refine wsr (oM rfl (oV (v_nilCheck rfl) (oV (v_fa rfl pt120_0_7 fd120_7) (oT (t_loadC (R := isv (q6.2.more)) ty4 rfl (.there (.there tI)) hI (oV (v_not rfl) (rnf (w_condM h rfl (fun _ h => ?_) (fun _ h => ?_)))))))))
  ·refine w_region (oM rfl (oM rfl (oV (v_nilCheck rfl) (oV (v_fa rfl pt120_0_4 fd120_4) (oT (t_loadC (R := appv g6.2.2.1 (q6.2.items)) ty40 rfl (.there (.there tI)) isvT1 (oV (v_ln (l := q6.2.items) rfl appv_isv sl40) (oV (v_nilCheck rfl) (oV (v_fa rfl pt120_0_6 fd120_6) ?_)))))))))
   refine oT (t_storeC (y' := ((q6.2.kind, q6.2.name, q6.2.mark, q6.2.con, (TList.mk g6.2.2.1 q6.2.items), (TList.mk g6.2.2.2 q6.2.fields), (q6.2.items.length : Int), q6.2.more, q6.2.of) : (Int × Str × GMark × GCon × (TList GItem) × (TList GFld) × Int × Bool × Int))) ty3 rfl rfl hI (.there (.there tI)) rfl (rl_nil (fin_post .nil (.cons tH (.cons tH (.cons tH (.cons tH k3)))) ?_)))
   cases h
   exact ⟨g6.1, g6.2.1, g6.2.2.1, g6.2.2.2, rfl, rfl⟩
  refine w_skip (fin_post .nil (.cons .here (.cons .here (.cons .here k4))) ?_)
  cases h
  exact ⟨g6.1, g6.2.1, g6.2.2.1, g6.2.2.2, rfl, rfl⟩
 refine w_block (w_lp (ι := GPar × GNode) (γ := Tok × Tok × Tok × Tok) (fun q8 g8 => []) (fun q8 g8 => [boxE b_a_x ((q8.1.l, q8.1.at_, (q8.1.m.name, q8.1.m.tagging, (TList.mk g8.1 q8.1.m.names), (TList.mk g8.2.1 q8.1.m.types), (Vh.mk v_a_x3 q8.1.m.nodes.length)), q8.1.e, q8.1.p) : ((List GTok) × Int × (Str × Int × (TList Str) × (TList Int) × Vh) × Int × Int)), tokE g8.1, tokE g8.2.1, vecE v_a_x3 (q8.1.m.nodes : List GNode), boxE b_a_n_ ((q8.2.kind, q8.2.name, q8.2.mark, q8.2.con, (TList.mk g8.2.2.1 q8.2.items), (TList.mk g8.2.2.2 q8.2.fields), q8.2.root, q8.2.more, q8.2.of) : (Int × Str × GMark × GCon × (TList GItem) × (TList GFld) × Int × Bool × Int)), tokE g8.2.2.1, tokE g8.2.2.2]) h (t_a_x1, t_a_x2, t_a_n_4, t_a_n_5) mod_nil (.cons .here (.cons .here (.cons .here k4))) (fun L9 q8 g8 Q82 h hL9 eL9 rL9 => w_seq (wsr (oM rfl (oV (v_nilCheck rfl) (oV (v_fa rfl pt84_0_3 fd84_3) (oT (t_loadC (R := isv (q8.1.e)) ty27 rfl .here hI (oV (v_eql rfl rfl) ?_)))))))))
 refine rnf (w_condM h rfl (fun _ h => ?_) (fun _ h => ?_))
 ·refine wkf (w_block (w_seq (wsr (oM rfl (oV (v_nilCheck rfl) (oV (v_fa rfl pt120_0_4 fd120_4) (oT (t_loadC (R := appv g8.2.2.1 (q8.2.items)) ty40 rfl (.there (.there tI)) isvT1 (oV (v_ln (l := q8.2.items) rfl appv_isv sl40) ?_)))))))))
  refine oV (v_gtr rfl rfl) (oM rfl (rl_j (jb 22) je .nil h 6 rfl (fun q46 g46 h => ?_) (fun J47 h hJ47 => ?_)))
  ·refine oM rfl (rl_j (ι := Bool × GPar) (γ := Tok × Tok) (fun q49 g49 => [(26, isv (q49.1))]) (fun q49 g49 => [boxE b_a_x ((q49.2.l, q49.2.at_, (q49.2.m.name, q49.2.m.tagging, (TList.mk g49.1 q49.2.m.names), (TList.mk g49.2 q49.2.m.types), (Vh.mk v_a_x3 q49.2.m.nodes.length)), q49.2.e, q49.2.p) : ((List GTok) × Int × (Str × Int × (TList Str) × (TList Int) × Vh) × Int × Int)), tokE g49.1, tokE g49.2, vecE v_a_x3 (q49.2.m.nodes : List GNode)]) k4 h 3 rfl (fun q49 g49 h => ?_) (fun J50 h hJ50 => ?_))
   ·refine rnf (w_J (ι := GPar × GNode) (γ := Tok × Tok × Tok × Tok) (fun q55 g55 => []) (fun q55 g55 => [boxE b_a_x ((q55.1.l, q55.1.at_, (q55.1.m.name, q55.1.m.tagging, (TList.mk g55.1 q55.1.m.names), (TList.mk g55.2.1 q55.1.m.types), (Vh.mk v_a_x3 q55.1.m.nodes.length)), q55.1.e, q55.1.p) : ((List GTok) × Int × (Str × Int × (TList Str) × (TList Int) × Vh) × Int × Int)), tokE g55.1, tokE g55.2.1, vecE v_a_x3 (q55.1.m.nodes : List GNode), boxE b_a_n_ ((q55.2.kind, q55.2.name, q55.2.mark, q55.2.con, (TList.mk g55.2.2.1 q55.2.items), (TList.mk g55.2.2.2 q55.2.fields), q55.2.root, q55.2.more, q55.2.of) : (Int × Str × GMark × GCon × (TList GItem) × (TList GFld) × Int × Bool × Int)), tokE g55.2.2.1, tokE g55.2.2.2]) (.cons .here (.cons (.there tI) (.cons .here k4))) h (fun q55 g55 h => ?_) (fun J56 h hJ56 => ?_))
    ·refine wsr (oM rfl (cal_inv h fun y79 hy79 h => oT (t_call (r05_parser_is_w hy79) hT (s2 rfl rfl) k4 (fun R H' hR => ?_))))
     obtain ⟨t80, t81, rfl, rfl⟩ := hR
     refine oV (v_not rfl) (rnf (w_condM h rfl (fun _ h => ?_) (fun _ h => ?_)))
     ·exact w_exit (exi_pass rfl (eL9 _ _ (exi_block (hJ7 _ (t80, t81, g55.2.2.1, g55.2.2.2) h _ (join_imp 18 rfl rfl mod_nil (.cons .here (.cons .here (.cons .here k4))))))))
     exact w_skip (fin_block (hL9 _ (t80, t81, g55.2.2.1, g55.2.2.2) h _ (join_imp 18 rfl rfl mod_nil (.cons .here (.cons .here (.cons .here k4))))))
    refine w_condM h rfl (fun _ h => ?_) (fun _ h => ?_)
    ·refine w_region (oM rfl (oM rfl (oM rfl (oV (v_nilCheck rfl) (oV (v_fa rfl pt120_0_4 fd120_4) (oT (t_loadC (R := appv g8.2.2.1 (q8.2.items)) ty40 rfl (.there (.there tI)) isvT1 (oV (v_ln (l := q8.2.items) rfl appv_isv sl40) (oV (v_nilCheck rfl) ?_)))))))))
     exact oV (v_fa rfl pt120_0_7 fd120_7) (oT (t_storeC (y' := ((q8.2.kind, q8.2.name, q8.2.mark, q8.2.con, (TList.mk g8.2.2.1 q8.2.items), (TList.mk g8.2.2.2 q8.2.fields), q8.2.root, true, q8.2.of) : (Int × Str × GMark × GCon × (TList GItem) × (TList GFld) × Int × Bool × Int))) ty4 rfl rfl hI (.there (.there tI)) rfl (oV (v_nilCheck rfl) (oV (v_fa rfl pt120_0_6 fd120_6) (oT (t_storeC (y' := ((q8.2.kind, q8.2.name, q8.2.mark, q8.2.con, (TList.mk g8.2.2.1 q8.2.items), (TList.mk g8.2.2.2 q8.2.fields), (q8.2.items.length : Int), true, q8.2.of) : (Int × Str × GMark × GCon × (TList GItem) × (TList GFld) × Int × Bool × Int))) ty3 rfl rfl hI .here rfl (rl_nil (hJ56 _ (g49.1, g49.2, g8.2.2.1, g8.2.2.2) h _ (join_imp 11 rfl rfl mod_nil (.cons tH (.cons tH (.cons tH (.cons tH k3)))))))))))))
    refine wsr (oM rfl (cal_inv h fun y57 hy57 h => oT (t_call (r05_parser_kind_w hy57) hT (s2 rfl rfl) k4 (fun R H' hR => ?_))))
    obtain ⟨t58, t59, rfl, rfl⟩ := hR
    refine oV (v_build (z := (GItem.mk y57.1 (0 : Int) false)) rfl bu63 ze63 (.cons GItem.f0 fd63_0 rfl hI .nil)) (oT (t_alloc _ ze63 fun b60 => oT (t_storeC (y' := ((GItem.mk y57.1 (0 : Int) false) : GItem)) ty63 rfl rfl hI .here rfl (rnf (w_seq (wsr (oM rfl (cal_inv h fun y61 hy61 h => oT (t_call (r05_parser_is_w hy61) hT (s2 rfl rfl) (.cons tH (.cons tH (.cons tH (.cons tH .nil)))) (fun R H' hR => ?_))))))))))
    obtain ⟨t62, t63, rfl, rfl⟩ := hR
    refine rnf (w_J (ι := GPar × GItem) (γ := Tok × Tok) (fun q64 g64 => []) (fun q64 g64 => [boxE b_a_x ((q64.1.l, q64.1.at_, (q64.1.m.name, q64.1.m.tagging, (TList.mk g64.1 q64.1.m.names), (TList.mk g64.2 q64.1.m.types), (Vh.mk v_a_x3 q64.1.m.nodes.length)), q64.1.e, q64.1.p) : ((List GTok) × Int × (Str × Int × (TList Str) × (TList Int) × Vh) × Int × Int)), tokE g64.1, tokE g64.2, vecE v_a_x3 (q64.1.m.nodes : List GNode), boxE b60 (q64.2 : GItem)]) (.cons .here (.cons (.there tI) k3)) h (fun q64 g64 h => ?_) (fun J65 h hJ65 => ?_))
    ·refine w_pinN 4 (.there (.there tI)) rfl (fun o72 hn73 => w_regionD (.v 0 (.v 1 (.v 2 (.v 3 (.v 5 (.alt 4 (.t 6 (.t 7 (.v 8 (.v 9 (.t 10 .nil))))) (.t 6 (.t 4 (.t 7 (.v 8 (.v 9 (.t 10 .nil)))))))))))) moOrd (by kernel_rfl) ?_)
     refine rvm rfl rfl (rvm rfl rfl (rd_v rfl (v_nilCheck rfl) (rd_v rfl (v_fa rfl pt120_0_4 fd120_4) (rd_v rfl (v_lpC (R := isv (q64.2)) ty63 rfl (List.Mem.head _) hI) (asr_inv h fun q76 h => rd_two ?_ ?_)))))
     ·exact rd_t rfl rfl (t_loadC (R := appv g8.2.2.1 (q8.2.items)) ty40 rfl (.there (.there tI)) isvT1 (rd_t rfl rfl (t_buildSlice (l := ([q64.2] : (List GItem))) el40 (.cons rfl hI .nil) rfl rfl (rd_t rfl rfl (t_appC (l := q8.2.items) (m := ([q64.2] : (List GItem))) ap40_40 rfl hI rfl appv_isv (.there (.there (.there tI))) q76 fun t75 => rd_v rfl (v_nilCheck rfl) (rd_v rfl (v_fa rfl pt120_0_4 fd120_4) (rd_t rfl rfl (t_storeC (y' := ((q8.2.kind, q8.2.name, q8.2.mark, q8.2.con, (TList.mk t75 (q8.2.items ++ ([q64.2] : (List GItem)))), (TList.mk g8.2.2.2 q8.2.fields), q8.2.root, q8.2.more, q8.2.of) : (Int × Str × GMark × GCon × (TList GItem) × (TList GFld) × Int × Bool × Int))) ty40 rfl rfl isvT2 (.there (.there (.there tI))) rfl (rd_nil (fin_unpinN 4 hn73 rfl (hJ56 _ (g64.1, g64.2, t75, g8.2.2.2) h _ (join_imp 18 rfl rfl mod_nil (.cons (.there tI) (.cons (.there tI) (.cons (.there tI) (.cons (.there tI) (.cons tH (.cons tH (.cons tH .nil)))))))))))))))))))
     exact rd_t rfl rfl (t_buildSlice (l := ([q64.2] : (List GItem))) el40 (.cons rfl hI .nil) rfl rfl (rd_t rfl rfl (t_loadC (R := appv g8.2.2.1 (q8.2.items)) ty40 rfl (.there (.there tI)) isvT1 (rd_t rfl rfl (t_appC (l := q8.2.items) (m := ([q64.2] : (List GItem))) ap40_40 rfl hI rfl appv_isv (.there (.there (.there tI))) q76 fun t78 => rd_v rfl (v_nilCheck rfl) (rd_v rfl (v_fa rfl pt120_0_4 fd120_4) (rd_t rfl rfl (t_storeC (y' := ((q8.2.kind, q8.2.name, q8.2.mark, q8.2.con, (TList.mk t78 (q8.2.items ++ ([q64.2] : (List GItem)))), (TList.mk g8.2.2.2 q8.2.fields), q8.2.root, q8.2.more, q8.2.of) : (Int × Str × GMark × GCon × (TList GItem) × (TList GFld) × Int × Bool × Int))) ty40 rfl rfl isvT2 (.there (.there (.there tI))) rfl (rd_nil (fin_unpinN 4 hn73 rfl (hJ56 _ (g64.1, g64.2, t78, g8.2.2.2) h _ (join_imp 18 rfl rfl mod_nil (.cons (.there tI) (.cons (.there tI) (.cons (.there tI) (.cons (.there tI) (.cons tH (.cons tH (.cons tH .nil)))))))))))))))))))
    refine w_condM h rfl (fun _ h => ?_) (fun _ h => ?_)
    ·refine wsr (oM rfl (cal_inv h fun y66 hy66 h => oT (t_call (r05_parser_number_w hy66) hT (s1 rfl) k4 (fun R H' hR => ?_))))
     obtain ⟨t67, t68, rfl, rfl⟩ := hR
     refine oV (v_fa rfl GItem.f2 fd63_2) (oT (t_storeC (y' := ((GItem.mk y57.1 (0 : Int) true) : GItem)) ty4 rfl rfl hI (.there (.there tI)) rfl (oV (v_fa rfl GItem.f1 fd63_1) (oT (t_storeC (y' := ((GItem.mk y57.1 y66.1 true) : GItem)) ty2 rfl rfl hI .here rfl (rnf (w_region (oM rfl (cal_inv h fun y69 hy69 h => oT (t_call (r05_parser_must_w hy69) hT (s2 rfl rfl) (.cons tH (.cons tH (.cons tH (.cons tH .nil)))) (fun R H' hR => ?_)))))))))))
     obtain ⟨t70, t71, rfl, rfl⟩ := hR
     exact rl_nil (hJ65 _ (t70, t71) h _ (join_imp 6 rfl rfl mod_nil (.cons .here (.cons .here (.cons .here (.cons .here k4))))))
    exact w_skip (hJ65 _ (t62, t63) h _ (join_imp 0 rfl rfl mod_nil (.cons .here (.cons .here (.cons .here (.cons .here k4))))))
   refine rl_condM (j := 23) h rfl (fun g51 h => ?_) (fun g51 h => ?_)
   ·refine oK 23 rfl rfl rfl g51 (v_move rfl) (cal_inv h fun y52 hy52 h => op_take rfl rfl (dj := 23) rfl g51 (t_call (r05_parser_is_w hy52) hT (s2 rfl rfl) k4 (fun R H' hR => ?_)))
    obtain ⟨t53, t54, rfl, rfl⟩ := hR
    exact oV (v_pick_t rfl g51 rfl) (hJ50 _ (t53, t54) h _ (join_imp 3 rfl rfl (mod_cons (j := 26) rfl hI mod_nil) (.cons .here (.cons .here (.cons .here k4)))))
   exact oP 23 rfl rfl g51 (oP 23 rfl rfl g51 (oV (v_pick_f rfl g51 rfl) (hJ50 _ (g8.1, g8.2.1) h _ (join_imp 3 rfl rfl (mod_cons (j := 26) rfl hI mod_nil) (.cons .here (.cons .here (.cons .here k4)))))))
  refine rl_condM (j := 16) h rfl (fun g48 h => ?_) (fun g48 h => ?_)
  ·exact oK 16 rfl rfl rfl g48 (v_move rfl) (oK 16 rfl rfl rfl g48 (v_nilCheck rfl) (oK 16 rfl rfl rfl g48 (v_fa rfl pt120_0_7 fd120_7) (op_take rfl rfl (dj := 16) rfl g48 (t_loadC (R := isv (q8.2.more)) ty4 rfl (.there (.there tI)) hI (oK 16 rfl rfl rfl g48 (v_not rfl) (oV (v_pick_t rfl g48 rfl) (hJ47 _ () h _ (join_imp 6 rfl rfl (mod_cons (j := 22) rfl hI mod_nil) (.cons .here (.cons .here (.cons .here k4)))))))))))
  exact oP 16 rfl rfl g48 (oP 16 rfl rfl g48 (oP 16 rfl rfl g48 (oP 16 rfl rfl g48 (oP 16 rfl rfl g48 (oV (v_pick_f rfl g48 rfl) (hJ47 _ () h _ (join_imp 6 rfl rfl (mod_cons (j := 22) rfl hI mod_nil) (.cons .here (.cons .here (.cons .here k4))))))))))
 exact w_exit (exi_nxt (eL9 _ _ (exi_block (hJ7 _ (g8.1, g8.2.1, g8.2.2.1, g8.2.2.2) h _ (join_imp 5 rfl rfl mod_nil (.cons .here (.cons .here (.cons .here k4))))))))


theorem r05_Hex_w : ∀ {a_s : Str} {r : (List UInt8)}, r05_Hex a_s = some r → Ctr Tryz.prog 135 [isv (a_s)] [] (fun R H => R = oneOf [isv (r)] ∧ H = []) := by
 intro a_s r h
 unfold r05_Hex at h
 refine spec_introD Tryz.func135 rfl fun w0 S0 hT => wsr (oA rfl (rnf (wsr (oA rfl (rnf (w_seq (wsr ?_)))))))
 refine oA rfl (rnf (w_block (w_upd (upd_tok) (w_lp (ι := (List UInt8) × Int) (γ := Tok) (fun q1 g1 => [(3, appv g1 (q1.1)), (4, isv (q1.2))]) (fun q1 g1 => [tokE g1]) h (none) (mod_cons (j := 3) rfl nilv_appv (mod_cons (j := 4) rfl hI mod_nil)) k1 (fun L2 q1 g1 Q60 h hL2 eL2 rL2 => w_seq (wsr (oM rfl (ck_inv h fun q31 h => ?_))))))))
 refine oV (v_add rfl rfl q31) (oM rfl (oV (v_lenS st9 rfl) (oV (v_lss rfl rfl) (rnf (w_condM h rfl (fun _ h => ?_) (fun _ h => ?_))))))
 ·refine wkf (w_seq (w_block (wsr (oA rfl (rnf (w_seq (wsr (oM rfl ?_))))))))
  refine oA rfl (rnf (w_block (w_lp (ι := UInt8 × Int) (γ := Unit) (fun q32 g32 => [(5, isv (q32.1)), (6, isv (q32.2))]) (fun q32 g32 => []) h () (mod_cons (j := 5) rfl hI (mod_cons (j := 6) rfl hI mod_nil)) .nil (fun L33 q32 g32 Q58 h hL33 eL33 rL33 => w_seq (wsr (oM rfl (oM rfl (ck_inv h fun q46 h => ?_))))))))
  refine oV (v_add rfl rfl q46) (oV (v_lss rfl rfl) (rnf (w_condM h rfl (fun _ h => ?_) (fun _ h => ?_))))
  ·refine wkf (w_seq (w_block (wsr (oM rfl (oM rfl (cal_inv h fun y47 hy47 h => oV (v_idxS y47 st9 rfl rfl hy47) (oV (v_sub8 rfl rfl) ?_)))))))
   refine oA rfl (rnf (w_seq (wsr (oM rfl (oM rfl (cal_inv h fun y48 hy48 h => oV (v_idxS y48 st9 rfl rfl hy48) (oV (v_geq8 rfl rfl) ?_)))))))
   refine rnf (w_J (ι := UInt8) (γ := Unit) (fun q49 g49 => [(7, isv (q49))]) (fun q49 g49 => []) .nil h (fun q49 g49 h => ?_) (fun J50 h hJ50 => ?_))
   ·refine w_region (oM rfl (asr_inv h fun q52 h => oV (v_shl8 rfl rfl q52) (oM rfl (oV (v_or8 rfl rfl) (oA rfl (rl_nil (fin_block ?_)))))))
    exact fin_nxt (w_region (oM rfl (ck_inv h fun q53 h => oV (v_add rfl rfl q53) (oA rfl (rl_nil (hL33 _ () h _ (join_imp 24 rfl rfl (mod_cons (j := 5) rfl hI (mod_cons (j := 6) rfl hI mod_nil)) k1)))))))
   refine w_condM h rfl (fun _ h => ?_) (fun _ h => ?_)
   ·refine w_region (oM rfl (oM rfl (cal_inv h fun y51 hy51 h => oV (v_idxS y51 st9 rfl rfl hy51) (oV (v_sub8 rfl rfl) (oV (v_add8 rfl rfl) (oA rfl (rl_nil ?_)))))))
    exact hJ50 _ () h _ (jk 6 7 rfl rfl rfl)
   exact w_skip (hJ50 _ () h _ (jk 0 7 rfl rfl rfl))
  refine w_exit (exi_nxt (eL33 _ _ (exi_block (fin_nxt (w_region (oM rfl (oM rfl (oT (t_buildSlice (l := ([q32.1] : (List UInt8))) el45 (.cons rfl hI .nil) rfl rfl ?_)))))))))
  refine asr_inv h fun q56 h => oT (t_appC (l := q1.1) (m := ([q32.1] : (List UInt8))) ap45_45 rfl hI rfl appv_isv .here q56 fun t55 => oA rfl (rl_nil (fin_block (fin_nxt (w_region (oM rfl (ck_inv h fun q57 h => ?_)))))))
  exact oV (v_add rfl rfl q57) (oA rfl (rl_nil (hL2 _ (t55) h _ (join_imp 24 rfl rfl (mod_cons (j := 3) rfl hI (mod_cons (j := 4) rfl hI mod_nil)) k1))))
 refine w_exit (exi_nxt (eL2 _ _ (exi_block (fin_nxt (wsr (oM rfl (oA rfl (rnf ?_))))))))
 refine w_ret ?_
 cases h
 exact ret_post (.as rfl appv_isv .nil) .nil ⟨rfl, rfl⟩


theorem r05_parser_value_w : ∀ {a_x : GPar} {b_a_x : Nat} {t_a_x1 : Tok} {t_a_x2 : Tok} {v_a_x3 : Vt} {r : Val × GPar}, r05_parser_value a_x = some r → Ctr Tryz.prog 120 [ptrv b_a_x (Fld.id ((List GTok) × Int × (Str × Int × (TList Str) × (TList Int) × Vh) × Int × Int))] [boxE b_a_x ((a_x.l, a_x.at_, (a_x.m.name, a_x.m.tagging, (TList.mk t_a_x1 a_x.m.names), (TList.mk t_a_x2 a_x.m.types), (Vh.mk v_a_x3 a_x.m.nodes.length)), a_x.e, a_x.p) : ((List GTok) × Int × (Str × Int × (TList Str) × (TList Int) × Vh) × Int × Int)), tokE t_a_x1, tokE t_a_x2, vecE v_a_x3 (a_x.m.nodes : List GNode)] (fun R H => ∃ u1 : Tok, ∃ u2 : Tok, R = oneOf [isv (r.1)] ∧ H = [boxE b_a_x ((r.2.l, r.2.at_, (r.2.m.name, r.2.m.tagging, (TList.mk u1 r.2.m.names), (TList.mk u2 r.2.m.types), (Vh.mk v_a_x3 r.2.m.nodes.length)), r.2.e, r.2.p)), tokE u1, tokE u2, vecE v_a_x3 (r.2.m.nodes)]) := by
 intro a_x b_a_x t_a_x1 t_a_x2 v_a_x3 r h
 unfold r05_parser_value at h
 refine spec_introD Tryz.func120 rfl fun w0 S0 hT => wsr (oT (t_alloc _ ze49 fun b4 => rnf (wsr (oM rfl (cal_inv h fun y5 hy5 h => oT (t_call (r05_parser_now_w hy5) hT (s1 rfl) (.cons tH (.cons tH (.cons tH (.cons tH .nil)))) (fun R H' hR => ?_)))))))
 obtain ⟨t6, t7, rfl, rfl⟩ := hR
 refine oT (t_alloc _ ze88 fun b8 => oT (t_storeC (y' := (y5.1 : GTok)) ty88 rfl rfl hI .here rfl (rl_upd (upd_imm 3 .here rfl) (rnf (w_seq (w_J (ι := GPar) (γ := Tok × Tok) (fun q9 g9 => []) (fun q9 g9 => [boxE b_a_x ((q9.l, q9.at_, (q9.m.name, q9.m.tagging, (TList.mk g9.1 q9.m.names), (TList.mk g9.2 q9.m.types), (Vh.mk v_a_x3 q9.m.nodes.length)), q9.e, q9.p) : ((List GTok) × Int × (Str × Int × (TList Str) × (TList Int) × Vh) × Int × Int)), tokE g9.1, tokE g9.2, vecE v_a_x3 (q9.m.nodes : List GNode)]) k4 h (fun q9 g9 h => ?_) (fun J10 h hJ10 => ?_)))))))
 ·refine wsr (oV (v_build (z := (Val.mk (0 : Int) (0 : Int) ([] : (List UInt8)) ([] : (List Val)) (0 : Int) ([] : (List Raw)))) rfl bu49 ze49 .nil) (oT (t_storeC (y' := ((Val.mk (0 : Int) (0 : Int) ([] : (List UInt8)) ([] : (List Val)) (0 : Int) ([] : (List Raw))) : Val)) ty49 rfl rfl hI (.there (.there tI)) rfl (rnf (w_ret (ret_post (.cell rfl .here ty49 .nil) (.cons tH (.cons tH (.cons tH (.cons tH .nil)))) ?_))))))
  cases h
  exact ⟨g9.1, g9.2, rfl, rfl⟩
 refine w_block (wsr (oM rfl (oV (v_nilCheck rfl) (oV (v_fa rfl pt84_0_3 fd84_3) (oT (t_loadC (R := isv (y5.2.e)) ty27 rfl .here hI (oV (v_neq rfl rfl) (oA rfl (rnf ?_)))))))))
 refine w_condM h rfl (fun _ h => ?_) (fun _ h => ?_)
 ·exact w_skip (fin_block (hJ10 _ (t6, t7) h _ (join_imp 6 rfl rfl mod_nil (.cons .here k4))))
 refine wsr (oM rfl (cal_inv h fun y11 hy11 h => oT (t_call (r05_parser_is_w hy11) hT (s2 rfl rfl) k4 (fun R H' hR => ?_))))
 obtain ⟨t12, t13, rfl, rfl⟩ := hR
 refine oA rfl (rnf (w_condM h rfl (fun _ h => ?_) (fun _ h => ?_)))
 ·refine wsr (oV (v_build (z := (Val.mk (1 : Int) (1 : Int) ([] : (List UInt8)) ([] : (List Val)) (0 : Int) ([] : (List Raw)))) rfl bu49 ze49 (.cons Val.f0 fd49_0 rfl hI (.cons Val.f1 fd49_1 rfl hI .nil))) (oT (t_storeC (y' := ((Val.mk (1 : Int) (1 : Int) ([] : (List UInt8)) ([] : (List Val)) (0 : Int) ([] : (List Raw))) : Val)) ty49 rfl rfl hI (.there (.there tI)) rfl (rnf (w_ret (ret_block (ret_nxt (ret_post (.cell rfl .here ty49 .nil) (.cons tH (.cons tH (.cons tH (.cons tH .nil)))) ?_))))))))
  cases h
  exact ⟨t12, t13, rfl, rfl⟩
 refine wsr (oM rfl (cal_inv h fun y14 hy14 h => oT (t_call (r05_parser_is_w hy14) hT (s2 rfl rfl) k4 (fun R H' hR => ?_))))
 obtain ⟨t15, t16, rfl, rfl⟩ := hR
 refine oA rfl (rnf (w_condM h rfl (fun _ h => ?_) (fun _ h => ?_)))
 ·refine wsr (oV (v_build (z := (Val.mk (1 : Int) (0 : Int) ([] : (List UInt8)) ([] : (List Val)) (0 : Int) ([] : (List Raw)))) rfl bu49 ze49 (.cons Val.f0 fd49_0 rfl hI .nil)) (oT (t_storeC (y' := ((Val.mk (1 : Int) (0 : Int) ([] : (List UInt8)) ([] : (List Val)) (0 : Int) ([] : (List Raw))) : Val)) ty49 rfl rfl hI (.there (.there tI)) rfl (rnf (w_ret (ret_block (ret_nxt (ret_post (.cell rfl .here ty49 .nil) (.cons tH (.cons tH (.cons tH (.cons tH .nil)))) ?_))))))))
  cases h
  exact ⟨t15, t16, rfl, rfl⟩
 refine wsr (oM rfl (cal_inv h fun y17 hy17 h => oT (t_call (r05_parser_is_w hy17) hT (s2 rfl rfl) k4 (fun R H' hR => ?_))))
 obtain ⟨t18, t19, rfl, rfl⟩ := hR
 refine oA rfl (rnf (w_condM h rfl (fun _ h => ?_) (fun _ h => ?_)))
 ·refine wsr (oV (v_build (z := (Val.mk (4 : Int) (0 : Int) ([] : (List UInt8)) ([] : (List Val)) (0 : Int) ([] : (List Raw)))) rfl bu49 ze49 (.cons Val.f0 fd49_0 rfl hI .nil)) (oT (t_storeC (y' := ((Val.mk (4 : Int) (0 : Int) ([] : (List UInt8)) ([] : (List Val)) (0 : Int) ([] : (List Raw))) : Val)) ty49 rfl rfl hI (.there (.there tI)) rfl (rnf (w_ret (ret_block (ret_nxt (ret_post (.cell rfl .here ty49 .nil) (.cons tH (.cons tH (.cons tH (.cons tH .nil)))) ?_))))))))
  cases h
  exact ⟨t18, t19, rfl, rfl⟩
 refine wsr (oV (v_fi rfl GTok.f0 fd88_0 rfl (z := y5.1.kind)) (oV (v_loadI ty3 rfl) (oV (v_eql rfl rfl) (oA rfl (rnf (w_condM h rfl (fun _ h => ?_) (fun _ h => ?_)))))))
 ·refine wsr (oM rfl (cal_inv h fun y20 hy20 h => oT (t_call (r05_parser_next_w hy20) hT (s1 rfl) k4 (fun R H' hR => ?_))))
  obtain ⟨t21, t22, rfl, rfl⟩ := hR
  refine oV (v_field GTok.f1 rfl fd88_1 rfl) (cal_inv h fun y23 hy23 h => oT (t_callE (r05_Whole_w hy23) hT (s1 rfl) .nil (oV (v_build (z := (Val.mk (2 : Int) y23 ([] : (List UInt8)) ([] : (List Val)) (0 : Int) ([] : (List Raw)))) rfl bu49 ze49 (.cons Val.f0 fd49_0 rfl hI (.cons Val.f1 fd49_1 rfl hI .nil))) (oT (t_storeC (y' := ((Val.mk (2 : Int) y23 ([] : (List UInt8)) ([] : (List Val)) (0 : Int) ([] : (List Raw))) : Val)) ty49 rfl rfl hI (.there (.there tI)) rfl (rnf (w_ret (ret_block (ret_nxt ?_)))))))))
  refine ret_post (.cell rfl .here ty49 .nil) (.cons tH (.cons tH (.cons tH (.cons tH .nil)))) ?_
  cases h
  exact ⟨t21, t22, rfl, rfl⟩
 refine wsr (oV (v_fi rfl GTok.f0 fd88_0 rfl (z := y5.1.kind)) (oV (v_loadI ty3 rfl) (oV (v_eql rfl rfl) (oA rfl (rnf (w_condM h rfl (fun _ h => ?_) (fun _ h => ?_)))))))
 ·refine wsr (oM rfl (cal_inv h fun y24 hy24 h => oT (t_call (r05_parser_next_w hy24) hT (s1 rfl) k4 (fun R H' hR => ?_))))
  obtain ⟨t25, t26, rfl, rfl⟩ := hR
  refine oV (v_field GTok.f1 rfl fd88_1 rfl) (asr_inv h fun q27 h => oT (t_sb Tryz.underlying9 Tryz.underlying45 Tryz.underlying5 rfl q27 (oV (v_build (z := (Val.mk (3 : Int) (0 : Int) y24.1.text.b ([] : (List Val)) (0 : Int) ([] : (List Raw)))) rfl bu49 ze49 (.cons Val.f0 fd49_0 rfl hI (.cons Val.f2 fd49_2 rfl hI .nil))) (oT (t_storeC (y' := ((Val.mk (3 : Int) (0 : Int) y24.1.text.b ([] : (List Val)) (0 : Int) ([] : (List Raw))) : Val)) ty49 rfl rfl hI (.there (.there tI)) rfl (rnf (w_ret (ret_block (ret_nxt ?_)))))))))
  refine ret_post (.cell rfl .here ty49 .nil) (.cons tH (.cons tH (.cons tH (.cons tH .nil)))) ?_
  cases h
  exact ⟨t25, t26, rfl, rfl⟩
 refine wsr (oV (v_fi rfl GTok.f0 fd88_0 rfl (z := y5.1.kind)) (oV (v_loadI ty3 rfl) (oV (v_eql rfl rfl) (oA rfl (rnf (w_condM h rfl (fun _ h => ?_) (fun _ h => ?_)))))))
 ·refine wsr (oM rfl (cal_inv h fun y28 hy28 h => oT (t_call (r05_parser_next_w hy28) hT (s1 rfl) k4 (fun R H' hR => ?_))))
  obtain ⟨t29, t30, rfl, rfl⟩ := hR
  refine oV (v_field GTok.f1 rfl fd88_1 rfl) (cal_inv h fun y31 hy31 h => oT (t_callE (r05_Hex_w hy31) hT (s1 rfl) .nil (oV (v_build (z := (Val.mk (5 : Int) (0 : Int) y31 ([] : (List Val)) (0 : Int) ([] : (List Raw)))) rfl bu49 ze49 (.cons Val.f0 fd49_0 rfl hI (.cons Val.f2 fd49_2 rfl hI .nil))) (oT (t_storeC (y' := ((Val.mk (5 : Int) (0 : Int) y31 ([] : (List Val)) (0 : Int) ([] : (List Raw))) : Val)) ty49 rfl rfl hI (.there (.there tI)) rfl (rnf (w_ret (ret_block (ret_nxt ?_)))))))))
  refine ret_post (.cell rfl .here ty49 .nil) (.cons tH (.cons tH (.cons tH (.cons tH .nil)))) ?_
  cases h
  exact ⟨t29, t30, rfl, rfl⟩
 refine wsr (oV (v_fi rfl GTok.f0 fd88_0 rfl (z := y5.1.kind)) (oV (v_loadI ty3 rfl) (oV (v_eql rfl rfl) (oA rfl (rnf (w_condM h rfl (fun _ h => ?_) (fun _ h => ?_)))))))
 ·refine wsr (oM rfl (cal_inv h fun y32 hy32 h => oT (t_call (r05_parser_next_w hy32) hT (s1 rfl) k4 (fun R H' hR => ?_))))
  obtain ⟨t33, t34, rfl, rfl⟩ := hR
  refine oV (v_field GTok.f1 rfl fd88_1 rfl) (asr_inv h fun q35 h => oT (t_sb Tryz.underlying9 Tryz.underlying45 Tryz.underlying5 rfl q35 (oV (v_build (z := (Val.mk (6 : Int) (0 : Int) y32.1.text.b ([] : (List Val)) (0 : Int) ([] : (List Raw)))) rfl bu49 ze49 (.cons Val.f0 fd49_0 rfl hI (.cons Val.f2 fd49_2 rfl hI .nil))) (oT (t_storeC (y' := ((Val.mk (6 : Int) (0 : Int) y32.1.text.b ([] : (List Val)) (0 : Int) ([] : (List Raw))) : Val)) ty49 rfl rfl hI (.there (.there tI)) rfl (rnf (w_ret (ret_block (ret_nxt ?_)))))))))
  refine ret_post (.cell rfl .here ty49 .nil) (.cons tH (.cons tH (.cons tH (.cons tH .nil)))) ?_
  cases h
  exact ⟨t33, t34, rfl, rfl⟩
 refine w_region (oM rfl (oV (v_loadI ty88 rfl) (cal_inv h fun y36 hy36 h => oT (t_call (r05_parser_fail_w hy36) hT (s3 rfl rfl rfl) k4 (fun R H' hR => ?_)))))
 obtain ⟨t37, t38, rfl, rfl⟩ := hR
 exact rl_nil (fin_block (hJ10 _ (t37, t38) h _ (join_imp 34 rfl rfl mod_nil (.cons .here k4))))

end Go.Proofs.YtiibmpdjkdjbiaaGreatDoor


namespace Go.Proofs.YtiibmpdjkdjbiaaGreatDoor
open Go.Sy
set_option maxRecDepth 4000
def r05_parser_field_C (f' : GPar → GNode → Int → Int → Option (GPar × GNode)) : Prop :=
 ∀ {a_x : GPar} {a_n_ : GNode} {a_depth : Int} {a_group : Int} {b_a_x : Nat} {t_a_x1 : Tok} {t_a_x2 : Tok} {v_a_x3 : Vt} {b_a_n_ : Nat} {t_a_n_4 : Tok} {t_a_n_5 : Tok} {r : GPar × GNode}, f' a_x a_n_ a_depth a_group = some r → Ctr Tryz.prog 99 [ptrv b_a_x (Fld.id ((List GTok) × Int × (Str × Int × (TList Str) × (TList Int) × Vh) × Int × Int)), ptrv b_a_n_ (Fld.id (Int × Str × GMark × GCon × (TList GItem) × (TList GFld) × Int × Bool × Int)), isv (a_depth), isv (a_group)] [boxE b_a_x ((a_x.l, a_x.at_, (a_x.m.name, a_x.m.tagging, (TList.mk t_a_x1 a_x.m.names), (TList.mk t_a_x2 a_x.m.types), (Vh.mk v_a_x3 a_x.m.nodes.length)), a_x.e, a_x.p) : ((List GTok) × Int × (Str × Int × (TList Str) × (TList Int) × Vh) × Int × Int)), tokE t_a_x1, tokE t_a_x2, vecE v_a_x3 (a_x.m.nodes : List GNode), boxE b_a_n_ ((a_n_.kind, a_n_.name, a_n_.mark, a_n_.con, (TList.mk t_a_n_4 a_n_.items), (TList.mk t_a_n_5 a_n_.fields), a_n_.root, a_n_.more, a_n_.of) : (Int × Str × GMark × GCon × (TList GItem) × (TList GFld) × Int × Bool × Int)), tokE t_a_n_4, tokE t_a_n_5] (fun R H => ∃ u1 : Tok, ∃ u2 : Tok, ∃ u3 : Vt, ∃ u4 : Tok, ∃ u5 : Tok, R = oneOf [] ∧ H = [boxE b_a_x ((r.1.l, r.1.at_, (r.1.m.name, r.1.m.tagging, (TList.mk u1 r.1.m.names), (TList.mk u2 r.1.m.types), (Vh.mk u3 r.1.m.nodes.length)), r.1.e, r.1.p)), tokE u1, tokE u2, vecE u3 (r.1.m.nodes), boxE b_a_n_ ((r.2.kind, r.2.name, r.2.mark, r.2.con, (TList.mk u4 r.2.items), (TList.mk u5 r.2.fields), r.2.root, r.2.more, r.2.of)), tokE u4, tokE u5])
def r05_parser_typ_C (f' : GPar → Int → Option (Int × GPar)) : Prop :=
 ∀ {a_x : GPar} {a_depth : Int} {b_a_x : Nat} {t_a_x1 : Tok} {t_a_x2 : Tok} {v_a_x3 : Vt} {r : Int × GPar}, f' a_x a_depth = some r → Ctr Tryz.prog 33 [ptrv b_a_x (Fld.id ((List GTok) × Int × (Str × Int × (TList Str) × (TList Int) × Vh) × Int × Int)), isv (a_depth)] [boxE b_a_x ((a_x.l, a_x.at_, (a_x.m.name, a_x.m.tagging, (TList.mk t_a_x1 a_x.m.names), (TList.mk t_a_x2 a_x.m.types), (Vh.mk v_a_x3 a_x.m.nodes.length)), a_x.e, a_x.p) : ((List GTok) × Int × (Str × Int × (TList Str) × (TList Int) × Vh) × Int × Int)), tokE t_a_x1, tokE t_a_x2, vecE v_a_x3 (a_x.m.nodes : List GNode)] (fun R H => ∃ u1 : Tok, ∃ u2 : Tok, ∃ u3 : Vt, R = oneOf [isv (r.1)] ∧ H = [boxE b_a_x ((r.2.l, r.2.at_, (r.2.m.name, r.2.m.tagging, (TList.mk u1 r.2.m.names), (TList.mk u2 r.2.m.types), (Vh.mk u3 r.2.m.nodes.length)), r.2.e, r.2.p)), tokE u1, tokE u2, vecE u3 (r.2.m.nodes)])
def r05_parser_base_C (f' : GPar → GNode → Int → Option (GPar × GNode)) : Prop :=
 ∀ {a_x : GPar} {a_n_ : GNode} {a_depth : Int} {b_a_x : Nat} {t_a_x1 : Tok} {t_a_x2 : Tok} {v_a_x3 : Vt} {b_a_n_ : Nat} {t_a_n_4 : Tok} {t_a_n_5 : Tok} {r : GPar × GNode}, f' a_x a_n_ a_depth = some r → Ctr Tryz.prog 53 [ptrv b_a_x (Fld.id ((List GTok) × Int × (Str × Int × (TList Str) × (TList Int) × Vh) × Int × Int)), ptrv b_a_n_ (Fld.id (Int × Str × GMark × GCon × (TList GItem) × (TList GFld) × Int × Bool × Int)), isv (a_depth)] [boxE b_a_x ((a_x.l, a_x.at_, (a_x.m.name, a_x.m.tagging, (TList.mk t_a_x1 a_x.m.names), (TList.mk t_a_x2 a_x.m.types), (Vh.mk v_a_x3 a_x.m.nodes.length)), a_x.e, a_x.p) : ((List GTok) × Int × (Str × Int × (TList Str) × (TList Int) × Vh) × Int × Int)), tokE t_a_x1, tokE t_a_x2, vecE v_a_x3 (a_x.m.nodes : List GNode), boxE b_a_n_ ((a_n_.kind, a_n_.name, a_n_.mark, a_n_.con, (TList.mk t_a_n_4 a_n_.items), (TList.mk t_a_n_5 a_n_.fields), a_n_.root, a_n_.more, a_n_.of) : (Int × Str × GMark × GCon × (TList GItem) × (TList GFld) × Int × Bool × Int)), tokE t_a_n_4, tokE t_a_n_5] (fun R H => ∃ u1 : Tok, ∃ u2 : Tok, ∃ u3 : Vt, ∃ u4 : Tok, ∃ u5 : Tok, R = oneOf [] ∧ H = [boxE b_a_x ((r.1.l, r.1.at_, (r.1.m.name, r.1.m.tagging, (TList.mk u1 r.1.m.names), (TList.mk u2 r.1.m.types), (Vh.mk u3 r.1.m.nodes.length)), r.1.e, r.1.p)), tokE u1, tokE u2, vecE u3 (r.1.m.nodes), boxE b_a_n_ ((r.2.kind, r.2.name, r.2.mark, r.2.con, (TList.mk u4 r.2.items), (TList.mk u5 r.2.fields), r.2.root, r.2.more, r.2.of)), tokE u4, tokE u5])
def r05_parser_fields_C (f' : GPar → GNode → Int → Option (GPar × GNode)) : Prop :=
 ∀ {a_x : GPar} {a_n_ : GNode} {a_depth : Int} {b_a_x : Nat} {t_a_x1 : Tok} {t_a_x2 : Tok} {v_a_x3 : Vt} {b_a_n_ : Nat} {t_a_n_4 : Tok} {t_a_n_5 : Tok} {r : GPar × GNode}, f' a_x a_n_ a_depth = some r → Ctr Tryz.prog 82 [ptrv b_a_x (Fld.id ((List GTok) × Int × (Str × Int × (TList Str) × (TList Int) × Vh) × Int × Int)), ptrv b_a_n_ (Fld.id (Int × Str × GMark × GCon × (TList GItem) × (TList GFld) × Int × Bool × Int)), isv (a_depth)] [boxE b_a_x ((a_x.l, a_x.at_, (a_x.m.name, a_x.m.tagging, (TList.mk t_a_x1 a_x.m.names), (TList.mk t_a_x2 a_x.m.types), (Vh.mk v_a_x3 a_x.m.nodes.length)), a_x.e, a_x.p) : ((List GTok) × Int × (Str × Int × (TList Str) × (TList Int) × Vh) × Int × Int)), tokE t_a_x1, tokE t_a_x2, vecE v_a_x3 (a_x.m.nodes : List GNode), boxE b_a_n_ ((a_n_.kind, a_n_.name, a_n_.mark, a_n_.con, (TList.mk t_a_n_4 a_n_.items), (TList.mk t_a_n_5 a_n_.fields), a_n_.root, a_n_.more, a_n_.of) : (Int × Str × GMark × GCon × (TList GItem) × (TList GFld) × Int × Bool × Int)), tokE t_a_n_4, tokE t_a_n_5] (fun R H => ∃ u1 : Tok, ∃ u2 : Tok, ∃ u3 : Vt, ∃ u4 : Tok, ∃ u5 : Tok, R = oneOf [] ∧ H = [boxE b_a_x ((r.1.l, r.1.at_, (r.1.m.name, r.1.m.tagging, (TList.mk u1 r.1.m.names), (TList.mk u2 r.1.m.types), (Vh.mk u3 r.1.m.nodes.length)), r.1.e, r.1.p)), tokE u1, tokE u2, vecE u3 (r.1.m.nodes), boxE b_a_n_ ((r.2.kind, r.2.name, r.2.mark, r.2.con, (TList.mk u4 r.2.items), (TList.mk u5 r.2.fields), r.2.root, r.2.more, r.2.of)), tokE u4, tokE u5])
theorem r05_parser_field_w0 {r05_parser_field' : GPar → GNode → Int → Int → Option (GPar × GNode)} {r05_parser_typ' : GPar → Int → Option (Int × GPar)} {r05_parser_base' : GPar → GNode → Int → Option (GPar × GNode)} {r05_parser_fields' : GPar → GNode → Int → Option (GPar × GNode)} (h_r05_parser_field : r05_parser_field_C r05_parser_field') (h_r05_parser_typ : r05_parser_typ_C r05_parser_typ') (h_r05_parser_base : r05_parser_base_C r05_parser_base') (h_r05_parser_fields : r05_parser_fields_C r05_parser_fields') : ∀ {a_x : GPar} {a_n_ : GNode} {a_depth : Int} {a_group : Int} {b_a_x : Nat} {t_a_x1 : Tok} {t_a_x2 : Tok} {v_a_x3 : Vt} {b_a_n_ : Nat} {t_a_n_4 : Tok} {t_a_n_5 : Tok} {r : GPar × GNode}, r05_parser_field_F r05_parser_field' r05_parser_typ' r05_parser_base' r05_parser_fields' a_x a_n_ a_depth a_group = some r → Ctr Tryz.prog 99 [ptrv b_a_x (Fld.id ((List GTok) × Int × (Str × Int × (TList Str) × (TList Int) × Vh) × Int × Int)), ptrv b_a_n_ (Fld.id (Int × Str × GMark × GCon × (TList GItem) × (TList GFld) × Int × Bool × Int)), isv (a_depth), isv (a_group)] [boxE b_a_x ((a_x.l, a_x.at_, (a_x.m.name, a_x.m.tagging, (TList.mk t_a_x1 a_x.m.names), (TList.mk t_a_x2 a_x.m.types), (Vh.mk v_a_x3 a_x.m.nodes.length)), a_x.e, a_x.p) : ((List GTok) × Int × (Str × Int × (TList Str) × (TList Int) × Vh) × Int × Int)), tokE t_a_x1, tokE t_a_x2, vecE v_a_x3 (a_x.m.nodes : List GNode), boxE b_a_n_ ((a_n_.kind, a_n_.name, a_n_.mark, a_n_.con, (TList.mk t_a_n_4 a_n_.items), (TList.mk t_a_n_5 a_n_.fields), a_n_.root, a_n_.more, a_n_.of) : (Int × Str × GMark × GCon × (TList GItem) × (TList GFld) × Int × Bool × Int)), tokE t_a_n_4, tokE t_a_n_5] (fun R H => ∃ u1 : Tok, ∃ u2 : Tok, ∃ u3 : Vt, ∃ u4 : Tok, ∃ u5 : Tok, R = oneOf [] ∧ H = [boxE b_a_x ((r.1.l, r.1.at_, (r.1.m.name, r.1.m.tagging, (TList.mk u1 r.1.m.names), (TList.mk u2 r.1.m.types), (Vh.mk u3 r.1.m.nodes.length)), r.1.e, r.1.p)), tokE u1, tokE u2, vecE u3 (r.1.m.nodes), boxE b_a_n_ ((r.2.kind, r.2.name, r.2.mark, r.2.con, (TList.mk u4 r.2.items), (TList.mk u5 r.2.fields), r.2.root, r.2.more, r.2.of)), tokE u4, tokE u5]) := by
 intro a_x a_n_ a_depth a_group b_a_x t_a_x1 t_a_x2 v_a_x3 b_a_n_ t_a_n_4 t_a_n_5 r h
 unfold r05_parser_field_F at h
 refine spec_introD Tryz.func99 rfl fun w0 S0 hT => wsr (oM rfl (cal_inv h fun y6 hy6 h => oT (t_call (r05_parser_kind_w hy6) hT (s2 rfl rfl) k4 (fun R H' hR => ?_))))
 obtain ⟨t7, t8, rfl, rfl⟩ := hR
 refine oM rfl (oV (v_build (z := (GFld.mk y6.1 (0 : Int) false false (Val.mk (0 : Int) (0 : Int) ([] : (List UInt8)) ([] : (List Val)) (0 : Int) ([] : (List Raw))) a_group)) rfl bu51 ze51 (.cons GFld.f0 fd51_0 rfl hI (.cons GFld.f5 fd51_5 rfl hI .nil))) (oT (t_alloc _ ze51 fun b9 => oT (t_storeC (y' := ((GFld.mk y6.1 (0 : Int) false false (Val.mk (0 : Int) (0 : Int) ([] : (List UInt8)) ([] : (List Val)) (0 : Int) ([] : (List Raw))) a_group) : GFld)) ty51 rfl rfl hI .here rfl (rnf (wsr (oM rfl (oM rfl (ck_inv h fun q10 h => ?_)))))))))
 refine oV (v_add rfl rfl q10) (cal_inv h fun y11 hy11 h => oT (t_call (h_r05_parser_typ hy11) hT (s2 rfl rfl) (.cons tH (.cons tH (.cons tH (.cons tH .nil)))) (fun R H' hR => ?_)))
 obtain ⟨t12, t13, v14, rfl, rfl⟩ := hR
 refine oV (v_fa rfl GFld.f1 fd51_1) (oT (t_storeC (y' := ((GFld.mk y6.1 y11.1 false false (Val.mk (0 : Int) (0 : Int) ([] : (List UInt8)) ([] : (List Val)) (0 : Int) ([] : (List Raw))) a_group) : GFld)) ty3 rfl rfl hI (.there (.there tI)) rfl (rnf (w_seq (w_J (ι := GFld × GPar) (γ := Tok × Tok) (fun q15 g15 => []) (fun q15 g15 => [boxE b9 (q15.1 : GFld), boxE b_a_x ((q15.2.l, q15.2.at_, (q15.2.m.name, q15.2.m.tagging, (TList.mk g15.1 q15.2.m.names), (TList.mk g15.2 q15.2.m.types), (Vh.mk v14 q15.2.m.nodes.length)), q15.2.e, q15.2.p) : ((List GTok) × Int × (Str × Int × (TList Str) × (TList Int) × Vh) × Int × Int)), tokE g15.1, tokE g15.2, vecE v14 (q15.2.m.nodes : List GNode)]) (.cons .here k4) h (fun q15 g15 h => ?_) (fun J16 h hJ16 => ?_))))))
 ·refine w_pinN 8 .here rfl (fun o26 hn27 => w_regionD (.v 0 (.v 1 (.v 2 (.v 3 (.v 5 (.alt 4 (.t 6 (.t 7 (.v 8 (.v 9 (.t 10 .nil))))) (.t 6 (.t 4 (.t 7 (.v 8 (.v 9 (.t 10 .nil)))))))))))) moOrd (by kernel_rfl) ?_)
  refine rvm rfl rfl (rvm rfl rfl (rd_v rfl (v_nilCheck rfl) (rd_v rfl (v_fa rfl pt120_0_5 fd120_5) (rd_v rfl (v_lpC (R := isv (q15.1)) ty51 rfl (List.Mem.head _) hI) (asr_inv h fun q30 h => rd_two ?_ ?_)))))
  ·refine rd_t rfl rfl (t_loadC (R := appv t_a_n_5 (a_n_.fields)) ty41 rfl (.there (.there tI)) isvT1 (rd_t rfl rfl (t_buildSlice (l := ([q15.1] : (List GFld))) el41 (.cons rfl hI .nil) rfl rfl (rd_t rfl rfl (t_appC (l := a_n_.fields) (m := ([q15.1] : (List GFld))) ap41_41 rfl hI rfl appv_isv (.there (.there (.there (.there tI)))) q30 fun t29 => rd_v rfl (v_nilCheck rfl) (rd_v rfl (v_fa rfl pt120_0_5 fd120_5) (rd_t rfl rfl (t_storeC (y' := ((a_n_.kind, a_n_.name, a_n_.mark, a_n_.con, (TList.mk t_a_n_4 a_n_.items), (TList.mk t29 (a_n_.fields ++ ([q15.1] : (List GFld)))), a_n_.root, a_n_.more, a_n_.of) : (Int × Str × GMark × GCon × (TList GItem) × (TList GFld) × Int × Bool × Int))) ty41 rfl rfl isvT2 (.there (.there (.there tI))) rfl (rd_nil (fin_unpinN 8 hn27 rfl (fin_post .nil (.cons (.there tI) (.cons (.there tI) (.cons (.there tI) (.cons (.there tI) (.cons tH (.cons tI (.cons tH .nil))))))) ?_)))))))))))
   cases h
   exact ⟨g15.1, g15.2, v14, t_a_n_4, t29, rfl, rfl⟩
  refine rd_t rfl rfl (t_buildSlice (l := ([q15.1] : (List GFld))) el41 (.cons rfl hI .nil) rfl rfl (rd_t rfl rfl (t_loadC (R := appv t_a_n_5 (a_n_.fields)) ty41 rfl (.there (.there tI)) isvT1 (rd_t rfl rfl (t_appC (l := a_n_.fields) (m := ([q15.1] : (List GFld))) ap41_41 rfl hI rfl appv_isv (.there (.there (.there (.there tI)))) q30 fun t32 => rd_v rfl (v_nilCheck rfl) (rd_v rfl (v_fa rfl pt120_0_5 fd120_5) (rd_t rfl rfl (t_storeC (y' := ((a_n_.kind, a_n_.name, a_n_.mark, a_n_.con, (TList.mk t_a_n_4 a_n_.items), (TList.mk t32 (a_n_.fields ++ ([q15.1] : (List GFld)))), a_n_.root, a_n_.more, a_n_.of) : (Int × Str × GMark × GCon × (TList GItem) × (TList GFld) × Int × Bool × Int))) ty41 rfl rfl isvT2 (.there (.there (.there tI))) rfl (rd_nil (fin_unpinN 8 hn27 rfl (fin_post .nil (.cons (.there tI) (.cons (.there tI) (.cons (.there tI) (.cons (.there tI) (.cons tH (.cons tI (.cons tH .nil))))))) ?_)))))))))))
  cases h
  exact ⟨g15.1, g15.2, v14, t_a_n_4, t32, rfl, rfl⟩
 refine w_block (wsr (oM rfl (oV (v_nilCheck rfl) (oV (v_fa rfl pt120_0_0 fd120_0) (oT (t_loadC (R := isv (a_n_.kind)) ty3 rfl (.there (.there (.there tI))) hI (oV (v_eql rfl rfl) (oA rfl (rnf ?_)))))))))
 refine w_condM h rfl (fun _ h => ?_) (fun _ h => ?_)
 ·exact w_skip (fin_block (hJ16 _ (t12, t13) h _ (join_imp 6 rfl rfl mod_nil (.cons .here (.cons .here (.cons .here (.cons .here k4)))))))
 refine wsr (oM rfl (cal_inv h fun y17 hy17 h => oT (t_call (r05_parser_is_w hy17) hT (s2 rfl rfl) (.cons tH (.cons tH (.cons tH (.cons tH .nil)))) (fun R H' hR => ?_))))
 obtain ⟨t18, t19, rfl, rfl⟩ := hR
 refine oA rfl (rnf (w_condM h rfl (fun _ h => ?_) (fun _ h => ?_)))
 ·exact w_region (oV (v_fa rfl GFld.f2 fd51_2) (oT (t_storeC (y' := ((GFld.mk y6.1 y11.1 true false (Val.mk (0 : Int) (0 : Int) ([] : (List UInt8)) ([] : (List Val)) (0 : Int) ([] : (List Raw))) a_group) : GFld)) ty4 rfl rfl hI (.there (.there tI)) rfl (rl_nil (fin_block (hJ16 _ (t18, t19) h _ (join_imp 10 rfl rfl mod_nil (.cons .here (.cons .here (.cons .here (.cons .here k4)))))))))))
 refine wsr (oM rfl (cal_inv h fun y20 hy20 h => oT (t_call (r05_parser_is_w hy20) hT (s2 rfl rfl) k4 (fun R H' hR => ?_))))
 obtain ⟨t21, t22, rfl, rfl⟩ := hR
 refine oA rfl (rnf (w_condM h rfl (fun _ h => ?_) (fun _ h => ?_)))
 ·refine w_region (oM rfl (cal_inv h fun y23 hy23 h => oT (t_call (r05_parser_value_w hy23) hT (s1 rfl) k4 (fun R H' hR => ?_))))
  obtain ⟨t24, t25, rfl, rfl⟩ := hR
  exact oV (v_fa rfl GFld.f3 fd51_3) (oT (t_storeC (y' := ((GFld.mk y6.1 y11.1 false true (Val.mk (0 : Int) (0 : Int) ([] : (List UInt8)) ([] : (List Val)) (0 : Int) ([] : (List Raw))) a_group) : GFld)) ty4 rfl rfl hI (.there (.there tI)) rfl (oV (v_fa rfl GFld.f4 fd51_4) (oT (t_storeC (y' := ((GFld.mk y6.1 y11.1 false true y23.1 a_group) : GFld)) ty49 rfl rfl hI .here rfl (rl_nil (fin_block (hJ16 _ (t24, t25) h _ (join_imp 16 rfl rfl mod_nil (.cons .here (.cons .here (.cons .here (.cons .here k4)))))))))))))
 exact w_skip (fin_block (hJ16 _ (t21, t22) h _ (join_imp 12 rfl rfl mod_nil (.cons (.there (.there tI)) (.cons .here (.cons .here (.cons .here k4)))))))

theorem r05_parser_typ_w0 {r05_parser_field' : GPar → GNode → Int → Int → Option (GPar × GNode)} {r05_parser_typ' : GPar → Int → Option (Int × GPar)} {r05_parser_base' : GPar → GNode → Int → Option (GPar × GNode)} {r05_parser_fields' : GPar → GNode → Int → Option (GPar × GNode)} (h_r05_parser_field : r05_parser_field_C r05_parser_field') (h_r05_parser_typ : r05_parser_typ_C r05_parser_typ') (h_r05_parser_base : r05_parser_base_C r05_parser_base') (h_r05_parser_fields : r05_parser_fields_C r05_parser_fields') : ∀ {a_x : GPar} {a_depth : Int} {b_a_x : Nat} {t_a_x1 : Tok} {t_a_x2 : Tok} {v_a_x3 : Vt} {r : Int × GPar}, r05_parser_typ_F r05_parser_field' r05_parser_typ' r05_parser_base' r05_parser_fields' a_x a_depth = some r → Ctr Tryz.prog 33 [ptrv b_a_x (Fld.id ((List GTok) × Int × (Str × Int × (TList Str) × (TList Int) × Vh) × Int × Int)), isv (a_depth)] [boxE b_a_x ((a_x.l, a_x.at_, (a_x.m.name, a_x.m.tagging, (TList.mk t_a_x1 a_x.m.names), (TList.mk t_a_x2 a_x.m.types), (Vh.mk v_a_x3 a_x.m.nodes.length)), a_x.e, a_x.p) : ((List GTok) × Int × (Str × Int × (TList Str) × (TList Int) × Vh) × Int × Int)), tokE t_a_x1, tokE t_a_x2, vecE v_a_x3 (a_x.m.nodes : List GNode)] (fun R H => ∃ u1 : Tok, ∃ u2 : Tok, ∃ u3 : Vt, R = oneOf [isv (r.1)] ∧ H = [boxE b_a_x ((r.2.l, r.2.at_, (r.2.m.name, r.2.m.tagging, (TList.mk u1 r.2.m.names), (TList.mk u2 r.2.m.types), (Vh.mk u3 r.2.m.nodes.length)), r.2.e, r.2.p)), tokE u1, tokE u2, vecE u3 (r.2.m.nodes)]) := by
 intro a_x a_depth b_a_x t_a_x1 t_a_x2 v_a_x3 r h
 unfold r05_parser_typ_F at h
 refine spec_introD Tryz.func33 rfl fun w0 S0 hT => wsr (oA rfl (rnf (w_seq (wsr (oM rfl (oV (v_nilCheck rfl) (oV (v_fa rfl pt84_0_3 fd84_3) ?_)))))))
 refine oT (t_loadC (R := isv (a_x.e)) ty27 rfl .here hI (oV (v_neq rfl rfl) (rnf (w_condM h rfl (fun _ h => ?_) (fun _ h => ?_)))))
 ·refine wsr (oA rfl (rnf (w_ret (ret_nxt (ret_post (.tmp rfl .nil) k4 ?_)))))
  cases h
  exact ⟨t_a_x1, t_a_x2, v_a_x3, rfl, rfl⟩
 refine wkf (w_seq (wsr (oM rfl (cal_inv h fun y4 hy4 h => oT (t_call (r05_parser_now_w hy4) hT (s1 rfl) k4 (fun R H' hR => ?_))))))
 obtain ⟨t5, t6, rfl, rfl⟩ := hR
 refine cal_inv h fun y7 hy7 h => oT (t_callE (r05_begins_w hy7) hT (s1 rfl) .nil (oV (v_not rfl) (rnf (w_condM h rfl (fun _ h => ?_) (fun _ h => ?_)))))
 ·refine wsr (oM rfl (oM rfl (cal_inv h fun y8 hy8 h => oT (t_call (r05_parser_now_w hy8) hT (s1 rfl) k4 (fun R H' hR => ?_)))))
  obtain ⟨t9, t10, rfl, rfl⟩ := hR
  refine cal_inv h fun y11 hy11 h => oT (t_call (r05_parser_fail_w hy11) hT (s3 rfl rfl rfl) k4 (fun R H' hR => ?_))
  obtain ⟨t12, t13, rfl, rfl⟩ := hR
  refine rnf (wsr (oA rfl (rnf (w_ret (ret_nxt (ret_post (.tmp rfl .nil) k4 ?_))))))
  cases h
  exact ⟨t12, t13, v_a_x3, rfl, rfl⟩
 refine wkf (w_seq (wsr (oM rfl (oV (v_gtr rfl rfl) (oM rfl (rl_j (jb 32) je .nil h 8 rfl (fun q14 g14 h => ?_) (fun J15 h hJ15 => ?_)))))))
 ·refine rnf (w_condM h rfl (fun _ h => ?_) (fun _ h => ?_))
  ·refine wsr (oM rfl (oM rfl (cal_inv h fun y17 hy17 h => oT (t_call (r05_parser_now_w hy17) hT (s1 rfl) k4 (fun R H' hR => ?_)))))
   obtain ⟨t18, t19, rfl, rfl⟩ := hR
   refine cal_inv h fun y20 hy20 h => oT (t_call (r05_parser_fail_w hy20) hT (s3 rfl rfl rfl) k4 (fun R H' hR => ?_))
   obtain ⟨t21, t22, rfl, rfl⟩ := hR
   refine rnf (wsr (oA rfl (rnf (w_ret (ret_nxt (ret_post (.tmp rfl .nil) k4 ?_))))))
   cases h
   exact ⟨t21, t22, v_a_x3, rfl, rfl⟩
  refine wkf (wsr (oM rfl (oV (v_nilCheck rfl) (oV (v_fa rfl pt84_0_2 fd84_2) (oV (v_fa rfl pt26_0_4 fd26_4) (oT (t_loadC (R := vecv v_a_x3 (y4.2.m.nodes.length)) ty24 rfl .here isvV1 (oV (v_vlen sl24 rfl) (oA rfl ?_)))))))))
  refine rnf (wsr (oM rfl (oM rfl (oV (v_nilCheck rfl) (oV (v_fa rfl pt84_0_2 fd84_2) (oV (v_fa rfl pt26_0_4 fd26_4) (oT (t_loadC (R := vecv v_a_x3 (y4.2.m.nodes.length)) ty24 rfl .here isvV1 (oV (v_build (z := (GNode.mk (0 : Int) (Str.mk []) (GMark.mk false (0 : Int) (0 : Int)) (GCon.mk false false false false (0 : Int) (0 : Int)) ([] : (List GItem)) ([] : (List GFld)) (0 : Int) false (0 : Int))) rfl bu120 ze120 .nil) ?_)))))))))
  refine oT (t_buildSlice (l := ([(GNode.mk (0 : Int) (Str.mk []) (GMark.mk false (0 : Int) (0 : Int)) (GCon.mk false false false false (0 : Int) (0 : Int)) ([] : (List GItem)) ([] : (List GFld)) (0 : Int) false (0 : Int))] : (List GNode))) el24 (.cons rfl hI .nil) rfl rfl (asr_inv h fun q25 h => oT (t_vappF (m := ([(GNode.mk (0 : Int) (Str.mk []) (GMark.mk false (0 : Int) (0 : Int)) (GCon.mk false false false false (0 : Int) (0 : Int)) ([] : (List GItem)) ([] : (List GFld)) (0 : Int) false (0 : Int))] : (List GNode))) ap24_24 rfl rfl appv_isv (.there tI) (by first | rfl | simp) q25 fun v24 => ?_)))
  refine oV (v_nilCheck rfl) (oV (v_fa rfl pt84_0_2 fd84_2) (oV (v_fa rfl pt26_0_4 fd26_4) (oT (t_storeC (y' := ((y4.2.l, y4.2.at_, (y4.2.m.name, y4.2.m.tagging, (TList.mk t5 y4.2.m.names), (TList.mk t6 y4.2.m.types), (Vh.mk v24 (y4.2.m.nodes ++ ([(GNode.mk (0 : Int) (Str.mk []) (GMark.mk false (0 : Int) (0 : Int)) (GCon.mk false false false false (0 : Int) (0 : Int)) ([] : (List GItem)) ([] : (List GFld)) (0 : Int) false (0 : Int))] : (List GNode))).length)), y4.2.e, y4.2.p) : ((List GTok) × Int × (Str × Int × (TList Str) × (TList Int) × Vh) × Int × Int))) ty24 rfl rfl isvV2 tH rfl (rnf (wsr (oV (v_build (z := (((0 : Int), (Str.mk []), (GMark.mk false (0 : Int) (0 : Int)), (GCon.mk false false false false (0 : Int) (0 : Int)), (TList.mk none ([] : (List GItem))), (TList.mk none ([] : (List GFld))), (0 : Int), false, (0 : Int)) : (Int × Str × GMark × GCon × (TList GItem) × (TList GFld) × Int × Bool × Int))) rfl bu120 zt120_1 .nil) (oT (t_alloc _ zt120_1 fun b26 => rl_upd (upd_tok) ?_)))))))))
  refine rl_upd (upd_tok) (rl_upd (upd_tok) (rl_upd (upd_tok) (oT (t_storeC (y' := (((0 : Int), (Str.mk []), (GMark.mk false (0 : Int) (0 : Int)), (GCon.mk false false false false (0 : Int) (0 : Int)), (TList.mk none ([] : (List GItem))), (TList.mk none ([] : (List GFld))), (0 : Int), false, (0 : Int)) : (Int × Str × GMark × GCon × (TList GItem) × (TList GFld) × Int × Bool × Int))) ty120 rfl rfl hI (.there (.there tI)) rfl (rnf (w_seq (wsr (oM rfl (cal_inv h fun y31 hy31 h => ?_)))))))))
  refine oT (t_call (r05_parser_is_w hy31) hT (s2 rfl rfl) (.cons (.there (.there (.there tI))) (.cons (.there (.there (.there (.there tI)))) (.cons (.there (.there (.there (.there tI)))) (.cons (.there (.there (.there tI))) .nil)))) (fun R H' hR => ?_))
  obtain ⟨t32, t33, rfl, rfl⟩ := hR
  refine rnf (w_J (ι := GPar × GNode) (γ := Tok × Tok × Tok × Tok) (fun q34 g34 => []) (fun q34 g34 => [boxE b_a_x ((q34.1.l, q34.1.at_, (q34.1.m.name, q34.1.m.tagging, (TList.mk g34.1 q34.1.m.names), (TList.mk g34.2.1 q34.1.m.types), (Vh.mk v24 q34.1.m.nodes.length)), q34.1.e, q34.1.p) : ((List GTok) × Int × (Str × Int × (TList Str) × (TList Int) × Vh) × Int × Int)), tokE g34.1, tokE g34.2.1, vecE v24 (q34.1.m.nodes : List GNode), boxE b26 ((q34.2.kind, q34.2.name, q34.2.mark, q34.2.con, (TList.mk g34.2.2.1 q34.2.items), (TList.mk g34.2.2.2 q34.2.fields), q34.2.root, q34.2.more, q34.2.of) : (Int × Str × GMark × GCon × (TList GItem) × (TList GFld) × Int × Bool × Int)), tokE g34.2.2.1, tokE g34.2.2.2]) (.cons .here (.cons (.there tI) (.cons .here k4))) h (fun q34 g34 h => ?_) (fun J35 h hJ35 => ?_))
  ·refine wsr (oM rfl (oM rfl (cal_inv h fun y63 hy63 h => oT (t_call (h_r05_parser_base hy63) hT (s3 rfl rfl rfl) (.cons .here (.cons .here (.cons .here k4))) (fun R H' hR => ?_)))))
   obtain ⟨t64, t65, v66, t67, t68, rfl, rfl⟩ := hR
   refine rnf (w_seq (wsr (oM rfl (oV (v_nilCheck rfl) (oV (v_fa rfl pt84_0_3 fd84_3) (oT (t_loadC (R := isv (y63.1.e)) ty27 rfl .here hI (oV (v_neq rfl rfl) (rnf ?_)))))))))
   refine w_condM h rfl (fun _ h => ?_) (fun _ h => ?_)
   ·refine wsr (oA rfl (rnf (w_ret (ret_nxt (ret_post (.tmp rfl .nil) k4 ?_)))))
    cases h
    exact ⟨t64, t65, v66, rfl, rfl⟩
   refine wkf (w_seq (w_pinN 6 (.there (.there tI)) rfl (fun o69 hn70 => w_pinN 0 .here rfl (fun o71 hn72 => w_regionD (.v 0 (.v 1 (.v 2 (.v 3 (.v 4 (.v 5 (.v 6 (.v 7 (.t 8 .nil))))))))) moOrd (by kernel_rfl) ?_))))
   refine rvm rfl rfl (rd_v rfl (v_nilCheckP rfl) (rd_v rfl (v_fp rfl pt84_0_2 fd84_2) (rd_v rfl (v_fp rfl pt26_0_4 fd26_4) (rd_v rfl (v_lpC (R := vecv v66 (y63.1.m.nodes.length)) ty24 rfl (List.Mem.head _) isvV1) (rvm rfl rfl (rd_v rfl (v_lpC (R := isv (((y63.2.kind, y63.2.name, y63.2.mark, y63.2.con, (TList.mk t67 y63.2.items), (TList.mk t68 y63.2.fields), y63.2.root, y63.2.more, y63.2.of)) : ((Int × Str × GMark × GCon × (TList GItem) × (TList GFld) × Int × Bool × Int)))) ty120 rfl (List.Mem.tail _ (List.Mem.head _)) hI) (rd_upd (upd_slot (R' := isv (y63.2)) 105 rfl (Cv.isv rfl fun S => (fun cs h => GNode.cv (x := y63.2) cs (((Cv.pair Cv.id (Cv.pair Cv.id (Cv.pair Cv.id (Cv.pair Cv.id (Cv.pair Cv.tl (Cv.pair Cv.tl (Cv.pair Cv.id (Cv.pair Cv.id Cv.id)))))))) : Cv S ((y63.2.kind, y63.2.name, y63.2.mark, y63.2.con, (TList.mk t67 y63.2.items), (TList.mk t68 y63.2.fields), y63.2.root, y63.2.more, y63.2.of) : (Int × Str × GMark × GCon × (TList GItem) × (TList GFld) × Int × Bool × Int)) (GNode.to y63.2)) cs h)))) (asd_inv h fun q73 h => ?_))))))))
   refine rd_v rfl (v_vidx (α := GNode) sl24 rfl rfl q73.1 q73.2) (cal_inv h fun y74 hy74 h => rd_t rfl rfl (t_vstore ty120 rfl rfl tI hy74 (rd_nil (fin_unpinN 0 hn72 rfl (fin_upd (upd_box (y := ((y63.1.l, y63.1.at_, (y63.1.m.name, y63.1.m.tagging, (TList.mk t64 y63.1.m.names), (TList.mk t65 y63.1.m.types), (Vh.mk v66 (y63.1.m.nodes.set (((y4.2.m.nodes.length : Nat) : Int).toNat) y63.2).length)), y63.1.e, y63.1.p) : ((List GTok) × Int × (Str × Int × (TList Str) × (TList Int) × Vh) × Int × Int))) .here (fun S => (Cv.pair Cv.id (Cv.pair Cv.id (Cv.pair (Cv.pair Cv.id (Cv.pair Cv.id (Cv.pair Cv.id (Cv.pair Cv.id (Cv.vhe (by first | rfl | simp)))))) (Cv.pair Cv.id Cv.id)))))) ?_)))))
   refine fin_unpinN 6 hn70 rfl (fin_nxt (wsr (oM rfl (oA rfl (rnf (w_ret (ret_post (.tmp rfl .nil) (.cons tH (.cons tI (.cons tI (.cons tH .nil)))) ?_)))))))
   cases h
   exact ⟨t64, t65, v66, rfl, rfl⟩
  refine w_condM h rfl (fun _ h => ?_) (fun _ h => ?_)
  ·refine wsr (oM rfl (cal_inv h fun y36 hy36 h => oT (t_call (r05_parser_now_w hy36) hT (s1 rfl) k4 (fun R H' hR => ?_))))
   obtain ⟨t37, t38, rfl, rfl⟩ := hR
   refine oT (t_alloc _ ze88 fun b39 => oT (t_storeC (y' := (y36.1 : GTok)) ty88 rfl rfl hI .here rfl (rl_upd (upd_imm 7 .here rfl) (rnf (wsr (oM rfl (cal_inv h fun y40 hy40 h => oT (t_call (r05_parser_number_w hy40) hT (s1 rfl) k4 (fun R H' hR => ?_)))))))))
   obtain ⟨t41, t42, rfl, rfl⟩ := hR
   refine oA rfl (rnf (w_seq (wsr (oM rfl (oV (v_nilCheck rfl) (oV (v_fa rfl pt84_0_3 fd84_3) (oT (t_loadC (R := isv (y40.2.e)) ty27 rfl .here hI (oV (v_eql rfl rfl) ?_)))))))))
   refine oM rfl (rl_j (jb 74) je .nil h 7 rfl (fun q43 g43 h => ?_) (fun J44 h hJ44 => ?_))
   ·refine rnf (w_J (ι := GPar) (γ := Tok × Tok) (fun q49 g49 => []) (fun q49 g49 => [boxE b_a_x ((q49.l, q49.at_, (q49.m.name, q49.m.tagging, (TList.mk g49.1 q49.m.names), (TList.mk g49.2 q49.m.types), (Vh.mk v24 q49.m.nodes.length)), q49.e, q49.p) : ((List GTok) × Int × (Str × Int × (TList Str) × (TList Int) × Vh) × Int × Int)), tokE g49.1, tokE g49.2, vecE v24 (q49.m.nodes : List GNode)]) k4 h (fun q49 g49 h => ?_) (fun J50 h hJ50 => ?_))
    ·refine wsr (oM rfl (cal_inv h fun y54 hy54 h => oT (t_call (r05_parser_must_w hy54) hT (s2 rfl rfl) k4 (fun R H' hR => ?_))))
     obtain ⟨t55, t56, rfl, rfl⟩ := hR
     refine rnf (wsr (oM rfl (oV (v_build (z := (GMark.mk true y40.1 (0 : Int))) rfl bu118 ze118 (.cons GMark.f0 fd118_0 rfl hI (.cons GMark.f1 fd118_1 rfl hI .nil))) (oV (v_fa rfl pt120_0_2 fd120_2) (oT (t_storeC (y' := (((0 : Int), (Str.mk []), (GMark.mk true y40.1 (0 : Int)), (GCon.mk false false false false (0 : Int) (0 : Int)), (TList.mk none ([] : (List GItem))), (TList.mk none ([] : (List GFld))), (0 : Int), false, (0 : Int)) : (Int × Str × GMark × GCon × (TList GItem) × (TList GFld) × Int × Bool × Int))) ty118 rfl rfl hI (.there (.there tI)) rfl (rnf (wsr (oM rfl ?_)))))))))
     refine cal_inv h fun y57 hy57 h => oT (t_call (r05_parser_is_w hy57) hT (s2 rfl rfl) (.cons tH (.cons tH (.cons tH (.cons tH .nil)))) (fun R H' hR => ?_))
     obtain ⟨t58, t59, rfl, rfl⟩ := hR
     refine rnf (w_condM h rfl (fun _ h => ?_) (fun _ h => ?_))
     ·exact w_region (oV (v_fa rfl pt120_0_2 fd120_2) (oV (v_fa rfl GMark.f2 fd118_2) (oT (t_storeC (y' := (((0 : Int), (Str.mk []), (GMark.mk true y40.1 (1 : Int)), (GCon.mk false false false false (0 : Int) (0 : Int)), (TList.mk none ([] : (List GItem))), (TList.mk none ([] : (List GFld))), (0 : Int), false, (0 : Int)) : (Int × Str × GMark × GCon × (TList GItem) × (TList GFld) × Int × Bool × Int))) ty3 rfl rfl hI (.there (.there tI)) rfl (rl_nil (hJ35 _ (t58, t59, none, none) h _ (join_imp 23 rfl rfl mod_nil (.cons tH (.cons tH (.cons tH (.cons tH (.cons .here (.cons tH k3)))))))))))))
     refine wsr (oM rfl (cal_inv h fun y60 hy60 h => oT (t_call (r05_parser_is_w hy60) hT (s2 rfl rfl) k4 (fun R H' hR => ?_))))
     obtain ⟨t61, t62, rfl, rfl⟩ := hR
     refine rnf (w_condM h rfl (fun _ h => ?_) (fun _ h => ?_))
     ·exact w_region (oV (v_fa rfl pt120_0_2 fd120_2) (oV (v_fa rfl GMark.f2 fd118_2) (oT (t_storeC (y' := (((0 : Int), (Str.mk []), (GMark.mk true y40.1 (2 : Int)), (GCon.mk false false false false (0 : Int) (0 : Int)), (TList.mk none ([] : (List GItem))), (TList.mk none ([] : (List GFld))), (0 : Int), false, (0 : Int)) : (Int × Str × GMark × GCon × (TList GItem) × (TList GFld) × Int × Bool × Int))) ty3 rfl rfl hI (.there (.there tI)) rfl (rl_nil (hJ35 _ (t61, t62, none, none) h _ (join_imp 25 rfl rfl mod_nil (.cons tH (.cons tH (.cons tH (.cons tH (.cons .here (.cons tH k3)))))))))))))
     exact w_skip (hJ35 _ (t61, t62, none, none) h _ (join_imp 23 rfl rfl mod_nil (.cons .here (.cons .here (.cons .here (.cons .here (.cons .here (.cons tH k3))))))))
    refine w_condM h rfl (fun _ h => ?_) (fun _ h => ?_)
    ·refine w_region (oM rfl (oV (v_loadI ty88 rfl) (cal_inv h fun y51 hy51 h => oT (t_call (r05_parser_fail_w hy51) hT (s3 rfl rfl rfl) k4 (fun R H' hR => ?_)))))
     obtain ⟨t52, t53, rfl, rfl⟩ := hR
     exact rl_nil (hJ50 _ (t52, t53) h _ (join_imp 3 rfl rfl mod_nil (.cons .here (.cons .here (.cons .here (.cons .here (.cons .here k4)))))))
    exact w_skip (hJ50 _ (t41, t42) h _ (join_imp 0 rfl rfl mod_nil (.cons .here (.cons .here (.cons .here (.cons .here (.cons .here k4)))))))
   refine rl_condM (j := 67) h rfl (fun g45 h => ?_) (fun g45 h => ?_)
   ·refine oK 67 rfl rfl rfl g45 (v_move rfl) (oK 67 rfl rfl rfl g45 (v_lss rfl rfl) (oK 67 rfl rfl rfl g45 (v_move rfl) (rl_j (jb 73) je .nil h 3 rfl (fun q46 g46 h => ?_) (fun J47 h hJ47 => ?_))))
    ·exact oV (v_pick_t rfl g45 rfl) (hJ44 _ () h _ (join_imp 5 rfl rfl (mod_cons (j := 74) rfl hI mod_nil) (.cons .here (.cons .here (.cons .here (.cons .here (.cons .here k4)))))))
    refine rl_condM (j := 70) h rfl (fun g48 h => ?_) (fun g48 h => ?_)
    ·exact oP 70 rfl rfl g48 (oP 70 rfl rfl g48 (oK 67 rfl rfl rfl g45 (v_pick_t rfl g48 rfl) (hJ47 _ () h _ (join_imp 3 rfl rfl (mod_cons (j := 73) rfl hI mod_nil) (.cons .here (.cons .here (.cons .here (.cons .here (.cons .here k4)))))))))
    exact oK 70 rfl rfl rfl g48 (v_move rfl) (oK 70 rfl rfl rfl g48 (v_gtr rfl rfl) (oK 67 rfl rfl rfl g45 (v_pick_f rfl g48 rfl) (hJ47 _ () h _ (join_imp 3 rfl rfl (mod_cons (j := 73) rfl hI mod_nil) (.cons .here (.cons .here (.cons .here (.cons .here (.cons .here k4)))))))))
   exact oP 67 rfl rfl g45 (oP 67 rfl rfl g45 (oP 67 rfl rfl g45 (op_passU rfl (dj := 70) rfl (op_passU rfl (dj := 70) rfl (oP 67 rfl rfl g45 (oV (v_pick_f rfl g45 rfl) (hJ44 _ () h _ (join_imp 7 rfl rfl (mod_cons (j := 74) rfl hI mod_nil) (.cons .here (.cons .here (.cons .here (.cons .here (.cons .here k4)))))))))))))
  exact w_skip (hJ35 _ (t32, t33, none, none) h _ (join_imp 0 rfl rfl mod_nil (.cons .here (.cons .here (.cons .here (.cons .here (.cons .here (.cons tH k3))))))))
 refine rl_condM (j := 24) h rfl (fun g16 h => ?_) (fun g16 h => ?_)
 ·exact oP 24 rfl rfl g16 (oP 24 rfl rfl g16 (oP 24 rfl rfl g16 (oP 24 rfl rfl g16 (oP 24 rfl rfl g16 (oP 24 rfl rfl g16 (oP 24 rfl rfl g16 (oV (v_pick_t rfl g16 rfl) (hJ15 _ () h _ (join_imp 8 rfl rfl (mod_cons (j := 32) rfl hI mod_nil) k4)))))))))
 exact oK 24 rfl rfl rfl g16 (v_move rfl) (oK 24 rfl rfl rfl g16 (v_nilCheck rfl) (oK 24 rfl rfl rfl g16 (v_fa rfl pt84_0_2 fd84_2) (oK 24 rfl rfl rfl g16 (v_fa rfl pt26_0_4 fd26_4) (op_take rfl rfl (dj := 24) rfl g16 (t_loadC (R := vecv v_a_x3 (y4.2.m.nodes.length)) ty24 rfl .here isvV1 (oK 24 rfl rfl rfl g16 (v_vlen sl24 rfl) (oK 24 rfl rfl rfl g16 (v_geq rfl rfl) (oV (v_pick_f rfl g16 rfl) (hJ15 _ () h _ (join_imp 8 rfl rfl (mod_cons (j := 32) rfl hI mod_nil) k4))))))))))

theorem r05_parser_base_w0 {r05_parser_field' : GPar → GNode → Int → Int → Option (GPar × GNode)} {r05_parser_typ' : GPar → Int → Option (Int × GPar)} {r05_parser_base' : GPar → GNode → Int → Option (GPar × GNode)} {r05_parser_fields' : GPar → GNode → Int → Option (GPar × GNode)} (h_r05_parser_field : r05_parser_field_C r05_parser_field') (h_r05_parser_typ : r05_parser_typ_C r05_parser_typ') (h_r05_parser_base : r05_parser_base_C r05_parser_base') (h_r05_parser_fields : r05_parser_fields_C r05_parser_fields') : ∀ {a_x : GPar} {a_n_ : GNode} {a_depth : Int} {b_a_x : Nat} {t_a_x1 : Tok} {t_a_x2 : Tok} {v_a_x3 : Vt} {b_a_n_ : Nat} {t_a_n_4 : Tok} {t_a_n_5 : Tok} {r : GPar × GNode}, r05_parser_base_F r05_parser_field' r05_parser_typ' r05_parser_base' r05_parser_fields' a_x a_n_ a_depth = some r → Ctr Tryz.prog 53 [ptrv b_a_x (Fld.id ((List GTok) × Int × (Str × Int × (TList Str) × (TList Int) × Vh) × Int × Int)), ptrv b_a_n_ (Fld.id (Int × Str × GMark × GCon × (TList GItem) × (TList GFld) × Int × Bool × Int)), isv (a_depth)] [boxE b_a_x ((a_x.l, a_x.at_, (a_x.m.name, a_x.m.tagging, (TList.mk t_a_x1 a_x.m.names), (TList.mk t_a_x2 a_x.m.types), (Vh.mk v_a_x3 a_x.m.nodes.length)), a_x.e, a_x.p) : ((List GTok) × Int × (Str × Int × (TList Str) × (TList Int) × Vh) × Int × Int)), tokE t_a_x1, tokE t_a_x2, vecE v_a_x3 (a_x.m.nodes : List GNode), boxE b_a_n_ ((a_n_.kind, a_n_.name, a_n_.mark, a_n_.con, (TList.mk t_a_n_4 a_n_.items), (TList.mk t_a_n_5 a_n_.fields), a_n_.root, a_n_.more, a_n_.of) : (Int × Str × GMark × GCon × (TList GItem) × (TList GFld) × Int × Bool × Int)), tokE t_a_n_4, tokE t_a_n_5] (fun R H => ∃ u1 : Tok, ∃ u2 : Tok, ∃ u3 : Vt, ∃ u4 : Tok, ∃ u5 : Tok, R = oneOf [] ∧ H = [boxE b_a_x ((r.1.l, r.1.at_, (r.1.m.name, r.1.m.tagging, (TList.mk u1 r.1.m.names), (TList.mk u2 r.1.m.types), (Vh.mk u3 r.1.m.nodes.length)), r.1.e, r.1.p)), tokE u1, tokE u2, vecE u3 (r.1.m.nodes), boxE b_a_n_ ((r.2.kind, r.2.name, r.2.mark, r.2.con, (TList.mk u4 r.2.items), (TList.mk u5 r.2.fields), r.2.root, r.2.more, r.2.of)), tokE u4, tokE u5]) := by
 intro a_x a_n_ a_depth b_a_x t_a_x1 t_a_x2 v_a_x3 b_a_n_ t_a_n_4 t_a_n_5 r h
 unfold r05_parser_base_F at h
 refine spec_introD Tryz.func53 rfl fun w0 S0 hT => wsr (oM rfl (cal_inv h fun y6 hy6 h => oT (t_call (r05_parser_now_w hy6) hT (s1 rfl) k4 (fun R H' hR => ?_))))
 obtain ⟨t7, t8, rfl, rfl⟩ := hR
 refine oT (t_alloc _ ze88 fun b9 => oT (t_storeC (y' := (y6.1 : GTok)) ty88 rfl rfl hI .here rfl (rl_upd (upd_imm 6 .here rfl) (rnf (w_block (wsr (oM rfl (oV (v_nilCheck rfl) (oV (v_fa rfl pt84_0_3 fd84_3) ?_)))))))))
 refine oT (t_loadC (R := isv (y6.2.e)) ty27 rfl .here hI (oV (v_neq rfl rfl) (oA rfl (rnf (w_condM h rfl (fun _ h => ?_) (fun _ h => ?_))))))
 ·refine w_skip (fin_block (fin_post .nil (.cons .here (.cons .here (.cons .here k4))) ?_))
  cases h
  exact ⟨t7, t8, v_a_x3, t_a_n_4, t_a_n_5, rfl, rfl⟩
 refine wsr (oM rfl (cal_inv h fun y10 hy10 h => oT (t_call (r05_parser_is_w hy10) hT (s2 rfl rfl) k4 (fun R H' hR => ?_))))
 obtain ⟨t11, t12, rfl, rfl⟩ := hR
 refine oA rfl (rnf (w_condM h rfl (fun _ h => ?_) (fun _ h => ?_)))
 ·refine w_region (oM rfl (oV (v_nilCheck rfl) (oV (v_fa rfl pt120_0_0 fd120_0) (oT (t_storeC (y' := (((1 : Int), a_n_.name, a_n_.mark, a_n_.con, (TList.mk t_a_n_4 a_n_.items), (TList.mk t_a_n_5 a_n_.fields), a_n_.root, a_n_.more, a_n_.of) : (Int × Str × GMark × GCon × (TList GItem) × (TList GFld) × Int × Bool × Int))) ty3 rfl rfl hI (.there (.there tI)) rfl (rl_nil (fin_block (fin_post .nil (.cons tH (.cons tH (.cons tH (.cons tH k3)))) ?_))))))))
  cases h
  exact ⟨t11, t12, v_a_x3, t_a_n_4, t_a_n_5, rfl, rfl⟩
 refine wsr (oM rfl (cal_inv h fun y13 hy13 h => oT (t_call (r05_parser_is_w hy13) hT (s2 rfl rfl) k4 (fun R H' hR => ?_))))
 obtain ⟨t14, t15, rfl, rfl⟩ := hR
 refine oA rfl (rnf (w_condM h rfl (fun _ h => ?_) (fun _ h => ?_)))
 ·refine w_region (oM rfl (oV (v_nilCheck rfl) (oV (v_fa rfl pt120_0_0 fd120_0) (oT (t_storeC (y' := (((4 : Int), a_n_.name, a_n_.mark, a_n_.con, (TList.mk t_a_n_4 a_n_.items), (TList.mk t_a_n_5 a_n_.fields), a_n_.root, a_n_.more, a_n_.of) : (Int × Str × GMark × GCon × (TList GItem) × (TList GFld) × Int × Bool × Int))) ty3 rfl rfl hI (.there (.there tI)) rfl (rl_nil (fin_block (fin_post .nil (.cons tH (.cons tH (.cons tH (.cons tH k3)))) ?_))))))))
  cases h
  exact ⟨t14, t15, v_a_x3, t_a_n_4, t_a_n_5, rfl, rfl⟩
 refine wsr (oM rfl (cal_inv h fun y16 hy16 h => oT (t_call (r05_parser_is_w hy16) hT (s2 rfl rfl) k4 (fun R H' hR => ?_))))
 obtain ⟨t17, t18, rfl, rfl⟩ := hR
 refine oA rfl (rnf (w_condM h rfl (fun _ h => ?_) (fun _ h => ?_)))
 ·refine wsr (oM rfl (oV (v_nilCheck rfl) (oV (v_fa rfl pt120_0_0 fd120_0) (oT (t_storeC (y' := (((6 : Int), a_n_.name, a_n_.mark, a_n_.con, (TList.mk t_a_n_4 a_n_.items), (TList.mk t_a_n_5 a_n_.fields), a_n_.root, a_n_.more, a_n_.of) : (Int × Str × GMark × GCon × (TList GItem) × (TList GFld) × Int × Bool × Int))) ty3 rfl rfl hI (.there (.there tI)) rfl (rnf (w_region (oM rfl (oM rfl ?_)))))))))
  refine cal_inv h fun y19 hy19 h => oT (t_call (r05_parser_size_w hy19) hT (s1 rfl) (.cons tH (.cons tH (.cons tH (.cons tH .nil)))) (fun R H' hR => ?_))
  obtain ⟨t20, t21, rfl, rfl⟩ := hR
  refine oV (v_nilCheck rfl) (oV (v_fa rfl pt120_0_3 fd120_3) (oT (t_storeC (y' := (((6 : Int), a_n_.name, a_n_.mark, y19.1, (TList.mk t_a_n_4 a_n_.items), (TList.mk t_a_n_5 a_n_.fields), a_n_.root, a_n_.more, a_n_.of) : (Int × Str × GMark × GCon × (TList GItem) × (TList GFld) × Int × Bool × Int))) ty39 rfl rfl hI (.there (.there tI)) rfl (rl_nil (fin_block (fin_post .nil (.cons tH (.cons tH (.cons tH (.cons tH k3)))) ?_))))))
  cases h
  exact ⟨t20, t21, v_a_x3, t_a_n_4, t_a_n_5, rfl, rfl⟩
 refine wsr (oM rfl (cal_inv h fun y22 hy22 h => oT (t_call (r05_parser_is_w hy22) hT (s2 rfl rfl) k4 (fun R H' hR => ?_))))
 obtain ⟨t23, t24, rfl, rfl⟩ := hR
 refine oA rfl (rnf (w_condM h rfl (fun _ h => ?_) (fun _ h => ?_)))
 ·refine wsr (oM rfl (oV (v_nilCheck rfl) (oV (v_fa rfl pt120_0_0 fd120_0) (oT (t_storeC (y' := (((2 : Int), a_n_.name, a_n_.mark, a_n_.con, (TList.mk t_a_n_4 a_n_.items), (TList.mk t_a_n_5 a_n_.fields), a_n_.root, a_n_.more, a_n_.of) : (Int × Str × GMark × GCon × (TList GItem) × (TList GFld) × Int × Bool × Int))) ty3 rfl rfl hI (.there (.there tI)) rfl (rnf (wsr (oM rfl (cal_inv h fun y25 hy25 h => ?_)))))))))
  refine oT (t_call (r05_parser_is_w hy25) hT (s2 rfl rfl) (.cons tH (.cons tH (.cons tH (.cons tH .nil)))) (fun R H' hR => ?_))
  obtain ⟨t26, t27, rfl, rfl⟩ := hR
  refine rnf (w_condM h rfl (fun _ h => ?_) (fun _ h => ?_))
  ·refine wsr (oM rfl (oM rfl (cal_inv h fun y28 hy28 h => oT (t_call (r05_parser_bounds_w hy28) hT (s1 rfl) k4 (fun R H' hR => ?_)))))
   obtain ⟨t29, t30, rfl, rfl⟩ := hR
   refine oV (v_nilCheck rfl) (oV (v_fa rfl pt120_0_3 fd120_3) (oT (t_storeC (y' := (((2 : Int), a_n_.name, a_n_.mark, y28.1, (TList.mk t_a_n_4 a_n_.items), (TList.mk t_a_n_5 a_n_.fields), a_n_.root, a_n_.more, a_n_.of) : (Int × Str × GMark × GCon × (TList GItem) × (TList GFld) × Int × Bool × Int))) ty39 rfl rfl hI (.there (.there tI)) rfl (rnf (w_region (oM rfl (cal_inv h fun y31 hy31 h => oT (t_call (r05_parser_must_w hy31) hT (s2 rfl rfl) (.cons tH (.cons tH (.cons tH (.cons tH .nil)))) (fun R H' hR => ?_)))))))))
   obtain ⟨t32, t33, rfl, rfl⟩ := hR
   refine rl_nil (fin_block (fin_post .nil (.cons .here (.cons .here (.cons .here k4))) ?_))
   cases h
   exact ⟨t32, t33, v_a_x3, t_a_n_4, t_a_n_5, rfl, rfl⟩
  refine w_skip (fin_block (fin_post .nil (.cons .here (.cons .here (.cons .here k4))) ?_))
  cases h
  exact ⟨t26, t27, v_a_x3, t_a_n_4, t_a_n_5, rfl, rfl⟩
 refine wsr (oM rfl (cal_inv h fun y34 hy34 h => oT (t_call (r05_parser_is_w hy34) hT (s2 rfl rfl) k4 (fun R H' hR => ?_))))
 obtain ⟨t35, t36, rfl, rfl⟩ := hR
 refine oA rfl (rnf (w_condM h rfl (fun _ h => ?_) (fun _ h => ?_)))
 ·refine wsr (oM rfl (cal_inv h fun y37 hy37 h => oT (t_call (r05_parser_must_w hy37) hT (s2 rfl rfl) k4 (fun R H' hR => ?_))))
  obtain ⟨t38, t39, rfl, rfl⟩ := hR
  refine rnf (wsr (oM rfl (oV (v_nilCheck rfl) (oV (v_fa rfl pt120_0_0 fd120_0) (oT (t_storeC (y' := (((5 : Int), a_n_.name, a_n_.mark, a_n_.con, (TList.mk t_a_n_4 a_n_.items), (TList.mk t_a_n_5 a_n_.fields), a_n_.root, a_n_.more, a_n_.of) : (Int × Str × GMark × GCon × (TList GItem) × (TList GFld) × Int × Bool × Int))) ty3 rfl rfl hI (.there (.there tI)) rfl (rnf (w_region (oM rfl ?_)))))))))
  refine oM rfl (cal_inv h fun y40 hy40 h => oT (t_call (r05_parser_size_w hy40) hT (s1 rfl) (.cons tH (.cons tH (.cons tH (.cons tH .nil)))) (fun R H' hR => ?_)))
  obtain ⟨t41, t42, rfl, rfl⟩ := hR
  refine oV (v_nilCheck rfl) (oV (v_fa rfl pt120_0_3 fd120_3) (oT (t_storeC (y' := (((5 : Int), a_n_.name, a_n_.mark, y40.1, (TList.mk t_a_n_4 a_n_.items), (TList.mk t_a_n_5 a_n_.fields), a_n_.root, a_n_.more, a_n_.of) : (Int × Str × GMark × GCon × (TList GItem) × (TList GFld) × Int × Bool × Int))) ty39 rfl rfl hI (.there (.there tI)) rfl (rl_nil (fin_block (fin_post .nil (.cons tH (.cons tH (.cons tH (.cons tH k3)))) ?_))))))
  cases h
  exact ⟨t41, t42, v_a_x3, t_a_n_4, t_a_n_5, rfl, rfl⟩
 refine wsr (oM rfl (cal_inv h fun y43 hy43 h => oT (t_call (r05_parser_is_w hy43) hT (s2 rfl rfl) k4 (fun R H' hR => ?_))))
 obtain ⟨t44, t45, rfl, rfl⟩ := hR
 refine oA rfl (rnf (w_condM h rfl (fun _ h => ?_) (fun _ h => ?_)))
 ·refine wsr (oM rfl (oV (v_nilCheck rfl) (oV (v_fa rfl pt120_0_0 fd120_0) (oT (t_storeC (y' := (((3 : Int), a_n_.name, a_n_.mark, a_n_.con, (TList.mk t_a_n_4 a_n_.items), (TList.mk t_a_n_5 a_n_.fields), a_n_.root, a_n_.more, a_n_.of) : (Int × Str × GMark × GCon × (TList GItem) × (TList GFld) × Int × Bool × Int))) ty3 rfl rfl hI (.there (.there tI)) rfl (rnf (wsr (oM rfl (cal_inv h fun y46 hy46 h => ?_)))))))))
  refine oT (t_call (r05_parser_must_w hy46) hT (s2 rfl rfl) (.cons tH (.cons tH (.cons tH (.cons tH .nil)))) (fun R H' hR => ?_))
  obtain ⟨t47, t48, rfl, rfl⟩ := hR
  refine rnf (wsr (oM rfl (oM rfl (cal_inv h fun y49 hy49 h => oT (t_call (r05_parser_items_w hy49) hT (s2 rfl rfl) (.cons .here (.cons .here (.cons .here k4))) (fun R H' hR => ?_))))))
  obtain ⟨t50, t51, t52, t53, rfl, rfl⟩ := hR
  refine rnf (w_region (oM rfl (cal_inv h fun y54 hy54 h => oT (t_call (r05_parser_must_w hy54) hT (s2 rfl rfl) k4 (fun R H' hR => ?_)))))
  obtain ⟨t55, t56, rfl, rfl⟩ := hR
  refine rl_nil (fin_block (fin_post .nil (.cons .here (.cons .here (.cons .here k4))) ?_))
  cases h
  exact ⟨t55, t56, v_a_x3, t52, t53, rfl, rfl⟩
 refine wsr (oM rfl (cal_inv h fun y57 hy57 h => oT (t_call (r05_parser_is_w hy57) hT (s2 rfl rfl) k4 (fun R H' hR => ?_))))
 obtain ⟨t58, t59, rfl, rfl⟩ := hR
 refine oA rfl (rnf (w_condM h rfl (fun _ h => ?_) (fun _ h => ?_)))
 ·refine wsr (oM rfl (oV (v_nilCheck rfl) (oV (v_fa rfl pt120_0_0 fd120_0) (oT (t_storeC (y' := (((8 : Int), a_n_.name, a_n_.mark, a_n_.con, (TList.mk t_a_n_4 a_n_.items), (TList.mk t_a_n_5 a_n_.fields), a_n_.root, a_n_.more, a_n_.of) : (Int × Str × GMark × GCon × (TList GItem) × (TList GFld) × Int × Bool × Int))) ty3 rfl rfl hI (.there (.there tI)) rfl (rnf (wsr (oM rfl (cal_inv h fun y60 hy60 h => ?_)))))))))
  refine oT (t_call (r05_parser_must_w hy60) hT (s2 rfl rfl) (.cons tH (.cons tH (.cons tH (.cons tH .nil)))) (fun R H' hR => ?_))
  obtain ⟨t61, t62, rfl, rfl⟩ := hR
  refine rnf (w_region (oM rfl (oM rfl (oM rfl (cal_inv h fun y63 hy63 h => oT (t_call (h_r05_parser_fields hy63) hT (s3 rfl rfl rfl) (.cons .here (.cons .here (.cons .here k4))) (fun R H' hR => ?_)))))))
  obtain ⟨t64, t65, v66, t67, t68, rfl, rfl⟩ := hR
  refine rl_nil (fin_block (fin_post .nil (.cons .here (.cons .here (.cons .here k4))) ?_))
  cases h
  exact ⟨t64, t65, v66, t67, t68, rfl, rfl⟩
 refine wsr (oM rfl (cal_inv h fun y69 hy69 h => oT (t_call (r05_parser_is_w hy69) hT (s2 rfl rfl) k4 (fun R H' hR => ?_))))
 obtain ⟨t70, t71, rfl, rfl⟩ := hR
 refine oA rfl (rnf (w_condM h rfl (fun _ h => ?_) (fun _ h => ?_)))
 ·refine wsr (oM rfl (oV (v_nilCheck rfl) (oV (v_fa rfl pt120_0_0 fd120_0) (oT (t_storeC (y' := (((9 : Int), a_n_.name, a_n_.mark, a_n_.con, (TList.mk t_a_n_4 a_n_.items), (TList.mk t_a_n_5 a_n_.fields), a_n_.root, a_n_.more, a_n_.of) : (Int × Str × GMark × GCon × (TList GItem) × (TList GFld) × Int × Bool × Int))) ty3 rfl rfl hI (.there (.there tI)) rfl (rnf (wsr (oM rfl (cal_inv h fun y72 hy72 h => ?_)))))))))
  refine oT (t_call (r05_parser_must_w hy72) hT (s2 rfl rfl) (.cons tH (.cons tH (.cons tH (.cons tH .nil)))) (fun R H' hR => ?_))
  obtain ⟨t73, t74, rfl, rfl⟩ := hR
  refine rnf (w_region (oM rfl (oM rfl (oM rfl (cal_inv h fun y75 hy75 h => oT (t_call (h_r05_parser_fields hy75) hT (s3 rfl rfl rfl) (.cons .here (.cons .here (.cons .here k4))) (fun R H' hR => ?_)))))))
  obtain ⟨t76, t77, v78, t79, t80, rfl, rfl⟩ := hR
  refine rl_nil (fin_block (fin_post .nil (.cons .here (.cons .here (.cons .here k4))) ?_))
  cases h
  exact ⟨t76, t77, v78, t79, t80, rfl, rfl⟩
 refine wsr (oM rfl (cal_inv h fun y81 hy81 h => oT (t_call (r05_parser_is_w hy81) hT (s2 rfl rfl) k4 (fun R H' hR => ?_))))
 obtain ⟨t82, t83, rfl, rfl⟩ := hR
 refine oA rfl (rnf (w_condM h rfl (fun _ h => ?_) (fun _ h => ?_)))
 ·refine w_seq (wsr (oM rfl (cal_inv h fun y84 hy84 h => oT (t_call (r05_parser_is_w hy84) hT (s2 rfl rfl) k4 (fun R H' hR => ?_)))))
  obtain ⟨t85, t86, rfl, rfl⟩ := hR
  refine rnf (w_condM h rfl (fun _ h => ?_) (fun _ h => ?_))
  ·refine wsr (oM rfl (oV (v_nilCheck rfl) (oV (v_fa rfl pt120_0_0 fd120_0) (oT (t_storeC (y' := (((7 : Int), a_n_.name, a_n_.mark, a_n_.con, (TList.mk t_a_n_4 a_n_.items), (TList.mk t_a_n_5 a_n_.fields), a_n_.root, a_n_.more, a_n_.of) : (Int × Str × GMark × GCon × (TList GItem) × (TList GFld) × Int × Bool × Int))) ty3 rfl rfl hI (.there (.there tI)) rfl (rnf (wsr (oM rfl (oM rfl ?_)))))))))
   refine oM rfl (cal_inv h fun y87 hy87 h => oT (t_call (h_r05_parser_fields hy87) hT (s3 rfl rfl rfl) (.cons tH (.cons tH (.cons tH (.cons tH k3)))) (fun R H' hR => ?_)))
   obtain ⟨t88, t89, v90, t91, t92, rfl, rfl⟩ := hR
   refine rnf (w_ret (ret_nxt (ret_block (ret_post .nil (.cons .here (.cons .here (.cons .here k4))) ?_))))
   cases h
   exact ⟨t88, t89, v90, t91, t92, rfl, rfl⟩
  refine wkf (wsr (oM rfl (oV (v_nilCheck rfl) (oV (v_fa rfl pt120_0_0 fd120_0) (oT (t_storeC (y' := (((10 : Int), a_n_.name, a_n_.mark, a_n_.con, (TList.mk t_a_n_4 a_n_.items), (TList.mk t_a_n_5 a_n_.fields), a_n_.root, a_n_.more, a_n_.of) : (Int × Str × GMark × GCon × (TList GItem) × (TList GFld) × Int × Bool × Int))) ty3 rfl rfl hI (.there (.there tI)) rfl (rnf (wsr (oM rfl ?_)))))))))
  refine oM rfl (cal_inv h fun y93 hy93 h => oT (t_call (r05_parser_size_w hy93) hT (s1 rfl) (.cons tH (.cons tH (.cons tH (.cons tH .nil)))) (fun R H' hR => ?_)))
  obtain ⟨t94, t95, rfl, rfl⟩ := hR
  refine oV (v_nilCheck rfl) (oV (v_fa rfl pt120_0_3 fd120_3) (oT (t_storeC (y' := (((10 : Int), a_n_.name, a_n_.mark, y93.1, (TList.mk t_a_n_4 a_n_.items), (TList.mk t_a_n_5 a_n_.fields), a_n_.root, a_n_.more, a_n_.of) : (Int × Str × GMark × GCon × (TList GItem) × (TList GFld) × Int × Bool × Int))) ty39 rfl rfl hI (.there (.there tI)) rfl (rnf (wsr (oM rfl (cal_inv h fun y96 hy96 h => oT (t_call (r05_parser_must_w hy96) hT (s2 rfl rfl) (.cons tH (.cons tH (.cons tH (.cons tH .nil)))) (fun R H' hR => ?_)))))))))
  obtain ⟨t97, t98, rfl, rfl⟩ := hR
  refine rnf (w_region (oM rfl (oM rfl (oM rfl (ck_inv h fun q99 h => oV (v_add rfl rfl q99) (cal_inv h fun y100 hy100 h => oT (t_call (h_r05_parser_typ hy100) hT (s2 rfl rfl) k4 (fun R H' hR => ?_))))))))
  obtain ⟨t101, t102, v103, rfl, rfl⟩ := hR
  refine oV (v_nilCheck rfl) (oV (v_fa rfl pt120_0_8 fd120_8) (oT (t_storeC (y' := (((10 : Int), a_n_.name, a_n_.mark, y93.1, (TList.mk t_a_n_4 a_n_.items), (TList.mk t_a_n_5 a_n_.fields), a_n_.root, a_n_.more, y100.1) : (Int × Str × GMark × GCon × (TList GItem) × (TList GFld) × Int × Bool × Int))) ty3 rfl rfl hI (.there (.there tI)) rfl (rl_nil (fin_block (fin_post .nil (.cons tH (.cons tH (.cons tH (.cons tH k3)))) ?_))))))
  cases h
  exact ⟨t101, t102, v103, t_a_n_4, t_a_n_5, rfl, rfl⟩
 refine wsr (oV (v_fi rfl GTok.f0 fd88_0 rfl (z := y6.1.kind)) (oV (v_loadI ty3 rfl) (oV (v_eql rfl rfl) (oA rfl (rnf (w_condM h rfl (fun _ h => ?_) (fun _ h => ?_)))))))
 ·refine w_seq (w_regionD (.v 0 (.v 1 (.v 2 (.v 3 (.v 4 (.v 5 (.t 6 (.v 7 (.v 8 (.t 9 .nil)))))))))) moOrd (by kernel_rfl) ?_)
  refine rvm rfl rfl (rvm rfl rfl (rd_v rfl (v_fi rfl GTok.f1 fd88_1 rfl (z := y6.1.text)) (rd_v rfl (v_loadI ty9 rfl) (rd_v rfl (v_nilCheck rfl) (rd_v rfl (v_fa rfl pt120_0_0 fd120_0) (rd_t rfl rfl (t_storeC (y' := (((11 : Int), a_n_.name, a_n_.mark, a_n_.con, (TList.mk t_a_n_4 a_n_.items), (TList.mk t_a_n_5 a_n_.fields), a_n_.root, a_n_.more, a_n_.of) : (Int × Str × GMark × GCon × (TList GItem) × (TList GFld) × Int × Bool × Int))) ty3 rfl rfl hI (.there (.there tI)) rfl (rd_v rfl (v_nilCheck rfl) (rd_v rfl (v_fa rfl pt120_0_1 fd120_1) ?_)))))))))
  refine rd_t rfl rfl (t_storeC (y' := (((11 : Int), y6.1.text, a_n_.mark, a_n_.con, (TList.mk t_a_n_4 a_n_.items), (TList.mk t_a_n_5 a_n_.fields), a_n_.root, a_n_.more, a_n_.of) : (Int × Str × GMark × GCon × (TList GItem) × (TList GFld) × Int × Bool × Int))) ty9 rfl rfl hI .here rfl (rd_nil (fin_nxt (w_region (oM rfl (cal_inv h fun y104 hy104 h => oT (t_call (r05_parser_next_w hy104) hT (s1 rfl) (.cons tH (.cons tH (.cons tH (.cons tH .nil)))) (fun R H' hR => ?_))))))))
  obtain ⟨t105, t106, rfl, rfl⟩ := hR
  refine rl_nil (fin_block (fin_post .nil (.cons .here (.cons .here (.cons .here k4))) ?_))
  cases h
  exact ⟨t105, t106, v_a_x3, t_a_n_4, t_a_n_5, rfl, rfl⟩
 refine w_region (oM rfl (oV (v_loadI ty88 rfl) (cal_inv h fun y107 hy107 h => oT (t_call (r05_parser_fail_w hy107) hT (s3 rfl rfl rfl) k4 (fun R H' hR => ?_)))))
 obtain ⟨t108, t109, rfl, rfl⟩ := hR
 refine rl_nil (fin_block (fin_post .nil (.cons .here (.cons .here (.cons .here k4))) ?_))
 cases h
 exact ⟨t108, t109, v_a_x3, t_a_n_4, t_a_n_5, rfl, rfl⟩

theorem r05_parser_fields_w0 {r05_parser_field' : GPar → GNode → Int → Int → Option (GPar × GNode)} {r05_parser_typ' : GPar → Int → Option (Int × GPar)} {r05_parser_base' : GPar → GNode → Int → Option (GPar × GNode)} {r05_parser_fields' : GPar → GNode → Int → Option (GPar × GNode)} (h_r05_parser_field : r05_parser_field_C r05_parser_field') (h_r05_parser_typ : r05_parser_typ_C r05_parser_typ') (h_r05_parser_base : r05_parser_base_C r05_parser_base') (h_r05_parser_fields : r05_parser_fields_C r05_parser_fields') : ∀ {a_x : GPar} {a_n_ : GNode} {a_depth : Int} {b_a_x : Nat} {t_a_x1 : Tok} {t_a_x2 : Tok} {v_a_x3 : Vt} {b_a_n_ : Nat} {t_a_n_4 : Tok} {t_a_n_5 : Tok} {r : GPar × GNode}, r05_parser_fields_F r05_parser_field' r05_parser_typ' r05_parser_base' r05_parser_fields' a_x a_n_ a_depth = some r → Ctr Tryz.prog 82 [ptrv b_a_x (Fld.id ((List GTok) × Int × (Str × Int × (TList Str) × (TList Int) × Vh) × Int × Int)), ptrv b_a_n_ (Fld.id (Int × Str × GMark × GCon × (TList GItem) × (TList GFld) × Int × Bool × Int)), isv (a_depth)] [boxE b_a_x ((a_x.l, a_x.at_, (a_x.m.name, a_x.m.tagging, (TList.mk t_a_x1 a_x.m.names), (TList.mk t_a_x2 a_x.m.types), (Vh.mk v_a_x3 a_x.m.nodes.length)), a_x.e, a_x.p) : ((List GTok) × Int × (Str × Int × (TList Str) × (TList Int) × Vh) × Int × Int)), tokE t_a_x1, tokE t_a_x2, vecE v_a_x3 (a_x.m.nodes : List GNode), boxE b_a_n_ ((a_n_.kind, a_n_.name, a_n_.mark, a_n_.con, (TList.mk t_a_n_4 a_n_.items), (TList.mk t_a_n_5 a_n_.fields), a_n_.root, a_n_.more, a_n_.of) : (Int × Str × GMark × GCon × (TList GItem) × (TList GFld) × Int × Bool × Int)), tokE t_a_n_4, tokE t_a_n_5] (fun R H => ∃ u1 : Tok, ∃ u2 : Tok, ∃ u3 : Vt, ∃ u4 : Tok, ∃ u5 : Tok, R = oneOf [] ∧ H = [boxE b_a_x ((r.1.l, r.1.at_, (r.1.m.name, r.1.m.tagging, (TList.mk u1 r.1.m.names), (TList.mk u2 r.1.m.types), (Vh.mk u3 r.1.m.nodes.length)), r.1.e, r.1.p)), tokE u1, tokE u2, vecE u3 (r.1.m.nodes), boxE b_a_n_ ((r.2.kind, r.2.name, r.2.mark, r.2.con, (TList.mk u4 r.2.items), (TList.mk u5 r.2.fields), r.2.root, r.2.more, r.2.of)), tokE u4, tokE u5]) := by
 intro a_x a_n_ a_depth b_a_x t_a_x1 t_a_x2 v_a_x3 b_a_n_ t_a_n_4 t_a_n_5 r h
 unfold r05_parser_fields_F at h
 refine spec_introD Tryz.func82 rfl fun w0 S0 hT => w_seq (wsr (oM rfl (cal_inv h fun y6 hy6 h => oT (t_call (r05_parser_is_w hy6) hT (s2 rfl rfl) k4 (fun R H' hR => ?_)))))
 obtain ⟨t7, t8, rfl, rfl⟩ := hR
 refine rnf (w_condM h rfl (fun _ h => ?_) (fun _ h => ?_))
 ·refine w_ret (ret_nxt (ret_post .nil (.cons .here (.cons .here (.cons .here k4))) ?_))
  cases h
  exact ⟨t7, t8, v_a_x3, t_a_n_4, t_a_n_5, rfl, rfl⟩
 refine wkf (wsr (oA rfl (rnf (w_seq (w_J (ι := GPar × GNode) (γ := Tok × Tok × Vt × Tok × Tok) (fun q9 g9 => [(6, anyv)]) (fun q9 g9 => [boxE b_a_x ((q9.1.l, q9.1.at_, (q9.1.m.name, q9.1.m.tagging, (TList.mk g9.1 q9.1.m.names), (TList.mk g9.2.1 q9.1.m.types), (Vh.mk g9.2.2.1 q9.1.m.nodes.length)), q9.1.e, q9.1.p) : ((List GTok) × Int × (Str × Int × (TList Str) × (TList Int) × Vh) × Int × Int)), tokE g9.1, tokE g9.2.1, vecE g9.2.2.1 (q9.1.m.nodes : List GNode), boxE b_a_n_ ((q9.2.kind, q9.2.name, q9.2.mark, q9.2.con, (TList.mk g9.2.2.2.1 q9.2.items), (TList.mk g9.2.2.2.2 q9.2.fields), q9.2.root, q9.2.more, q9.2.of) : (Int × Str × GMark × GCon × (TList GItem) × (TList GFld) × Int × Bool × Int)), tokE g9.2.2.2.1, tokE g9.2.2.2.2]) (.cons .here (.cons (.there tI) (.cons .here k4))) h (fun q9 g9 h => ?_) (fun J10 h hJ10 => ?_))))))
 ·refine wsr (oM rfl (cal_inv h fun y114 hy114 h => oT (t_call (r05_parser_must_w hy114) hT (s2 rfl rfl) k4 (fun R H' hR => ?_))))
  obtain ⟨t115, t116, rfl, rfl⟩ := hR
  refine rnf (wsr (oM rfl (oV (v_nilCheck rfl) (oV (v_fa rfl pt120_0_7 fd120_7) (oT (t_loadC (R := isv (q9.2.more)) ty4 rfl (.there (.there tI)) hI (oV (v_not rfl) (rnf (w_condM h rfl (fun _ h => ?_) (fun _ h => ?_))))))))))
  ·refine w_region (oM rfl (oM rfl (oV (v_nilCheck rfl) (oV (v_fa rfl pt120_0_5 fd120_5) (oT (t_loadC (R := appv g9.2.2.2.2 (q9.2.fields)) ty41 rfl (.there (.there tI)) isvT1 (oV (v_ln (l := q9.2.fields) rfl appv_isv sl41) (oV (v_nilCheck rfl) (oV (v_fa rfl pt120_0_6 fd120_6) ?_)))))))))
   refine oT (t_storeC (y' := ((q9.2.kind, q9.2.name, q9.2.mark, q9.2.con, (TList.mk g9.2.2.2.1 q9.2.items), (TList.mk g9.2.2.2.2 q9.2.fields), (q9.2.fields.length : Int), q9.2.more, q9.2.of) : (Int × Str × GMark × GCon × (TList GItem) × (TList GFld) × Int × Bool × Int))) ty3 rfl rfl hI (.there (.there tI)) rfl (rl_nil (fin_post .nil (.cons tH (.cons tH (.cons tH (.cons tH k3)))) ?_)))
   cases h
   exact ⟨t115, t116, g9.2.2.1, g9.2.2.2.1, g9.2.2.2.2, rfl, rfl⟩
  refine w_skip (fin_post .nil (.cons .here (.cons .here (.cons .here k4))) ?_)
  cases h
  exact ⟨t115, t116, g9.2.2.1, g9.2.2.2.1, g9.2.2.2.2, rfl, rfl⟩
 refine w_block (w_lp (ι := Int × GPar × GNode) (γ := Tok × Tok × Vt × Tok × Tok) (fun q11 g11 => [(6, isv (q11.1))]) (fun q11 g11 => [boxE b_a_x ((q11.2.1.l, q11.2.1.at_, (q11.2.1.m.name, q11.2.1.m.tagging, (TList.mk g11.1 q11.2.1.m.names), (TList.mk g11.2.1 q11.2.1.m.types), (Vh.mk g11.2.2.1 q11.2.1.m.nodes.length)), q11.2.1.e, q11.2.1.p) : ((List GTok) × Int × (Str × Int × (TList Str) × (TList Int) × Vh) × Int × Int)), tokE g11.1, tokE g11.2.1, vecE g11.2.2.1 (q11.2.1.m.nodes : List GNode), boxE b_a_n_ ((q11.2.2.kind, q11.2.2.name, q11.2.2.mark, q11.2.2.con, (TList.mk g11.2.2.2.1 q11.2.2.items), (TList.mk g11.2.2.2.2 q11.2.2.fields), q11.2.2.root, q11.2.2.more, q11.2.2.of) : (Int × Str × GMark × GCon × (TList GItem) × (TList GFld) × Int × Bool × Int)), tokE g11.2.2.2.1, tokE g11.2.2.2.2]) h (t7, t8, v_a_x3, t_a_n_4, t_a_n_5) (mod_cons (j := 6) rfl hI mod_nil) (.cons .here (.cons .here (.cons .here k4))) (fun L12 q11 g11 Q113 h hL12 eL12 rL12 => w_seq (wsr (oM rfl (oV (v_nilCheck rfl) (oV (v_fa rfl pt84_0_3 fd84_3) (oT (t_loadC (R := isv (q11.2.1.e)) ty27 rfl .here hI (oV (v_eql rfl rfl) ?_)))))))))
 refine rnf (w_condM h rfl (fun _ h => ?_) (fun _ h => ?_))
 ·refine wkf (w_block (w_seq (w_J (ι := Int × GPar × GNode) (γ := Tok × Tok × Vt × Tok × Tok) (fun q63 g63 => [(6, isv (q63.1))]) (fun q63 g63 => [boxE b_a_x ((q63.2.1.l, q63.2.1.at_, (q63.2.1.m.name, q63.2.1.m.tagging, (TList.mk g63.1 q63.2.1.m.names), (TList.mk g63.2.1 q63.2.1.m.types), (Vh.mk g63.2.2.1 q63.2.1.m.nodes.length)), q63.2.1.e, q63.2.1.p) : ((List GTok) × Int × (Str × Int × (TList Str) × (TList Int) × Vh) × Int × Int)), tokE g63.1, tokE g63.2.1, vecE g63.2.2.1 (q63.2.1.m.nodes : List GNode), boxE b_a_n_ ((q63.2.2.kind, q63.2.2.name, q63.2.2.mark, q63.2.2.con, (TList.mk g63.2.2.2.1 q63.2.2.items), (TList.mk g63.2.2.2.2 q63.2.2.fields), q63.2.2.root, q63.2.2.more, q63.2.2.of) : (Int × Str × GMark × GCon × (TList GItem) × (TList GFld) × Int × Bool × Int)), tokE g63.2.2.2.1, tokE g63.2.2.2.2]) (.cons .here (.cons (.there tI) (.cons .here k4))) h (fun q63 g63 h => ?_) (fun J64 h hJ64 => ?_))))
  ·refine wsr (oM rfl (cal_inv h fun y110 hy110 h => oT (t_call (r05_parser_is_w hy110) hT (s2 rfl rfl) k4 (fun R H' hR => ?_))))
   obtain ⟨t111, t112, rfl, rfl⟩ := hR
   refine oV (v_not rfl) (rnf (w_condM h rfl (fun _ h => ?_) (fun _ h => ?_)))
   ·exact w_exit (exi_pass rfl (eL12 _ _ (exi_block (hJ10 _ (t111, t112, g63.2.2.1, g63.2.2.2.1, g63.2.2.2.2) h _ (join_imp 10 rfl rfl (mod_cons (j := 6) rfl (fun _ _ _ => trivial) mod_nil) (.cons .here (.cons .here (.cons .here k4))))))))
   exact w_skip (fin_block (hL12 _ (t111, t112, g63.2.2.1, g63.2.2.2.1, g63.2.2.2.2) h _ (join_imp 10 rfl rfl (mod_cons (j := 6) rfl hI mod_nil) (.cons .here (.cons .here (.cons .here k4))))))
  refine w_block (wsr (oM rfl (oV (v_nilCheck rfl) (oV (v_fa rfl pt120_0_7 fd120_7) (oT (t_loadC (R := isv (q11.2.2.more)) ty4 rfl (.there (.there tI)) hI (oV (v_not rfl) (oM rfl (rl_j (ι := Bool × GPar) (γ := Tok × Tok) (fun q65 g65 => [(27, isv (q65.1))]) (fun q65 g65 => [boxE b_a_x ((q65.2.l, q65.2.at_, (q65.2.m.name, q65.2.m.tagging, (TList.mk g65.1 q65.2.m.names), (TList.mk g65.2 q65.2.m.types), (Vh.mk g11.2.2.1 q65.2.m.nodes.length)), q65.2.e, q65.2.p) : ((List GTok) × Int × (Str × Int × (TList Str) × (TList Int) × Vh) × Int × Int)), tokE g65.1, tokE g65.2, vecE g11.2.2.1 (q65.2.m.nodes : List GNode)]) k4 h 3 rfl (fun q65 g65 h => ?_) (fun J66 h hJ66 => ?_))))))))))
  ·refine oA rfl (rnf (w_condM h rfl (fun _ h => ?_) (fun _ h => ?_)))
   ·refine w_region (oM rfl (oM rfl (oM rfl (oV (v_nilCheck rfl) (oV (v_fa rfl pt120_0_5 fd120_5) (oT (t_loadC (R := appv g11.2.2.2.2 (q11.2.2.fields)) ty41 rfl (.there (.there tI)) isvT1 (oV (v_ln (l := q11.2.2.fields) rfl appv_isv sl41) (oV (v_nilCheck rfl) ?_)))))))))
    exact oV (v_fa rfl pt120_0_7 fd120_7) (oT (t_storeC (y' := ((q11.2.2.kind, q11.2.2.name, q11.2.2.mark, q11.2.2.con, (TList.mk g11.2.2.2.1 q11.2.2.items), (TList.mk g11.2.2.2.2 q11.2.2.fields), q11.2.2.root, true, q11.2.2.of) : (Int × Str × GMark × GCon × (TList GItem) × (TList GFld) × Int × Bool × Int))) ty4 rfl rfl hI (.there (.there tI)) rfl (oV (v_nilCheck rfl) (oV (v_fa rfl pt120_0_6 fd120_6) (oT (t_storeC (y' := ((q11.2.2.kind, q11.2.2.name, q11.2.2.mark, q11.2.2.con, (TList.mk g11.2.2.2.1 q11.2.2.items), (TList.mk g11.2.2.2.2 q11.2.2.fields), (q11.2.2.fields.length : Int), true, q11.2.2.of) : (Int × Str × GMark × GCon × (TList GItem) × (TList GFld) × Int × Bool × Int))) ty3 rfl rfl hI .here rfl (rl_nil (fin_block (hJ64 _ (g65.1, g65.2, g11.2.2.1, g11.2.2.2.1, g11.2.2.2.2) h _ (join_imp 19 rfl rfl (mod_cons (j := 6) rfl hI mod_nil) (.cons tH (.cons tH (.cons tH (.cons tH k3))))))))))))))
   refine wsr (oM rfl (oV (v_nilCheck rfl) (oV (v_fa rfl pt120_0_7 fd120_7) (oT (t_loadC (R := isv (q11.2.2.more)) ty4 rfl (.there (.there tI)) hI (oM rfl (rl_j (ι := Bool × GPar) (γ := Tok × Tok) (fun q71 g71 => [(47, isv (q71.1))]) (fun q71 g71 => [boxE b_a_x ((q71.2.l, q71.2.at_, (q71.2.m.name, q71.2.m.tagging, (TList.mk g71.1 q71.2.m.names), (TList.mk g71.2 q71.2.m.types), (Vh.mk g11.2.2.1 q71.2.m.nodes.length)), q71.2.e, q71.2.p) : ((List GTok) × Int × (Str × Int × (TList Str) × (TList Int) × Vh) × Int × Int)), tokE g71.1, tokE g71.2, vecE g11.2.2.1 (q71.2.m.nodes : List GNode)]) k4 h 3 rfl (fun q71 g71 h => ?_) (fun J72 h hJ72 => ?_))))))))
   ·refine oA rfl (rnf (w_condM h rfl (fun _ h => ?_) (fun _ h => ?_)))
    ·refine wsr (oM rfl (ck_inv h fun q77 h => oV (v_add rfl rfl q77) (oA rfl (rnf (w_seq (w_J (ι := GPar × GNode) (γ := Tok × Tok × Vt × Tok × Tok) (fun q78 g78 => []) (fun q78 g78 => [boxE b_a_x ((q78.1.l, q78.1.at_, (q78.1.m.name, q78.1.m.tagging, (TList.mk g78.1 q78.1.m.names), (TList.mk g78.2.1 q78.1.m.types), (Vh.mk g78.2.2.1 q78.1.m.nodes.length)), q78.1.e, q78.1.p) : ((List GTok) × Int × (Str × Int × (TList Str) × (TList Int) × Vh) × Int × Int)), tokE g78.1, tokE g78.2.1, vecE g78.2.2.1 (q78.1.m.nodes : List GNode), boxE b_a_n_ ((q78.2.kind, q78.2.name, q78.2.mark, q78.2.con, (TList.mk g78.2.2.2.1 q78.2.items), (TList.mk g78.2.2.2.2 q78.2.fields), q78.2.root, q78.2.more, q78.2.of) : (Int × Str × GMark × GCon × (TList GItem) × (TList GFld) × Int × Bool × Int)), tokE g78.2.2.2.1, tokE g78.2.2.2.2]) (.cons .here (.cons (.there tI) (.cons .here k4))) h (fun q78 g78 h => ?_) (fun J79 h hJ79 => ?_)))))))
     ·refine w_region (oM rfl (cal_inv h fun y101 hy101 h => oT (t_call (r05_parser_must_w hy101) hT (s2 rfl rfl) k4 (fun R H' hR => ?_))))
      obtain ⟨t102, t103, rfl, rfl⟩ := hR
      exact rl_nil (fin_block (hJ64 _ (t102, t103, g78.2.2.1, g78.2.2.2.1, g78.2.2.2.2) h _ (join_imp 20 rfl rfl (mod_cons (j := 6) rfl hI mod_nil) (.cons .here (.cons .here (.cons .here k4))))))
     refine w_block (w_lp (ι := GPar × GNode) (γ := Tok × Tok × Vt × Tok × Tok) (fun q80 g80 => []) (fun q80 g80 => [boxE b_a_x ((q80.1.l, q80.1.at_, (q80.1.m.name, q80.1.m.tagging, (TList.mk g80.1 q80.1.m.names), (TList.mk g80.2.1 q80.1.m.types), (Vh.mk g80.2.2.1 q80.1.m.nodes.length)), q80.1.e, q80.1.p) : ((List GTok) × Int × (Str × Int × (TList Str) × (TList Int) × Vh) × Int × Int)), tokE g80.1, tokE g80.2.1, vecE g80.2.2.1 (q80.1.m.nodes : List GNode), boxE b_a_n_ ((q80.2.kind, q80.2.name, q80.2.mark, q80.2.con, (TList.mk g80.2.2.2.1 q80.2.items), (TList.mk g80.2.2.2.2 q80.2.fields), q80.2.root, q80.2.more, q80.2.of) : (Int × Str × GMark × GCon × (TList GItem) × (TList GFld) × Int × Bool × Int)), tokE g80.2.2.2.1, tokE g80.2.2.2.2]) h (g71.1, g71.2, g11.2.2.1, g11.2.2.2.1, g11.2.2.2.2) mod_nil (.cons .here (.cons .here (.cons .here k4))) (fun L81 q80 g80 Q100 h hL81 eL81 rL81 => w_seq (wsr (oM rfl (oV (v_nilCheck rfl) (oV (v_fa rfl pt84_0_3 fd84_3) (oT (t_loadC (R := isv (q80.1.e)) ty27 rfl .here hI (oV (v_eql rfl rfl) ?_)))))))))
     refine rnf (w_condM h rfl (fun _ h => ?_) (fun _ h => ?_))
     ·refine wkf (w_block (wsr (oM rfl (oM rfl (oM rfl (oM rfl (cal_inv h fun y91 hy91 h => oT (t_call (h_r05_parser_field hy91) hT (s4 rfl rfl rfl rfl) (.cons .here (.cons .here (.cons .here k4))) (fun R H' hR => ?_)))))))))
      obtain ⟨t92, t93, v94, t95, t96, rfl, rfl⟩ := hR
      refine rnf (wsr (oM rfl (cal_inv h fun y97 hy97 h => oT (t_call (r05_parser_is_w hy97) hT (s2 rfl rfl) k4 (fun R H' hR => ?_)))))
      obtain ⟨t98, t99, rfl, rfl⟩ := hR
      refine oV (v_not rfl) (rnf (w_condM h rfl (fun _ h => ?_) (fun _ h => ?_)))
      ·exact w_exit (exi_pass rfl (eL81 _ _ (exi_block (hJ79 _ (t98, t99, v94, t95, t96) h _ (join_imp 13 rfl rfl mod_nil (.cons .here (.cons .here (.cons .here k4))))))))
      exact w_skip (fin_block (hL81 _ (t98, t99, v94, t95, t96) h _ (join_imp 13 rfl rfl mod_nil (.cons .here (.cons .here (.cons .here k4))))))
     exact w_exit (exi_nxt (eL81 _ _ (exi_block (hJ79 _ (g80.1, g80.2.1, g80.2.2.1, g80.2.2.2.1, g80.2.2.2.2) h _ (join_imp 5 rfl rfl mod_nil (.cons .here (.cons .here (.cons .here k4))))))))
    refine w_region (oM rfl (oM rfl (oM rfl (cal_inv h fun y104 hy104 h => oT (t_call (h_r05_parser_field hy104) hT (s4 rfl rfl rfl rfl) (.cons .here (.cons .here (.cons .here k4))) (fun R H' hR => ?_))))))
    obtain ⟨t105, t106, v107, t108, t109, rfl, rfl⟩ := hR
    exact rl_nil (fin_block (hJ64 _ (t105, t106, v107, t108, t109) h _ (join_imp 19 rfl rfl (mod_cons (j := 6) rfl hI mod_nil) (.cons .here (.cons .here (.cons .here k4))))))
   refine rl_condM (j := 44) h rfl (fun g73 h => ?_) (fun g73 h => ?_)
   ·refine oK 44 rfl rfl rfl g73 (v_move rfl) (cal_inv h fun y74 hy74 h => op_take rfl rfl (dj := 44) rfl g73 (t_call (r05_parser_is_w hy74) hT (s2 rfl rfl) k4 (fun R H' hR => ?_)))
    obtain ⟨t75, t76, rfl, rfl⟩ := hR
    exact oV (v_pick_t rfl g73 rfl) (hJ72 _ (t75, t76) h _ (join_imp 3 rfl rfl (mod_cons (j := 47) rfl hI mod_nil) (.cons .here (.cons .here (.cons .here k4)))))
   exact oP 44 rfl rfl g73 (oP 44 rfl rfl g73 (oV (v_pick_f rfl g73 rfl) (hJ72 _ (g65.1, g65.2) h _ (join_imp 3 rfl rfl (mod_cons (j := 47) rfl hI mod_nil) (.cons .here (.cons .here (.cons .here k4)))))))
  refine rl_condM (j := 24) h rfl (fun g67 h => ?_) (fun g67 h => ?_)
  ·refine oK 24 rfl rfl rfl g67 (v_move rfl) (cal_inv h fun y68 hy68 h => op_take rfl rfl (dj := 24) rfl g67 (t_call (r05_parser_is_w hy68) hT (s2 rfl rfl) k4 (fun R H' hR => ?_)))
   obtain ⟨t69, t70, rfl, rfl⟩ := hR
   exact oV (v_pick_t rfl g67 rfl) (hJ66 _ (t69, t70) h _ (join_imp 3 rfl rfl (mod_cons (j := 27) rfl hI mod_nil) (.cons .here (.cons .here (.cons .here k4)))))
  exact oP 24 rfl rfl g67 (oP 24 rfl rfl g67 (oV (v_pick_f rfl g67 rfl) (hJ66 _ (g11.1, g11.2.1) h _ (join_imp 3 rfl rfl (mod_cons (j := 27) rfl hI mod_nil) (.cons .here (.cons .here (.cons .here k4)))))))
 exact w_exit (exi_nxt (eL12 _ _ (exi_block (hJ10 _ (g11.1, g11.2.1, g11.2.2.1, g11.2.2.2.1, g11.2.2.2.2) h _ (join_imp 6 rfl rfl (mod_cons (j := 6) rfl (fun _ _ _ => trivial) mod_nil) (.cons .here (.cons .here (.cons .here k4))))))))

theorem r05_parser_field_grp_w : ∀ n, r05_parser_field_C (r05_parser_field n) ∧ r05_parser_typ_C (r05_parser_typ n) ∧ r05_parser_base_C (r05_parser_base n) ∧ r05_parser_fields_C (r05_parser_fields n)
 | 0 => ⟨fun h => (by cases h), fun h => (by cases h), fun h => (by cases h), fun h => (by cases h)⟩
 | n + 1 => by
  obtain ⟨h0, h1, h2, h3⟩ := r05_parser_field_grp_w n
  exact ⟨r05_parser_field_w0 h0 h1 h2 h3, r05_parser_typ_w0 h0 h1 h2 h3, r05_parser_base_w0 h0 h1 h2 h3, r05_parser_fields_w0 h0 h1 h2 h3⟩
theorem r05_parser_typ_w (n : Nat) : r05_parser_typ_C (r05_parser_typ n) := (r05_parser_field_grp_w n).2.1
theorem r05_Parse_w : ∀ {a_text : Str} {r : GMod × Int × Int}, r05_Parse a_text = some r → Ctr Tryz.prog 11 [isv (a_text)] [] (fun R H => R = oneOf [isv (r.1), isv (r.2.1), isv (r.2.2)] ∧ H = []) := by
 intro a_text r h
 unfold r05_Parse at h
 refine spec_introD Tryz.func11 rfl fun w0 S0 hT => wsr (oT (t_alloc _ ze26 fun b1 => oA rfl (oA rfl (rnf (wsr (oM rfl (cal_inv h fun y2 hy2 h => ?_)))))))
 refine oT (t_callE (r04_Tokens_w hy2) hT (s1 rfl) .nil (oM rfl (oV (v_extract rfl rfl) (oV (v_extract rfl rfl) (oV (v_extract rfl rfl) (oA rfl (oA rfl (oA rfl (rnf ?_)))))))))
 refine w_seq (wsr (oM rfl (oV (v_neq rfl rfl) (rnf (w_condM h rfl (fun _ h => ?_) (fun _ h => ?_))))))
 ·refine wsr (oV (v_build (z := (GMod.mk (Str.mk []) (0 : Int) ([] : (List Str)) ([] : (List Int)) ([] : (List GNode)))) rfl bu26 ze26 .nil) (oM rfl (oM rfl (oT (t_storeC (y' := ((GMod.mk (Str.mk []) (0 : Int) ([] : (List Str)) ([] : (List Int)) ([] : (List GNode))) : GMod)) ty26 rfl rfl hI .here rfl (oA rfl (oA rfl (rnf (w_ret ?_)))))))))
  refine ret_nxt ?_
  cases h
  exact ret_post (.cell rfl .here ty26 (.tmp rfl (.tmp rfl .nil))) .nil ⟨rfl, rfl⟩
 refine wkf (wsr (oM rfl (oV (v_build (z := ((y2.1, (0 : Int), ((Str.mk []), (0 : Int), (TList.mk none ([] : (List Str))), (TList.mk none ([] : (List Int))), (Vh.mk none 0)), (0 : Int), (0 : Int)) : ((List GTok) × Int × (Str × Int × (TList Str) × (TList Int) × Vh) × Int × Int))) rfl bu84 zt84_0 (.cons pt84_0_0 fd84_0 rfl hI .nil)) (oT (t_boxC (y := ((y2.1, (0 : Int), ((Str.mk []), (0 : Int), (TList.mk none ([] : (List Str))), (TList.mk none ([] : (List Int))), (Vh.mk none 0)), (0 : Int), (0 : Int)) : ((List GTok) × Int × (Str × Int × (TList Str) × (TList Int) × Vh) × Int × Int))) rfl hI fun b3 => rl_upd (upd_tok) (rl_upd (upd_tok) (rl_upd (upd_vec (α := GNode)) (oA rfl ?_))))))))
 refine rnf (wsr (oM rfl (oM rfl (cal_inv h fun y7 hy7 h => oT (t_call (r05_parser_kind_w hy7) hT (s2 rfl rfl) (.cons (.there tI) (.cons tI (.cons tH k1))) (fun R H' hR => ?_))))))
 obtain ⟨t8, t9, rfl, rfl⟩ := hR
 refine oV (v_nilCheck rfl) (oV (v_fa rfl pt84_0_2 fd84_2) (oV (v_fa rfl pt26_0_0 fd26_0) (oT (t_storeC (y' := ((y7.2.l, y7.2.at_, (y7.1, y7.2.m.tagging, (TList.mk t8 y7.2.m.names), (TList.mk t9 y7.2.m.types), (Vh.mk none y7.2.m.nodes.length)), y7.2.e, y7.2.p) : ((List GTok) × Int × (Str × Int × (TList Str) × (TList Int) × Vh) × Int × Int))) ty9 rfl rfl hI .here rfl (rnf (wsr (oM rfl (cal_inv h fun y10 hy10 h => oT (t_call (r05_parser_must_w hy10) hT (s2 rfl rfl) k4 (fun R H' hR => ?_))))))))))
 obtain ⟨t11, t12, rfl, rfl⟩ := hR
 refine rnf (w_seq (w_J (ι := GPar) (γ := Tok × Tok) (fun q13 g13 => []) (fun q13 g13 => [boxE b3 ((q13.l, q13.at_, (q13.m.name, q13.m.tagging, (TList.mk g13.1 q13.m.names), (TList.mk g13.2 q13.m.types), (Vh.mk none q13.m.nodes.length)), q13.e, q13.p) : ((List GTok) × Int × (Str × Int × (TList Str) × (TList Int) × Vh) × Int × Int)), tokE g13.1, tokE g13.2, vecE none (q13.m.nodes : List GNode)]) k4 h (fun q13 g13 h => ?_) (fun J14 h hJ14 => ?_)))
 ·refine wsr (oM rfl (cal_inv h fun y33 hy33 h => oT (t_call (r05_parser_must_w hy33) hT (s2 rfl rfl) k4 (fun R H' hR => ?_))))
  obtain ⟨t34, t35, rfl, rfl⟩ := hR
  refine rnf (wsr (oM rfl (cal_inv h fun y36 hy36 h => oT (t_call (r05_parser_must_w hy36) hT (s2 rfl rfl) k4 (fun R H' hR => ?_)))))
  obtain ⟨t37, t38, rfl, rfl⟩ := hR
  refine rnf (w_seq (w_block (w_lp (ι := GPar) (γ := Tok × Tok × Vt) (fun q39 g39 => []) (fun q39 g39 => [boxE b3 ((q39.l, q39.at_, (q39.m.name, q39.m.tagging, (TList.mk g39.1 q39.m.names), (TList.mk g39.2.1 q39.m.types), (Vh.mk g39.2.2 q39.m.nodes.length)), q39.e, q39.p) : ((List GTok) × Int × (Str × Int × (TList Str) × (TList Int) × Vh) × Int × Int)), tokE g39.1, tokE g39.2.1, vecE g39.2.2 (q39.m.nodes : List GNode)]) h (t37, t38, none) mod_nil k4 (fun L40 q39 g39 Q141 h hL40 eL40 rL40 => w_seq (wsr (oM rfl (oV (v_nilCheck rfl) (oV (v_fa rfl pt84_0_3 fd84_3) ?_))))))))
  refine oT (t_loadC (R := isv (q39.e)) ty27 rfl .here hI (oV (v_eql rfl rfl) (oM rfl (rl_j (ι := Bool × GPar) (γ := Tok × Tok) (fun q91 g91 => [(70, isv (q91.1))]) (fun q91 g91 => [boxE b3 ((q91.2.l, q91.2.at_, (q91.2.m.name, q91.2.m.tagging, (TList.mk g91.1 q91.2.m.names), (TList.mk g91.2 q91.2.m.types), (Vh.mk g39.2.2 q91.2.m.nodes.length)), q91.2.e, q91.2.p) : ((List GTok) × Int × (Str × Int × (TList Str) × (TList Int) × Vh) × Int × Int)), tokE g91.1, tokE g91.2, vecE g39.2.2 (q91.2.m.nodes : List GNode)]) k4 h 4 rfl (fun q91 g91 h => ?_) (fun J92 h hJ92 => ?_)))))
  ·refine rnf (w_condM h rfl (fun _ h => ?_) (fun _ h => ?_))
   ·refine wkf (w_block (wsr (oM rfl (cal_inv h fun y97 hy97 h => oT (t_call (r05_parser_now_w hy97) hT (s1 rfl) k4 (fun R H' hR => ?_))))))
    obtain ⟨t98, t99, rfl, rfl⟩ := hR
    refine oT (t_alloc _ ze88 fun b100 => oT (t_storeC (y' := (y97.1 : GTok)) ty88 rfl rfl hI .here rfl (rl_upd (upd_imm 9 .here rfl) (rnf (wsr (oM rfl (cal_inv h fun y101 hy101 h => oT (t_call (r05_parser_kind_w hy101) hT (s2 rfl rfl) k4 (fun R H' hR => ?_)))))))))
    obtain ⟨t102, t103, rfl, rfl⟩ := hR
    refine oA rfl (rnf (w_seq (wsr (oM rfl (oV (v_nilCheck rfl) (oV (v_fa rfl pt84_0_3 fd84_3) (oT (t_loadC (R := isv (y101.2.e)) ty27 rfl .here hI (oV (v_eql rfl rfl) ?_)))))))))
    refine oM rfl (rl_j (jb 88) je .nil h 8 rfl (fun q104 g104 h => ?_) (fun J105 h hJ105 => ?_))
    ·refine rnf (w_J (ι := GPar) (γ := Tok × Tok) (fun q107 g107 => []) (fun q107 g107 => [boxE b3 ((q107.l, q107.at_, (q107.m.name, q107.m.tagging, (TList.mk g107.1 q107.m.names), (TList.mk g107.2 q107.m.types), (Vh.mk g39.2.2 q107.m.nodes.length)), q107.e, q107.p) : ((List GTok) × Int × (Str × Int × (TList Str) × (TList Int) × Vh) × Int × Int)), tokE g107.1, tokE g107.2, vecE g39.2.2 (q107.m.nodes : List GNode)]) k4 h (fun q107 g107 h => ?_) (fun J108 h hJ108 => ?_))
     ·refine wsr (oM rfl (cal_inv h fun y112 hy112 h => oT (t_call (r05_parser_must_w hy112) hT (s2 rfl rfl) k4 (fun R H' hR => ?_))))
      obtain ⟨t113, t114, rfl, rfl⟩ := hR
      refine rnf (wsr (oM rfl (cal_inv h fun y115 hy115 h => oT (t_call (r05_parser_typ_w fuel hy115) hT (s2 rfl rfl) k4 (fun R H' hR => ?_)))))
      obtain ⟨t116, t117, v118, rfl, rfl⟩ := hR
      refine oA rfl (rnf (wsr (oM rfl (oM rfl (oV (v_nilCheck rfl) (oV (v_fa rfl pt84_0_2 fd84_2) (oV (v_fa rfl pt26_0_2 fd26_2) (oT (t_loadC (R := appv t116 (y115.2.m.names)) ty22 rfl .here isvT1 ?_)))))))))
      refine oM rfl (oT (t_buildSlice (l := ([y101.1] : (List Str))) el22 (.cons rfl hI .nil) rfl rfl (asr_inv h fun q121 h => oT (t_appC (l := y115.2.m.names) (m := ([y101.1] : (List Str))) ap22_22 rfl hI rfl appv_isv tH q121 fun t120 => oV (v_nilCheck rfl) (oV (v_fa rfl pt84_0_2 fd84_2) (oV (v_fa rfl pt26_0_2 fd26_2) (oT (t_storeC (y' := ((y115.2.l, y115.2.at_, (y115.2.m.name, y115.2.m.tagging, (TList.mk t120 (y115.2.m.names ++ ([y101.1] : (List Str)))), (TList.mk t117 y115.2.m.types), (Vh.mk v118 y115.2.m.nodes.length)), y115.2.e, y115.2.p) : ((List GTok) × Int × (Str × Int × (TList Str) × (TList Int) × Vh) × Int × Int))) ty22 rfl rfl isvT2 tH rfl (rnf ?_)))))))))
      refine w_region (oM rfl (oM rfl (oV (v_nilCheck rfl) (oV (v_fa rfl pt84_0_2 fd84_2) (oV (v_fa rfl pt26_0_3 fd26_3) (oT (t_loadC (R := appv t117 (y115.2.m.types)) ty23 rfl .here isvT1 (oM rfl (oT (t_buildSlice (l := ([y115.1] : (List Int))) el23 (.cons rfl hI .nil) rfl rfl ?_))))))))))
      exact asr_inv h fun q124 h => oT (t_appC (l := y115.2.m.types) (m := ([y115.1] : (List Int))) ap23_23 rfl hI rfl appv_isv tI q124 fun t123 => oV (v_nilCheck rfl) (oV (v_fa rfl pt84_0_2 fd84_2) (oV (v_fa rfl pt26_0_3 fd26_3) (oT (t_storeC (y' := ((y115.2.l, y115.2.at_, (y115.2.m.name, y115.2.m.tagging, (TList.mk t120 (y115.2.m.names ++ ([y101.1] : (List Str)))), (TList.mk t123 (y115.2.m.types ++ ([y115.1] : (List Int)))), (Vh.mk v118 y115.2.m.nodes.length)), y115.2.e, y115.2.p) : ((List GTok) × Int × (Str × Int × (TList Str) × (TList Int) × Vh) × Int × Int))) ty23 rfl rfl isvT2 tH rfl (rl_nil (fin_block (hL40 _ (t120, t123, v118) h _ (join_imp 50 rfl rfl mod_nil (.cons .here (.cons tH k3)))))))))))
     refine w_condM h rfl (fun _ h => ?_) (fun _ h => ?_)
     ·refine w_region (oM rfl (oV (v_loadI ty88 rfl) (cal_inv h fun y109 hy109 h => oT (t_call (r05_parser_fail_w hy109) hT (s3 rfl rfl rfl) k4 (fun R H' hR => ?_)))))
      obtain ⟨t110, t111, rfl, rfl⟩ := hR
      exact rl_nil (hJ108 _ (t110, t111) h _ (join_imp 3 rfl rfl mod_nil (.cons .here k4)))
     exact w_skip (hJ108 _ (t102, t103) h _ (join_imp 0 rfl rfl mod_nil (.cons .here k4)))
    refine rl_condM (j := 80) h rfl (fun g106 h => ?_) (fun g106 h => ?_)
    ·exact oK 80 rfl rfl rfl g106 (v_move rfl) (oK 80 rfl rfl rfl g106 (v_nilCheck rfl) (oK 80 rfl rfl rfl g106 (v_fa rfl pt84_0_2 fd84_2) (oK 80 rfl rfl rfl g106 (v_fa rfl pt26_0_2 fd26_2) (op_take rfl rfl (dj := 80) rfl g106 (t_loadC (R := appv t102 (y101.2.m.names)) ty22 rfl .here isvT1 (oK 80 rfl rfl rfl g106 (v_ln (l := y101.2.m.names) rfl appv_isv sl22) (oK 80 rfl rfl rfl g106 (v_geq rfl rfl) (oV (v_pick_t rfl g106 rfl) (hJ105 _ () h _ (join_imp 8 rfl rfl (mod_cons (j := 88) rfl hI mod_nil) (.cons .here k4)))))))))))
    exact oP 80 rfl rfl g106 (oP 80 rfl rfl g106 (oP 80 rfl rfl g106 (oP 80 rfl rfl g106 (oP 80 rfl rfl g106 (oP 80 rfl rfl g106 (oP 80 rfl rfl g106 (oV (v_pick_f rfl g106 rfl) (hJ105 _ () h _ (join_imp 8 rfl rfl (mod_cons (j := 88) rfl hI mod_nil) (.cons .here k4))))))))))
   refine w_exit (exi_nxt (eL40 _ _ (exi_block (fin_nxt (w_seq (wsr (oM rfl (oV (v_nilCheck rfl) ?_))))))))
   refine oV (v_fa rfl pt84_0_3 fd84_3) (oT (t_loadC (R := isv (q91.2.e)) ty27 rfl .here hI (oV (v_eql rfl rfl) (oM rfl (rl_j (ι := Bool × GPar) (γ := Tok × Tok) (fun q125 g125 => [(130, isv (q125.1))]) (fun q125 g125 => [boxE b3 ((q125.2.l, q125.2.at_, (q125.2.m.name, q125.2.m.tagging, (TList.mk g125.1 q125.2.m.names), (TList.mk g125.2 q125.2.m.types), (Vh.mk g39.2.2 q125.2.m.nodes.length)), q125.2.e, q125.2.p) : ((List GTok) × Int × (Str × Int × (TList Str) × (TList Int) × Vh) × Int × Int)), tokE g125.1, tokE g125.2, vecE g39.2.2 (q125.2.m.nodes : List GNode)]) k4 h 5 rfl (fun q125 g125 h => ?_) (fun J126 h hJ126 => ?_))))))
   ·refine rnf (w_J (ι := GPar) (γ := Tok × Tok) (fun q131 g131 => []) (fun q131 g131 => [boxE b3 ((q131.l, q131.at_, (q131.m.name, q131.m.tagging, (TList.mk g131.1 q131.m.names), (TList.mk g131.2 q131.m.types), (Vh.mk g39.2.2 q131.m.nodes.length)), q131.e, q131.p) : ((List GTok) × Int × (Str × Int × (TList Str) × (TList Int) × Vh) × Int × Int)), tokE g131.1, tokE g131.2, vecE g39.2.2 (q131.m.nodes : List GNode)]) k4 h (fun q131 g131 h => ?_) (fun J132 h hJ132 => ?_))
    ·refine w_seq (wsr (oM rfl (oV (v_nilCheck rfl) (oV (v_fa rfl pt84_0_3 fd84_3) (oT (t_loadC (R := isv (q131.e)) ty27 rfl .here hI (oV (v_neq rfl rfl) (rnf (w_condM h rfl (fun _ h => ?_) (fun _ h => ?_))))))))))
     ·refine w_seq (w_pinN 8 .here rfl (fun o139 hn140 => w_regionD (.v 0 (.v 1 (.v 2 (.v 3 (.v 4 (.v 5 (.v 6 (.v 7 (.v 8 (.t 9 (.v 10 (.v 11 .nil)))))))))))) moOrd (by kernel_rfl) ?_))
      refine rd_v rfl (v_build (z := (GMod.mk (Str.mk []) (0 : Int) ([] : (List Str)) ([] : (List Int)) ([] : (List GNode)))) rfl bu26 ze26 .nil) (rvm rfl rfl (rd_v rfl (v_nilCheckP rfl) (rd_v rfl (v_fp rfl pt84_0_4 fd84_4) (rd_v rfl (v_lpC (R := isv (q131.p)) ty3 rfl (List.Mem.head _) hI) (rvm rfl rfl (rd_v rfl (v_nilCheckP rfl) (rd_v rfl (v_fp rfl pt84_0_3 fd84_3) (rd_v rfl (v_lpC (R := isv (q131.e)) ty27 rfl (List.Mem.head _) hI) ?_))))))))
      refine rd_t rfl rfl (t_storeC (y' := ((GMod.mk (Str.mk []) (0 : Int) ([] : (List Str)) ([] : (List Int)) ([] : (List GNode))) : GMod)) ty26 rfl rfl hI (.there tI) rfl (rd_v rfl (v_assign rfl) (rd_v rfl (v_assign rfl) (rd_nil (fin_unpinN 8 hn140 rfl (fin_nxt (w_ret (ret_nxt ?_))))))))
      cases h
      exact ret_post (.cell rfl tH ty26 (.tmp rfl (.tmp rfl .nil))) .nil ⟨rfl, rfl⟩
     refine wkf (wsr (oM rfl (oV (v_nilCheck rfl) (oV (v_fa rfl pt84_0_2 fd84_2) (rl_upd (upd_frzB (y := ((q131.l, q131.at_, (q131.m.name, q131.m.tagging, (TList.mk g131.1 q131.m.names), (TList.mk g131.2 q131.m.types), q131.m.nodes), q131.e, q131.p) : ((List GTok) × Int × (Str × Int × (TList Str) × (TList Int) × (List GNode)) × Int × Int))) (.there tI) .here (fun S hv => (Cv.pair Cv.id (Cv.pair Cv.id (Cv.pair (Cv.pair Cv.id (Cv.pair Cv.id (Cv.pair Cv.id (Cv.pair Cv.id (Cv.vh hv (by first | rfl | simp)))))) (Cv.pair Cv.id Cv.id)))))) ?_)))))
     refine rl_upd (upd_slot (R' := ptrv b3 ((Fld.id (((List GTok) × Int × (Str × Int × (TList Str) × (TList Int) × (List GNode)) × Int × Int))).comp pt84_1_2)) 151 rfl hI) (oT (t_loadC (y := ((q131.l, q131.at_, (q131.m.name, q131.m.tagging, (TList.mk g131.1 q131.m.names), (TList.mk g131.2 q131.m.types), q131.m.nodes), q131.e, q131.p) : ((List GTok) × Int × (Str × Int × (TList Str) × (TList Int) × (List GNode)) × Int × Int))) (R := isv (((q131.m.name, q131.m.tagging, (TList.mk g131.1 q131.m.names), (TList.mk g131.2 q131.m.types), q131.m.nodes)) : ((Str × Int × (TList Str) × (TList Int) × (List GNode))))) ty26 rfl .here (by exact hI) ?_))
     refine rl_upd (upd_slot (R' := isv (q131.m)) 152 rfl (Cv.isv rfl fun S => (fun cs h => GMod.cv (x := q131.m) cs (((Cv.pair Cv.id (Cv.pair Cv.id (Cv.pair Cv.tl (Cv.pair Cv.tl Cv.id)))) : Cv S ((q131.m.name, q131.m.tagging, (TList.mk g131.1 q131.m.names), (TList.mk g131.2 q131.m.types), q131.m.nodes) : (Str × Int × (TList Str) × (TList Int) × (List GNode))) (GMod.to q131.m)) cs h)))) (oT (t_storeC (y' := (q131.m : GMod)) ty26 rfl rfl hI (.there tI) rfl (oA rfl (oA rfl (rnf (w_ret ?_))))))
     cases h
     exact ret_post (.cell rfl .here ty26 (.tmp rfl (.tmp rfl .nil))) .nil ⟨rfl, rfl⟩
    refine w_condM h rfl (fun _ h => ?_) (fun _ h => ?_)
    ·refine w_region (oM rfl (oM rfl (cal_inv h fun y133 hy133 h => oT (t_call (r05_parser_now_w hy133) hT (s1 rfl) k4 (fun R H' hR => ?_)))))
     obtain ⟨t134, t135, rfl, rfl⟩ := hR
     refine cal_inv h fun y136 hy136 h => oT (t_call (r05_parser_fail_w hy136) hT (s3 rfl rfl rfl) k4 (fun R H' hR => ?_))
     obtain ⟨t137, t138, rfl, rfl⟩ := hR
     exact rl_nil (hJ132 _ (t137, t138) h _ (join_imp 4 rfl rfl mod_nil (.cons .here k4)))
    exact w_skip (hJ132 _ (g125.1, g125.2) h _ (join_imp 0 rfl rfl mod_nil (.cons .here k4)))
   refine rl_condM (j := 125) h rfl (fun g127 h => ?_) (fun g127 h => ?_)
   ·refine oK 125 rfl rfl rfl g127 (v_move rfl) (cal_inv h fun y128 hy128 h => op_take rfl rfl (dj := 125) rfl g127 (t_call (r05_parser_now_w hy128) hT (s1 rfl) k4 (fun R H' hR => ?_)))
    obtain ⟨t129, t130, rfl, rfl⟩ := hR
    exact oK 125 rfl rfl rfl g127 (v_field GTok.f0 rfl fd88_0 rfl) (oK 125 rfl rfl rfl g127 (v_neq rfl rfl) (oV (v_pick_t rfl g127 rfl) (hJ126 _ (t129, t130) h _ (join_imp 5 rfl rfl (mod_cons (j := 130) rfl hI mod_nil) (.cons .here k4)))))
   exact oP 125 rfl rfl g127 (oP 125 rfl rfl g127 (oP 125 rfl rfl g127 (oP 125 rfl rfl g127 (oV (v_pick_f rfl g127 rfl) (hJ126 _ (g91.1, g91.2) h _ (join_imp 5 rfl rfl (mod_cons (j := 130) rfl hI mod_nil) (.cons .here k4)))))))
  refine rl_condM (j := 66) h rfl (fun g93 h => ?_) (fun g93 h => ?_)
  ·refine oK 66 rfl rfl rfl g93 (v_move rfl) (cal_inv h fun y94 hy94 h => op_take rfl rfl (dj := 66) rfl g93 (t_call (r05_parser_is_w hy94) hT (s2 rfl rfl) k4 (fun R H' hR => ?_)))
   obtain ⟨t95, t96, rfl, rfl⟩ := hR
   exact oK 66 rfl rfl rfl g93 (v_not rfl) (oV (v_pick_t rfl g93 rfl) (hJ92 _ (t95, t96) h _ (join_imp 4 rfl rfl (mod_cons (j := 70) rfl hI mod_nil) (.cons .here k4))))
  exact oP 66 rfl rfl g93 (oP 66 rfl rfl g93 (oP 66 rfl rfl g93 (oV (v_pick_f rfl g93 rfl) (hJ92 _ (g39.1, g39.2.1) h _ (join_imp 4 rfl rfl (mod_cons (j := 70) rfl hI mod_nil) (.cons .here k4))))))
 refine w_block (wsr (oM rfl (cal_inv h fun y15 hy15 h => oT (t_call (r05_parser_is_w hy15) hT (s2 rfl rfl) k4 (fun R H' hR => ?_)))))
 obtain ⟨t16, t17, rfl, rfl⟩ := hR
 refine oA rfl (rnf (w_condM h rfl (fun _ h => ?_) (fun _ h => ?_)))
 ·refine w_region (oM rfl (cal_inv h fun y18 hy18 h => oT (t_call (r05_parser_must_w hy18) hT (s2 rfl rfl) k4 (fun R H' hR => ?_))))
  obtain ⟨t19, t20, rfl, rfl⟩ := hR
  exact rl_nil (fin_block (hJ14 _ (t19, t20) h _ (join_imp 5 rfl rfl mod_nil (.cons .here k4))))
 refine wsr (oM rfl (cal_inv h fun y21 hy21 h => oT (t_call (r05_parser_is_w hy21) hT (s2 rfl rfl) k4 (fun R H' hR => ?_))))
 obtain ⟨t22, t23, rfl, rfl⟩ := hR
 refine oA rfl (rnf (w_condM h rfl (fun _ h => ?_) (fun _ h => ?_)))
 ·refine wsr (oM rfl (oV (v_nilCheck rfl) (oV (v_fa rfl pt84_0_2 fd84_2) (oV (v_fa rfl pt26_0_1 fd26_1) (oT (t_storeC (y' := ((y21.2.l, y21.2.at_, (y21.2.m.name, (1 : Int), (TList.mk t22 y21.2.m.names), (TList.mk t23 y21.2.m.types), (Vh.mk none y21.2.m.nodes.length)), y21.2.e, y21.2.p) : ((List GTok) × Int × (Str × Int × (TList Str) × (TList Int) × Vh) × Int × Int))) ty3 rfl rfl hI .here rfl (rnf (w_region (oM rfl ?_)))))))))
  refine cal_inv h fun y24 hy24 h => oT (t_call (r05_parser_must_w hy24) hT (s2 rfl rfl) k4 (fun R H' hR => ?_))
  obtain ⟨t25, t26, rfl, rfl⟩ := hR
  exact rl_nil (fin_block (hJ14 _ (t25, t26) h _ (join_imp 12 rfl rfl mod_nil (.cons .here k4))))
 refine wsr (oM rfl (cal_inv h fun y27 hy27 h => oT (t_call (r05_parser_is_w hy27) hT (s2 rfl rfl) k4 (fun R H' hR => ?_))))
 obtain ⟨t28, t29, rfl, rfl⟩ := hR
 refine oA rfl (rnf (w_condM h rfl (fun _ h => ?_) (fun _ h => ?_)))
 ·refine wsr (oM rfl (oV (v_nilCheck rfl) (oV (v_fa rfl pt84_0_2 fd84_2) (oV (v_fa rfl pt26_0_1 fd26_1) (oT (t_storeC (y' := ((y27.2.l, y27.2.at_, (y27.2.m.name, (2 : Int), (TList.mk t28 y27.2.m.names), (TList.mk t29 y27.2.m.types), (Vh.mk none y27.2.m.nodes.length)), y27.2.e, y27.2.p) : ((List GTok) × Int × (Str × Int × (TList Str) × (TList Int) × Vh) × Int × Int))) ty3 rfl rfl hI .here rfl (rnf (w_region (oM rfl ?_)))))))))
  refine cal_inv h fun y30 hy30 h => oT (t_call (r05_parser_must_w hy30) hT (s2 rfl rfl) k4 (fun R H' hR => ?_))
  obtain ⟨t31, t32, rfl, rfl⟩ := hR
  exact rl_nil (fin_block (hJ14 _ (t31, t32) h _ (join_imp 15 rfl rfl mod_nil (.cons .here k4))))
 exact w_skip (fin_block (hJ14 _ (t28, t29) h _ (join_imp 9 rfl rfl mod_nil (.cons .here k4))))

end Go.Proofs.YtiibmpdjkdjbiaaGreatDoor

