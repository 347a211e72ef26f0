/- RefsTell: for every text, name and node the law's model answers true. No condition. -/
import Derived.Test.YtdcdndflfhaejaaDoorRefG
import Derived.KernelRfl
namespace Go.Proofs.YtdcdndflfhaejaaDoor
open Go.Sy
set_option linter.unusedVariables false

/-- What a program that does nothing does not answer: by evaluation. -/
theorem awake_eq : law07_awake = some true := by kernel_rfl

theorem plain_same (l : List Int) (hl : l.length ≤ 1000000) : h_Plain_int l l = some true := by
  refine T.eqs ?_
  unfold h_Plain_int
  refine T.cal (Q := fun r => r = true) ?_ fun r _ hr => T.some hr
  unfold h_Same_int
  refine T.br (fun h => by simp at h) fun _ => ?_
  refine T.lp (fun (k : Int) => 0 ≤ k ∧ k ≤ (l.length : Int)) (fun (k : Int) => ((l.length : Int) - k).toNat) ⟨Int.le_refl _, by omega⟩ (by omega) fun L k ⟨h1, h2⟩ hL => ?_
  refine T.br (fun hb => ?_) fun _ => T.some rfl
  have hb := of_decide_eq_true hb
  refine T.get h1 hb fun y hy => T.get h1 hb fun y' hy' => ?_
  rw [hy] at hy'; cases hy'
  refine T.eq (y := true) (by unfold h_Plain_int_c1; rw [decide_eq_true rfl]) (T.br (fun h => by cases h) fun _ => T.ck (by omega) (hL _ ⟨by omega, by omega⟩ (by omega)))
theorem uses_len {m : GMod} (w : WF m) (t : Int) : (uses m t).length ≤ 40 := by
  have := length_le_of_nodup (a := uses m t) (b := nums m.names.length) (nodup_adds List.nodup_nil) fun x hx => mem_nums.2 (uses_range hx)
  rw [length_nums] at this
  have := w.names
  omega
theorem topo_len (U : Gr) : ∀ k out, (topo U k out).length ≤ out.length + k := by
  intro k
  induction k with
  | zero => intro out; exact Nat.le_refl _
  | succ k ih =>
    intro out
    unfold topo
    split
    · have := ih (out ++ [‹Int›]); rw [List.length_append, List.length_singleton] at this; omega
    · omega
theorem ordr_len {m : GMod} (w : WF m) : (ordr m).1.length ≤ 40 := by
  unfold ordr
  have := w.names
  split
  · have := topo_len (gr m) m.names.length []
    rw [List.length_nil] at this
    dsimp only; omega
  · simp
theorem tell_true (text name : Str) (node : Int) : law07_RefsTell text name node = some true := by
  refine T.eqs ?_
  unfold law07_RefsTell
  refine T.cal (parse_tot text) fun r _ w => ?_
  have hn := w.names
  refine T.jp (fun _ => True) (fun J k => T.br (fun _ => k _ trivial) fun _ => k _ trivial) fun b _ => T.br (fun _ => T.eq awake_eq (T.some rfl)) fun _ => ?_
  refine T.eq (order_eq w) (T.eq (order7_eq w) (T.eq awake_eq ?_))
  refine T.jp (fun b => b = true) (fun J k => T.br (fun _ => T.eq (find_eq _ _ (by omega)) (T.eq (find7_eq _ _ (by omega)) (k _ (decide_eq_true rfl)))) fun h => by cases h) fun b hb => ?_
  refine T.jp (fun b => b = true) (fun J k => T.br (fun _ => T.eq (uses_eq w _) (T.eq (uses7U_eq w _) (T.eq (plain_same _ (by have := uses_len w node; omega)) (k _ rfl)))) fun h => by rw [hb] at h; cases h) fun b hb => ?_
  refine T.jp (fun b => b = true) (fun J k => T.br (fun _ => T.eq (plain_same _ (by have := ordr_len w; omega)) (k _ rfl)) fun h => by rw [hb] at h; cases h) fun b hb => ?_
  refine T.jp (fun b => b = true) (fun J k => T.br (fun _ => k _ (decide_eq_true rfl)) fun h => by rw [hb] at h; cases h) fun b hb => ?_
  refine T.jp (fun b => b = true) (fun J k => T.br (fun _ => k _ (decide_eq_true rfl)) fun h => by rw [hb] at h; cases h) fun b hb => T.some hb
end Go.Proofs.YtdcdndflfhaejaaDoor
