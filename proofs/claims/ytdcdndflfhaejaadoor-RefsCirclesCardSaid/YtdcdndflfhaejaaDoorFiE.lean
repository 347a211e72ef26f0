/- What the laws of this seat share: the tables of utf8, as the rows list them, and a world in which they lie so. No condition: general lemmas. -/
import Derived.Test.YtdcdndflfhaejaaDoorFiA
import Derived.Test.YtdcdndflfhaejaaDoorFiB
import Derived.Test.YtdcdndflfhaejaaDoorFiC
import Derived.Test.YtdcdndflfhaejaaDoorFiD
import Derived.KernelRfl
import Derived.Lib.LaidIn
import Derived.Lib.LaidU8T
import Derived.Deep.DeepHandedRow
import Derived.Deep.DeepWitnessRowRef
import Derived.ProofKit
import Derived.Test.YtdcdndflfhaejaaDoorRows

namespace Go.Proofs.YtdcdndflfhaejaaDoor
open Go.Sy
set_option linter.unusedVariables false

theorem seg {b : List UInt8} {i k : Nat} : (b.take k).drop i = (b.drop i).take (k - i) := by rw [List.drop_take]
theorem get_drop {b : List UInt8} {i n : Nat} {y : UInt8} (h : b[i + n]? = some y) : (b.drop i)[n]? = some y := by rw [List.getElem?_drop, h]
theorem take_snoc {b : List UInt8} {n : Nat} {y : UInt8} (h : b[n]? = some y) : b.take (n + 1) = b.take n ++ [y] := by rw [List.take_add_one, h]; rfl

/-! ### Numbers -/
def dg : List UInt8 → Nat
  | [] => 0
  | c :: r => bif isDigit c then dg r + 1 else 0
theorem dg_cons (c : UInt8) (r : List UInt8) : dg (c :: r) = bif isDigit c then dg r + 1 else 0 := rfl
theorem dg_le : ∀ b : List UInt8, dg b ≤ b.length
  | [] => Nat.le_refl _
  | c :: r => by
    have := dg_le r
    rw [dg_cons]
    cases isDigit c <;> simp <;> omega
/-- Is what stands there, behind a sign perhaps, no number? -/
def numBad (m : Bool) (d : List UInt8) : Bool :=
  decide (dg d < 1) || decide (19 < dg d) || (decide (1 < dg d) && decide (hd d = 48)) || (m && decide (hd d = 48)) || isLetter (hd (d.drop (dg d))) ||
    decide (9223372036854775808 < uval (d.take (dg d))) || (!m && decide (uval (d.take (dg d)) = 9223372036854775808))
def numLen (b : List UInt8) : Option Nat :=
  bif decide (hd b = 45) then bif numBad true (b.drop 1) then none else some (dg (b.drop 1) + 1)
  else bif numBad false b then none else some (dg b)
theorem number_eq (s : Str) (i : Int) (h0 : 0 ≤ i) (h1 : i < s.b.length) (hl : s.b.length ≤ 1000000) :
    r04_number s i = some (match numLen (s.b.drop i.toNat) with
      | none => -1
      | some n => i + (n : Int)) := by
  refine tx ?_
  unfold r04_number
  refine T.get h0 h1 fun y1 hy1 => ?_
  have hd1 : hd (s.b.drop i.toNat) = y1 := by rw [dropc hy1]; rfl
  refine T.jp (fun f => i ≤ f ∧ f ≤ i + 1 ∧ numLen (s.b.drop i.toNat) = (bif numBad (decide (y1 = 45)) (s.b.drop f.toNat) then none else some (dg (s.b.drop f.toNat) + (f - i).toNat))) (fun J h => T.br (fun hb => T.ck (by omega) (h _ ⟨by omega, by omega, ?_⟩)) fun hb => h _ ⟨by omega, by omega, ?_⟩) fun f ⟨f1, f2, f3⟩ => ?_
  · have e1 : (i + 1).toNat = i.toNat + 1 := by omega
    have e2 : (i + 1 - i).toNat = 1 := by omega
    unfold numLen
    rw [hd1, hb, cond_true, e1, e2, List.drop_drop]
  · have e2 : (i - i).toNat = 0 := by omega
    unfold numLen
    rw [hd1, hb, cond_false, e2, Nat.add_zero]
  have hfl : f ≤ s.b.length := by omega
  have hgoal : ∀ k : Int, (dg (s.b.drop f.toNat) : Int) = k - f → (match numLen (s.b.drop i.toNat) with
      | none => -1
      | some n => i + (n : Int)) = bif numBad (decide (y1 = 45)) (s.b.drop f.toNat) then -1 else k := by
    intro k hk
    rw [f3]
    cases numBad (decide (y1 = 45)) (s.b.drop f.toNat) with
    | true => rfl
    | false =>
      show i + ((dg (s.b.drop f.toNat) + (f - i).toNat : Nat) : Int) = k
      omega
  refine T.lp (ι := Int × UInt64) (fun q => f ≤ q.1 ∧ q.1 ≤ s.b.length ∧ (dg (s.b.drop f.toNat) : Int) = q.1 - f + dg (s.b.drop q.1.toNat) ∧ (q.1 - f ≤ 19 → q.2 = uval ((s.b.drop f.toNat).take (q.1.toNat - f.toNat)))) (fun q => (s.b.length - q.1).toNat)
    ⟨Int.le_refl _, hfl, by dsimp only; omega, fun _ => by rw [Nat.sub_self]; rfl⟩ (by simp only; omega) fun L q hq hL => ?_
  obtain ⟨k, v⟩ := q
  obtain ⟨hq1, hq2, hq3, hq4⟩ := hq
  simp only at hq1 hq2 hq3 hq4 ⊢
  refine T.jp (fun b => (b = true → k < s.b.length ∧ (dg (s.b.drop f.toNat) : Int) = k + 1 - f + dg (s.b.drop (k + 1).toNat)) ∧ (b = false → (dg (s.b.drop f.toNat) : Int) = k - f)) (fun J h => ?_) fun b hb => ?_
  · refine T.br (fun h2 => ?_) fun h2 => h _ ⟨(fun h => by cases h), fun _ => ?_⟩
    · have h2 := of_decide_eq_true h2
      have ek : (k + 1).toNat = k.toNat + 1 := by omega
      refine T.get (by omega) h2 fun y hy => T.eq (digit_eq y) (h _ ?_)
      rw [dropc hy, dg_cons] at hq3
      rw [ek]
      refine ⟨fun hd => ⟨h2, ?_⟩, fun hd => ?_⟩
      · rw [hd, cond_true] at hq3; omega
      · rw [hd, cond_false] at hq3; omega
    · have h2 := of_decide_eq_false h2
      rw [List.drop_eq_nil_of_le (as := s.b) (i := k.toNat) (by omega)] at hq3
      simpa [dg] using hq3
  refine T.br (fun h2 => ?_) fun h2 => ?_
  · obtain ⟨hk, hd⟩ := hb.1 h2
    obtain ⟨y, hy⟩ : ∃ y, s.b[k.toNat]? = some y := ⟨_, List.getElem?_eq_getElem (by omega)⟩
    have hsn := take_snoc (b := s.b.drop f.toNat) (n := k.toNat - f.toNat) (y := y) (get_drop (by rw [show f.toNat + (k.toNat - f.toNat) = k.toNat by omega, hy]))
    have hk1 : (k + 1).toNat - f.toNat = k.toNat - f.toNat + 1 := by omega
    refine T.ck (by omega) (T.jp (fun u => k - f < 19 → u = 10 * v + (y - 48).toUInt64) (fun J h => T.br (fun _ => ?_) fun h3 => h _ fun h4 => by have := of_decide_eq_false h3; omega) fun u hu => T.ck (by omega) (hL _ ?_ (by simp only; omega)))
    · exact T.get (by omega) hk fun y' hy' => h _ fun _ => by rw [hy] at hy'; cases hy'; rfl
    · refine ⟨by simp only; omega, by simp only; omega, hd, fun h19 => ?_⟩
      simp only at h19 ⊢
      rw [hk1, hsn, uval_snoc, hu (by omega), hq4 (by omega)]
  have hn := hb.2 h2
  rw [hgoal k hn]
  refine T.ck (by omega) ?_
  have hdn : dg (s.b.drop f.toNat) = k.toNat - f.toNat := by omega
  have hyf : 1 ≤ k - f → ∀ y, s.b[f.toNat]? = some y → hd (s.b.drop f.toNat) = y := fun _ y hy => by rw [dropc hy]; rfl
  refine T.jp (fun b => b = (decide (dg (s.b.drop f.toNat) < 1) || decide (19 < dg (s.b.drop f.toNat)))) (fun J h => T.br (fun h3 => h _ ?_) fun h3 => h _ ?_) fun b1 hb1 => ?_
  · have := of_decide_eq_true h3; rw [decide_eq_true (by omega)]; rfl
  · have := of_decide_eq_false h3; rw [decide_eq_false (show ¬ dg (s.b.drop f.toNat) < 1 by omega), Bool.false_or, decide_eq_decide]; omega
  refine T.jp (fun b => b = (b1 || (decide (1 < dg (s.b.drop f.toNat)) && decide (hd (s.b.drop f.toNat) = 48)))) (fun J h => T.br (fun h3 => h _ (by rw [h3]; rfl)) fun h3 => ?_) fun b2 hb2 => ?_
  · refine T.jp (fun b => b = (decide (1 < dg (s.b.drop f.toNat)) && decide (hd (s.b.drop f.toNat) = 48))) (fun J3 h4 => T.br (fun h5 => ?_) fun h5 => h4 _ ?_) fun b hb => h _ (by rw [h3, hb]; rfl)
    · have h5 := of_decide_eq_true h5
      exact T.get (by omega) (by omega) fun y hy => h4 _ (by rw [decide_eq_true (show 1 < dg (s.b.drop f.toNat) by omega), hyf (by omega) y hy]; rfl)
    · have h5 := of_decide_eq_false h5
      rw [decide_eq_false (show ¬ 1 < dg (s.b.drop f.toNat) by omega)]; rfl
  refine T.jp (fun b => b = (b2 || (decide (y1 = 45) && decide (hd (s.b.drop f.toNat) = 48)))) (fun J h => T.br (fun h3 => h _ (by rw [h3]; rfl)) fun h3 => ?_) fun b3 hb3 => ?_
  · have hge : 1 ≤ k - f := by
      have e1 := (Bool.or_eq_false_iff.1 (hb2.symm.trans h3)).1
      have := of_decide_eq_false (Bool.or_eq_false_iff.1 (hb1.symm.trans e1)).1
      omega
    refine T.jp (fun b => b = (decide (y1 = 45) && decide (hd (s.b.drop f.toNat) = 48))) (fun J3 h4 => T.br (fun h5 => ?_) fun h5 => h4 _ (by rw [h5]; rfl)) fun b hb => h _ (by rw [h3, hb]; rfl)
    exact T.get (by omega) (by omega) fun y hy => h4 _ (by rw [h5, hyf hge y hy]; rfl)
  have hat : r04_at s k = some (hd ((s.b.drop f.toNat).drop (dg (s.b.drop f.toNat)))) := by
    rw [at_eq s k (by omega), List.drop_drop, hdn]
    congr 3; omega
  refine T.jp (fun b => b = (b3 || isLetter (hd ((s.b.drop f.toNat).drop (dg (s.b.drop f.toNat)))))) (fun J h => T.br (fun h3 => h _ (by rw [h3]; rfl)) fun h3 => T.eq hat (T.eq (letter_eq _) (h _ (by rw [h3]; rfl)))) fun b4 hb4 => ?_
  have hv : b4 = false → v = uval ((s.b.drop f.toNat).take (dg (s.b.drop f.toNat))) := fun h => by
    have e3 := (Bool.or_eq_false_iff.1 (hb4.symm.trans h)).1
    have e2 := (Bool.or_eq_false_iff.1 (hb3.symm.trans e3)).1
    have e1 := (Bool.or_eq_false_iff.1 (hb2.symm.trans e2)).1
    have := of_decide_eq_false (Bool.or_eq_false_iff.1 (hb1.symm.trans e1)).2
    rw [hdn]; exact hq4 (by omega)
  refine T.jp (fun b => b = (b4 || decide (9223372036854775808 < uval ((s.b.drop f.toNat).take (dg (s.b.drop f.toNat)))))) (fun J h => T.br (fun h3 => h _ (by rw [h3]; rfl)) fun h3 => h _ (by rw [h3, hv h3]; rfl)) fun b5 hb5 => ?_
  refine T.jp (fun b => b = (b5 || (!decide (y1 = 45) && decide (uval ((s.b.drop f.toNat).take (dg (s.b.drop f.toNat))) = 9223372036854775808)))) (fun J h => T.br (fun h3 => h _ (by rw [h3]; rfl)) fun h3 => ?_) fun b6 hb6 => ?_
  · have e4 := (Bool.or_eq_false_iff.1 (hb5.symm.trans h3)).1
    refine T.jp (fun b => b = (!decide (y1 = 45) && decide (uval ((s.b.drop f.toNat).take (dg (s.b.drop f.toNat))) = 9223372036854775808))) (fun J3 h4 => T.br (fun h5 => h4 _ (by rw [h5, hv e4]; rfl)) fun h5 => h4 _ (by rw [h5]; rfl)) fun b hb => h _ (by rw [h3, hb]; rfl)
  have hall : b6 = numBad (decide (y1 = 45)) (s.b.drop f.toNat) := by
    rw [hb6, hb5, hb4, hb3, hb2, hb1]; rfl
  rw [← hall]
  exact T.br (fun h3 => T.some (by rw [h3]; rfl)) fun h3 => T.some (by rw [h3]; rfl)

/-! ### Hexes -/
def isHex (c : UInt8) : Bool := isDigit c || (decide (65 ≤ c) && decide (c ≤ 70))
def hx : List UInt8 → Nat
  | [] => 0
  | c :: r => bif isHex c then hx r + 1 else 0
theorem hx_cons (c : UInt8) (r : List UInt8) : hx (c :: r) = bif isHex c then hx r + 1 else 0 := rfl
theorem hx_le : ∀ b : List UInt8, hx b ≤ b.length
  | [] => Nat.le_refl _
  | c :: r => by
    have := hx_le r
    rw [hx_cons]
    cases isHex c <;> simp <;> omega
def hexBad (r : List UInt8) : Bool := !decide (hx r % 2 = 0) || !decide (hd (r.drop (hx r)) = 39) || !decide (hd (r.drop (hx r + 1)) = 72)
theorem hd_lt {b : List UInt8} {n : Nat} (h : hd (b.drop n) ≠ 0) : n < b.length := by
  rcases Nat.lt_or_ge n b.length with h2 | h2
  · exact h2
  · rw [List.drop_eq_nil_of_le h2] at h; exact absurd rfl h
theorem hex_eq (s : Str) (i : Int) (h0 : 0 ≤ i) (h1 : i < s.b.length) (hl : s.b.length ≤ 1000000) :
    r04_hex s i = some (bif hexBad (s.b.drop (i.toNat + 1)) then (-1, ⟨[]⟩) else (i + 1 + (hx (s.b.drop (i.toNat + 1)) : Int) + 2, ⟨(s.b.drop (i.toNat + 1)).take (hx (s.b.drop (i.toNat + 1)))⟩)) := by
  refine tx ?_
  unfold r04_hex
  have e0 : (i + 1).toNat = i.toNat + 1 := by omega
  refine T.ck (by omega) (T.lp (fun (k : Int) => i + 1 ≤ k ∧ k ≤ (s.b.length : Int) ∧ (hx (s.b.drop (i.toNat + 1)) : Int) = k - (i + 1) + hx (s.b.drop k.toNat)) (fun (k : Int) => ((s.b.length : Int) - k).toNat) ⟨Int.le_refl _, by omega, by rw [e0]; omega⟩ (by omega) fun L k ⟨k1, k2, k3⟩ hL => ?_)
  refine T.jp (fun b => (b = true → k < s.b.length ∧ (hx (s.b.drop (i.toNat + 1)) : Int) = k + 1 - (i + 1) + hx (s.b.drop (k + 1).toNat)) ∧ (b = false → (hx (s.b.drop (i.toNat + 1)) : Int) = k - (i + 1))) (fun J h => T.br (fun h2 => ?_) fun h2 => h _ ⟨(fun h => by cases h), fun _ => ?_⟩) fun b hb => ?_
  · have h2 := of_decide_eq_true h2
    refine T.get (by omega) h2 fun y hy => T.eq (digit_eq y) ?_
    have ek : (k + 1).toNat = k.toNat + 1 := by omega
    refine T.jp (fun q => q = isHex y) (fun J2 h3 => T.br (fun h4 => h3 _ (by unfold isHex; rw [h4]; rfl)) fun h4 => T.get (by omega) h2 fun y' hy' => ?_) fun q hq => h _ ?_
    · rw [hy] at hy'; cases hy'
      refine T.jp (fun q => q = (decide (65 ≤ y) && decide (y ≤ 70))) (fun J4 h5 => T.br (fun h6 => T.get (by omega) h2 fun y' hy' => h5 _ (by rw [hy] at hy'; cases hy'; rw [h6]; rfl)) fun h6 => h5 _ (by rw [h6]; rfl)) fun q hq => h3 _ (by unfold isHex; rw [h4, hq]; rfl)
    · subst hq
      rw [dropc hy, hx_cons] at k3
      rw [ek]
      refine ⟨fun hd => ⟨h2, ?_⟩, fun hd => ?_⟩
      · rw [hd, cond_true] at k3; omega
      · rw [hd, cond_false] at k3; omega
  · have h2 := of_decide_eq_false h2
    rw [List.drop_eq_nil_of_le (as := s.b) (i := k.toNat) (by omega)] at k3
    simpa [hx] using k3
  refine T.br (fun h2 => T.ck (by have := hb.1 h2; omega) (hL _ ⟨by have := hb.1 h2; omega, by have := hb.1 h2; omega, (hb.1 h2).2⟩ (by have := hb.1 h2; omega))) fun h2 => ?_
  have hn := hb.2 h2
  have hdk : (s.b.drop (i.toNat + 1)).drop (hx (s.b.drop (i.toNat + 1))) = s.b.drop k.toNat := by rw [List.drop_drop]; congr 1; omega
  have hdk1 : (s.b.drop (i.toNat + 1)).drop (hx (s.b.drop (i.toNat + 1)) + 1) = s.b.drop (k + 1).toNat := by rw [List.drop_drop]; congr 1; omega
  refine T.ck (by omega) (T.asr rfl ?_)
  have hmod : decide ((k - (i + 1)).tmod 2 = 0) = decide (hx (s.b.drop (i.toNat + 1)) % 2 = 0) := by
    rw [decide_eq_decide, Int.tmod_eq_emod_of_nonneg (by omega)]
    omega
  refine T.jp (fun b => b = (!decide (hx (s.b.drop (i.toNat + 1)) % 2 = 0) || !decide (hd (s.b.drop k.toNat) = 39))) (fun J h => T.br (fun h3 => h _ (by rw [← hmod, h3]; rfl)) fun h3 => T.eq (at_eq s k (by omega)) (h _ (by rw [← hmod, h3]; rfl))) fun b1 hb1 => ?_
  refine T.jp (fun b => b = hexBad (s.b.drop (i.toNat + 1))) (fun J h => T.br (fun h3 => h _ ?_) fun h3 => T.ck (by omega) (T.eq (at_eq s (k + 1) (by omega)) (h _ ?_))) fun b2 hb2 => ?_
  · unfold hexBad; rw [hdk, ← hb1, h3]; rfl
  · unfold hexBad; rw [hdk, hdk1, ← hb1, h3]; rfl
  rw [← hb2]
  refine T.br (fun h3 => T.some (by rw [h3]; rfl)) fun h3 => ?_
  have hlt : k + 1 < s.b.length := by
    rw [h3] at hb2
    unfold hexBad at hb2
    have := (Bool.or_eq_false_iff.1 hb2.symm).2
    have h72 : hd (s.b.drop (k + 1).toNat) = 72 := by rw [hdk1] at this; simpa using this
    have := hd_lt (b := s.b) (n := (k + 1).toNat) (by rw [h72]; decide)
    omega
  refine T.ck (by omega) (T.asd (by omega) (T.some ?_))
  rw [h3, cond_false, seg, e0]
  have e5 : k.toNat - (i.toNat + 1) = hx (s.b.drop (i.toNat + 1)) := by omega
  rw [e5, hn]
  have e6 : i + 1 + (k - (i + 1)) + 2 = k + 2 := by omega
  rw [e6]

/-! ### Strings -/
def qd : Bool → List UInt8 → List UInt8 → Option (List UInt8 × List UInt8)
  | _, [], _ => none
  | true, _ :: r, acc => qd false r (acc ++ [34])
  | false, c :: r, acc => bif decide (c = 34) then bif decide (hd r = 34) then qd true r acc else bif Lib.validD acc then some (acc, r) else none else qd false r (acc ++ [c])
theorem quoted_eq (s : Str) (i : Int) (h0 : 0 ≤ i) (h1 : i < s.b.length) (hl : s.b.length ≤ 1000000) :
    r04_quoted s i = some (match qd false (s.b.drop (i.toNat + 1)) [] with
      | none => (-1, ⟨[]⟩)
      | some (t, r) => ((s.b.length : Int) - (r.length : Int), ⟨t⟩)) := by
  refine tx ?_
  unfold r04_quoted
  have e0 : (i + 1).toNat = i.toNat + 1 := by omega
  refine T.ck (by omega) (T.lp (ι := Int × Str) (fun q => i + 1 ≤ q.1 ∧ q.1 ≤ s.b.length + 1 ∧ (q.2.b.length : Int) < q.1 ∧ qd false (s.b.drop (i.toNat + 1)) [] = qd false (s.b.drop q.1.toNat) q.2.b) (fun q => (s.b.length + 1 - q.1).toNat) ⟨Int.le_refl _, by dsimp only; omega, by dsimp only; simp only [List.length_nil]; omega, by dsimp only; rw [e0]⟩ (by dsimp only; omega) fun L q hq hL => ?_)
  obtain ⟨k, o⟩ := q
  obtain ⟨hq1, hq2, hq3, hq4⟩ := hq
  simp only at hq1 hq2 hq3 hq4 ⊢
  rw [hq4] at hL ⊢
  refine T.br (fun h2 => ?_) fun h2 => T.some ?_
  rotate_left
  · have h2 := of_decide_eq_false h2
    rw [List.drop_eq_nil_of_le (by omega)]; simp only [qd]
  have h2 := of_decide_eq_true h2
  have ek : (k + 1).toNat = k.toNat + 1 := by omega
  refine T.jp (fun (q : Int × Str) => k ≤ q.1 ∧ q.1 < (s.b.length : Int) ∧ (q.2.b.length : Int) < q.1 + 1 ∧ qd false (s.b.drop k.toNat) o.b = qd false (s.b.drop (q.1 + 1).toNat) q.2.b) (fun J h => ?_) fun q hq => ?_
  · refine T.get (by omega) h2 fun y hy => T.br (fun h3 => ?_) fun h3 => ?_
    · have h34 : decide (y = 34) = false := by simpa using h3
      have ey : (s.b.take (k + 1).toNat).drop k.toNat = [y] := by
        rw [seg, ek, dropc hy, show k.toNat + 1 - k.toNat = 1 by omega]; rfl
      refine T.ck (by omega) (T.asd (by omega) (T.abl ?_ (h _ ⟨Int.le_refl _, h2, ?_, ?_⟩)))
      · simp only [List.length_drop, List.length_take]; omega
      · simp only [List.length_append, List.length_drop, List.length_take]; omega
      · dsimp only
        rw [ey, ek]
        conv => lhs; rw [dropc hy]
        simp only [qd, h34, cond_false]
    · have h34 : decide (y = 34) = true := by simpa using h3
      refine T.ck (by omega) (T.eq (at_eq s (k + 1) (by omega)) (T.br (fun h4 => ?_) fun h4 => ?_))
      · have hn : decide (hd (s.b.drop (k.toNat + 1)) = 34) = false := by rw [ek] at h4; simpa using h4
        refine T.eq rfl (T.br (fun h5 => T.some ?_) fun h5 => T.ck (by omega) (T.some ?_))
        · have h5 : Lib.validD o.b = false := by simpa using h5
          conv => rhs; rw [dropc hy]
          simp only [qd, h34, cond_true, hn, cond_false, h5]
        · have h5 : Lib.validD o.b = true := by simpa using h5
          conv => rhs; rw [dropc hy]
          simp only [qd, h34, cond_true, hn, cond_false, h5, List.length_drop]
          congr 1; omega
      · have hn : hd (s.b.drop (k.toNat + 1)) = 34 := by rw [ek] at h4; simpa using h4
        have hlt := hd_lt (b := s.b) (n := k.toNat + 1) (by rw [hn]; decide)
        obtain ⟨c, ec⟩ := skip1 hlt
        refine T.abl ?_ (T.ck (by omega) (h _ ⟨by dsimp only; omega, by dsimp only; omega, ?_, ?_⟩))
        · simp only [List.length_cons, List.length_nil]; omega
        · simp only [List.length_append, List.length_cons, List.length_nil]; omega
        · dsimp only
          rw [show (k + 1 + 1).toNat = k.toNat + 1 + 1 by omega]
          conv => lhs; rw [dropc hy]
          simp only [qd, h34, cond_true, decide_eq_true hn]
          rw [ec]; simp only [qd]
  · exact T.ck (by omega) (hL _ ⟨by dsimp only; omega, by dsimp only; omega, hq.2.2.1, hq.2.2.2⟩ (by dsimp only; omega))
end Go.Proofs.YtdcdndflfhaejaaDoor


namespace Go.Proofs.YtdcdndflfhaejaaDoor
open Go.Sy
set_option linter.unusedVariables false

/-! ### Signs -/
def isPre : List UInt8 → List UInt8 → Bool
  | [], _ => true
  | _ :: _, [] => false
  | p :: ps, c :: r => bif decide (p = c) then isPre ps r else false
def sgF : List (List UInt8) → List UInt8 → Nat
  | [], _ => 0
  | p :: ps, b => bif isPre p b then p.length else sgF ps b
def sgs : List (List UInt8) := [[58, 58, 61], [46, 46, 46], [46, 46], [91, 91], [93, 93], [123], [125], [91], [93], [40], [41], [44], [58]]
def sg (b : List UInt8) : Nat := sgF sgs b
theorem isPre_iff : ∀ (p b : List UInt8), isPre p b = true ↔ p.length ≤ b.length ∧ b.take p.length = p
  | [], b => by simp [isPre]
  | _ :: _, [] => by simp [isPre]
  | p :: ps, c :: r => by
    have ih := isPre_iff ps r
    unfold isPre
    by_cases h : p = c
    · subst h; simp [ih]
    · simp only [decide_eq_false h, cond_false, List.length_cons, List.take_succ_cons, List.cons.injEq]
      exact ⟨(fun h => by cases h), fun h2 => absurd h2.2.1.symm h⟩
theorem sgs_get {k : Nat} {y : Str} (h : ([(Str.mk [58, 58, 61]), (Str.mk [46, 46, 46]), (Str.mk [46, 46]), (Str.mk [91, 91]), (Str.mk [93, 93]), (Str.mk [123]), (Str.mk [125]), (Str.mk [91]), (Str.mk [93]), (Str.mk [40]), (Str.mk [41]), (Str.mk [44]), (Str.mk [58])] : List Str)[k]? = some y) : sgs.drop k = y.b :: sgs.drop (k + 1) := by
  have e : ([(Str.mk [58, 58, 61]), (Str.mk [46, 46, 46]), (Str.mk [46, 46]), (Str.mk [91, 91]), (Str.mk [93, 93]), (Str.mk [123]), (Str.mk [125]), (Str.mk [91]), (Str.mk [93]), (Str.mk [40]), (Str.mk [41]), (Str.mk [44]), (Str.mk [58])] : List Str) = sgs.map Str.mk := rfl
  rw [e, List.getElem?_map] at h
  obtain ⟨z, h1, h2⟩ := Option.map_eq_some_iff.1 h
  subst h2
  obtain ⟨h3, h4⟩ := List.getElem?_eq_some_iff.1 h1
  rw [List.drop_eq_getElem_cons h3, h4]
theorem sign_eq (s : Str) (i : Int) (h0 : 0 ≤ i) (h1 : i < s.b.length) (hl : s.b.length ≤ 1000000) : r04_sign s i = some ((sg (s.b.drop i.toNat) : Nat) : Int) := by
  refine tx ?_
  unfold r04_sign
  refine T.asd (by omega) (T.lp (fun (k : Int) => 0 ≤ k ∧ k ≤ 13 ∧ sgF (sgs.drop k.toNat) (s.b.drop i.toNat) = sg (s.b.drop i.toNat)) (fun (k : Int) => (13 - k).toNat) ⟨Int.le_refl _, by omega, rfl⟩ (by omega) fun L k ⟨k1, k2, k3⟩ hL => ?_)
  have er : (s.b.take ((s.b.length : Int)).toNat).drop i.toNat = s.b.drop i.toNat := by rw [List.take_of_length_le (by omega)]
  refine T.br (fun h2 => ?_) fun h2 => T.some ?_
  rotate_left
  · have h2 : ¬ k < 13 := of_decide_eq_false h2
    have : k = 13 := by omega
    subst this
    rw [← k3]; rfl
  have h2 := of_decide_eq_true h2
  refine T.get k1 h2 fun y hy => ?_
  have hs := sgs_get hy
  rw [hs] at k3
  unfold sgF at k3
  rw [er]
  refine T.jp (fun b => b = isPre y.b (s.b.drop i.toNat)) (fun J h => T.br (fun h3 => ?_) fun h3 => h _ ?_) fun b hb => ?_
  · have h3 := of_decide_eq_true h3
    refine T.asd ⟨Int.le_refl _, by omega, h3⟩ (T.get k1 h2 fun y2 hy2 => h _ ?_)
    rw [hy] at hy2; cases hy2
    have h4 : y.b.length ≤ (s.b.drop i.toNat).length := by simp only [List.length_drop] at h3 ⊢; omega
    rw [Bool.eq_iff_iff, decide_eq_true_eq, isPre_iff]
    constructor
    · intro h5
      refine ⟨h4, ?_⟩
      have := congrArg Str.b h5
      simpa using this
    · intro h5
      obtain ⟨yb⟩ := y
      simp only [Str.mk.injEq]
      simpa using h5.2
  · have h3 := of_decide_eq_false h3
    symm
    rw [Bool.eq_false_iff]
    intro h5
    have := (isPre_iff _ _).1 h5
    simp only [List.length_drop] at h3 this
    omega
  · rw [hb]
    refine T.br (fun h3 => T.some ?_) fun h3 => T.ck (by have h2 : k < 13 := h2; omega) (hL _ ⟨by omega, by have h2 : k < 13 := h2; omega, ?_⟩ (by have h2 : k < 13 := h2; omega))
    · rw [h3, cond_true] at k3; rw [← k3]
    · rw [h3, cond_false] at k3
      have e : (k + 1).toNat = k.toNat + 1 := by omega
      rw [e, k3]

/-! ### Words -/
def wordsL : List Str := [(Str.mk [68, 69, 70, 73, 78, 73, 84, 73, 79, 78, 83]), (Str.mk [69, 88, 80, 76, 73, 67, 73, 84]), (Str.mk [73, 77, 80, 76, 73, 67, 73, 84]), (Str.mk [65, 85, 84, 79, 77, 65, 84, 73, 67]), (Str.mk [84, 65, 71, 83]), (Str.mk [66, 69, 71, 73, 78]), (Str.mk [69, 78, 68]), (Str.mk [66, 79, 79, 76, 69, 65, 78]), (Str.mk [73, 78, 84, 69, 71, 69, 82]), (Str.mk [69, 78, 85, 77, 69, 82, 65, 84, 69, 68]), (Str.mk [78, 85, 76, 76]), (Str.mk [79, 67, 84, 69, 84]), (Str.mk [83, 84, 82, 73, 78, 71]), (Str.mk [85, 84, 70, 56, 83, 116, 114, 105, 110, 103]), (Str.mk [83, 69, 81, 85, 69, 78, 67, 69]), (Str.mk [83, 69, 84]), (Str.mk [67, 72, 79, 73, 67, 69]), (Str.mk [79, 70]), (Str.mk [79, 80, 84, 73, 79, 78, 65, 76]), (Str.mk [68, 69, 70, 65, 85, 76, 84]), (Str.mk [83, 73, 90, 69]), (Str.mk [77, 73, 78]), (Str.mk [77, 65, 88]), (Str.mk [84, 82, 85, 69]), (Str.mk [70, 65, 76, 83, 69])]
def sameB : List UInt8 → List UInt8 → Bool
  | [], [] => true
  | a :: r, b :: t => bif decide (a = b) then sameB r t else false
  | _, _ => false
theorem sameB_iff : ∀ a b : List UInt8, sameB a b = true ↔ a = b
  | [], [] => by simp [sameB]
  | [], _ :: _ => by simp [sameB]
  | _ :: _, [] => by simp [sameB]
  | a :: r, b :: t => by
    have ih := sameB_iff r t
    unfold sameB
    by_cases h : a = b
    · subst h; simp [ih]
    · simp [h]
def isWord (t : List UInt8) : Bool := wordsL.any fun w => sameB w.b t
theorem word_eq (s : Str) : r04_Word s = some (isWord s.b) := by
  refine tx ?_
  unfold r04_Word
  refine T.eq (y := wordsL) rfl (T.cal (in_string_tot wordsL s (by decide)) fun y _ hy => T.some ?_)
  rw [hy, Bool.eq_iff_iff, decide_eq_true_eq]
  unfold isWord
  rw [List.any_eq_true]
  constructor
  · intro h; exact ⟨s, h, (sameB_iff _ _).2 rfl⟩
  · rintro ⟨w, h1, h2⟩
    have := (sameB_iff _ _).1 h2
    obtain ⟨wb⟩ := w; obtain ⟨sb⟩ := s
    simp only at this; subst this; exact h1

/-! ### One sign, all signs -/
/-- The kind and the text of what comes first, and what is left behind it. -/
def oneS (b : List UInt8) : Option (Int × List UInt8 × List UInt8) :=
  let c := hd b
  bif isLetter c then bif nmBad b then none else some (bif isWord (b.take (nm b)) then 5 else bif decide (c ≤ 90) then 1 else 2, b.take (nm b), b.drop (nm b))
  else bif isDigit c || (decide (c = 45) && isDigit (hd (b.drop 1))) then match numLen b with
    | none => none
    | some n => some (3, b.take n, b.drop n)
  else bif decide (c = 39) then bif hexBad (b.drop 1) then none else some (4, (b.drop 1).take (hx (b.drop 1)), (b.drop 1).drop (hx (b.drop 1) + 2))
  else bif decide (c = 34) then match qd false (b.drop 1) [] with
    | none => none
    | some (t, r) => some (7, t, r)
  else bif decide (0 < sg b) then some (6, b.take (sg b), b.drop (sg b)) else none
theorem qd_len : ∀ (b : List UInt8) (f : Bool) (acc t r : List UInt8), qd f b acc = some (t, r) → r.length < b.length
  | [], f, acc, t, r, h => by cases f <;> simp [qd] at h
  | c :: b, true, acc, t, r, h => by
    simp only [qd] at h
    have := qd_len b _ _ _ _ h
    simp; omega
  | c :: b, false, acc, t, r, h => by
    simp only [qd] at h
    by_cases h1 : c = 34
    · simp only [decide_eq_true h1, cond_true] at h
      by_cases h2 : hd b = 34
      · simp only [decide_eq_true h2, cond_true] at h
        have := qd_len b _ _ _ _ h
        simp; omega
      · simp only [decide_eq_false h2, cond_false] at h
        cases hv : Lib.validD acc with
        | true => rw [hv] at h; simp at h; rw [← h.2]; simp
        | false => rw [hv] at h; cases h
    · simp only [decide_eq_false h1, cond_false] at h
      have := qd_len b _ _ _ _ h
      simp; omega
theorem numLen_bd {b : List UInt8} {n : Nat} (h : numLen b = some n) : 0 < n ∧ n ≤ b.length := by
  unfold numLen at h
  by_cases h1 : hd b = 45
  · simp only [decide_eq_true h1, cond_true] at h
    cases hb : numBad true (b.drop 1) with
    | true => rw [hb] at h; cases h
    | false =>
      rw [hb] at h; simp only [cond_false, Option.some.injEq] at h
      have := dg_le (b.drop 1)
      rw [List.length_drop] at this
      have : b ≠ [] := fun e => by rw [e] at h1; cases h1
      have := List.length_pos_iff.2 this
      omega
  · simp only [decide_eq_false h1, cond_false] at h
    cases hb : numBad false b with
    | true => rw [hb] at h; cases h
    | false =>
      rw [hb] at h; simp at h
      have := dg_le b
      have : decide (dg b < 1) = false := by
        unfold numBad at hb
        simp only [Bool.or_eq_false_iff] at hb
        exact hb.1.1.1.1.1.1
      have := of_decide_eq_false this
      omega
theorem nm_pos {b : List UInt8} (h : isLetter (hd b) = true) : 0 < nm b := by
  cases b with
  | nil => simp [hd, isLetter] at h
  | cons c r =>
    rw [nm_cons]
    simp only [hd] at h
    unfold inName
    rw [h]; simp
theorem sg_le : ∀ (l : List (List UInt8)) (b : List UInt8), sgF l b ≤ b.length
  | [], b => Nat.zero_le _
  | p :: ps, b => by
    unfold sgF
    cases h : isPre p b with
    | true => exact ((isPre_iff _ _).1 h).1
    | false => exact sg_le ps b
theorem oneS_len {b t r : List UInt8} {k : Int} (h : oneS b = some (k, t, r)) : r.length < b.length := by
  unfold oneS at h
  simp only at h
  cases h1 : isLetter (hd b) with
  | true =>
    rw [h1, cond_true] at h
    cases h2 : nmBad b with
    | true => rw [h2] at h; cases h
    | false =>
      rw [h2] at h
      simp only [cond_false, Option.some.injEq, Prod.mk.injEq] at h
      rw [← h.2.2, List.length_drop]
      have := nm_pos h1
      have := nm_le b
      omega
  | false =>
    rw [h1, cond_false] at h
    cases h2 : isDigit (hd b) || (decide (hd b = 45) && isDigit (hd (b.drop 1))) with
    | true =>
      rw [h2, cond_true] at h
      cases h3 : numLen b with
      | none => rw [h3] at h; cases h
      | some n =>
        rw [h3] at h
        simp only [Option.some.injEq, Prod.mk.injEq] at h
        have := numLen_bd h3
        rw [← h.2.2, List.length_drop]; omega
    | false =>
      rw [h2, cond_false] at h
      by_cases h3 : hd b = 39
      · rw [decide_eq_true h3, cond_true] at h
        cases h4 : hexBad (b.drop 1) with
        | true => rw [h4] at h; cases h
        | false =>
          rw [h4] at h
          simp only [cond_false, Option.some.injEq, Prod.mk.injEq] at h
          have : b ≠ [] := fun e => by rw [e] at h3; cases h3
          have := List.length_pos_iff.2 this
          rw [← h.2.2, List.length_drop, List.length_drop]; omega
      · rw [decide_eq_false h3, cond_false] at h
        by_cases h4 : hd b = 34
        · rw [decide_eq_true h4, cond_true] at h
          cases h5 : qd false (b.drop 1) [] with
          | none => rw [h5] at h; cases h
          | some q =>
            rw [h5] at h
            obtain ⟨t', r'⟩ := q
            simp only [Option.some.injEq, Prod.mk.injEq] at h
            have := qd_len _ _ _ _ _ h5
            rw [List.length_drop] at this
            rw [← h.2.2]; omega
        · rw [decide_eq_false h4, cond_false] at h
          by_cases h5 : 0 < sg b
          · rw [decide_eq_true h5, cond_true] at h
            simp only [Option.some.injEq, Prod.mk.injEq] at h
            have := sg_le sgs b
            have e : sgF sgs b = sg b := rfl
            rw [← h.2.2, List.length_drop]; omega
          · rw [decide_eq_false h5] at h; cases h
theorem one_eq (s : Str) (i : Int) (h0 : 0 ≤ i) (h1 : i < s.b.length) (hl : s.b.length ≤ 1000000) :
    T (fun (q : GTok × Int) => match oneS (s.b.drop i.toNat) with
      | none => q.2 < 0
      | some (k, t, r) => q = (⟨k, ⟨t⟩, i⟩, (s.b.length : Int) - (r.length : Int))) (r04_one s i) := by
  unfold r04_one
  refine T.get h0 h1 fun y hy => ?_
  have ed := dropc hy
  have hy0 : hd (s.b.drop i.toNat) = y := by rw [ed]; rfl
  have ed1 : (s.b.drop i.toNat).drop 1 = s.b.drop (i.toNat + 1) := by rw [List.drop_drop]
  have elen : (s.b.drop i.toNat).length = s.b.length - i.toNat := List.length_drop
  have etake : ∀ (n : Nat), (s.b.take (i + (n : Int)).toNat).drop i.toNat = (s.b.drop i.toNat).take n := fun n => by
    rw [seg]; congr 1; omega
  have erest : ∀ (n : Nat), n ≤ (s.b.drop i.toNat).length → i + (n : Int) = (s.b.length : Int) - (((s.b.drop i.toNat).drop n).length : Int) := fun n hn => by
    rw [List.length_drop, elen]; rw [elen] at hn; omega
  refine T.jp (ι := Int × GTok) (fun (q : Int × GTok) => match oneS (s.b.drop i.toNat) with
      | none => q.1 < 0
      | some (k, t, r) => (q.2, q.1) = (⟨k, ⟨t⟩, i⟩, (s.b.length : Int) - (r.length : Int))) (fun J h => ?_) fun q hq => T.some hq
  unfold oneS at h ⊢
  simp only [hy0] at h ⊢
  refine T.eq (letter_eq y) (T.br (fun hle => ?_) fun hle => T.eq (digit_eq y) ?_)
  · rw [hle, cond_true] at h ⊢
    have hcl : isLetter (hd (s.b.drop i.toNat)) = true := by rw [hy0]; exact hle
    refine T.eq (name_eq s i h0 h1 hl hcl) ?_
    cases hb : nmBad (s.b.drop i.toNat) with
    | true =>
      rw [hb, cond_true] at h
      simp only [cond_true] at h ⊢
      exact T.br (fun _ => T.some (by dsimp only; omega)) fun hn => by have := of_decide_eq_false hn; omega
    | false =>
      rw [hb, cond_false] at h
      simp only [cond_false] at h ⊢
      have hnl := nm_le (s.b.drop i.toNat)
      rw [elen] at hnl
      refine T.br (fun hn => by have := of_decide_eq_true hn; omega) fun _ => T.asd (by omega) ?_
      rw [etake]
      refine T.jp (ι := GTok) (fun t => t = ⟨bif decide (y ≤ 90) then 1 else 2, ⟨(s.b.drop i.toNat).take (nm (s.b.drop i.toNat))⟩, i⟩) (fun J2 h2 => T.br (fun h3 => h2 _ (by rw [h3]; rfl)) fun h3 => h2 _ (by rw [h3]; rfl)) fun t ht => ?_
      subst ht
      refine T.eq (word_eq _) (T.br (fun h3 => h _ ?_) fun h3 => h _ ?_)
      · dsimp only at h3 ⊢; rw [h3, ← erest _ (nm_le _)]; rfl
      · dsimp only at h3 ⊢; rw [h3, ← erest _ (nm_le _)]; rfl
  · rw [hle, cond_false] at h ⊢
    refine T.jp (fun b => b = (isDigit y || (decide (y = 45) && isDigit (hd ((s.b.drop i.toNat).drop 1))))) (fun J2 h2 => T.br (fun h3 => h2 _ (by rw [h3]; rfl)) fun h3 => ?_) fun b hb => ?_
    · refine T.jp (fun b => b = (decide (y = 45) && isDigit (hd ((s.b.drop i.toNat).drop 1)))) (fun J3 h4 => T.br (fun h5 => T.ck (by omega) (T.eq (at_eq s (i + 1) (by omega)) (T.eq (digit_eq _) (h4 _ ?_)))) fun h5 => h4 _ (by rw [h5]; rfl)) fun b hb => h2 _ (by rw [h3, hb]; rfl)
      rw [h5, ed1, show (i + 1).toNat = i.toNat + 1 by omega]; rfl
    rw [← hb] at h ⊢
    refine T.br (fun h3 => T.eq (number_eq s i h0 h1 hl) ?_) fun h3 => ?_
    · rw [h3, cond_true] at h ⊢
      cases hn : numLen (s.b.drop i.toNat) with
      | none =>
        simp only [hn] at h ⊢
        exact T.br (fun _ => T.some (by dsimp only; omega)) fun hn => by have := of_decide_eq_false hn; omega
      | some n =>
        simp only [hn] at h ⊢
        have hbd := numLen_bd hn
        have hbd2 := hbd.2
        rw [elen] at hbd2
        refine T.br (fun hn => by have := of_decide_eq_true hn; omega) fun _ => T.asd (by omega) (h _ ?_)
        rw [etake, ← erest n hbd.2]
    · rw [h3, cond_false] at h ⊢
      refine T.br (fun h4 => T.eq (hex_eq s i h0 h1 hl) (h _ ?_)) fun h4 => ?_
      · rw [h4, cond_true, ed1]
        cases hb : hexBad (s.b.drop (i.toNat + 1)) with
        | true => simp only [cond_true]; omega
        | false =>
          simp only [cond_false]
          have h5 : hx (s.b.drop (i.toNat + 1)) + 1 < (s.b.drop (i.toNat + 1)).length := by
            unfold hexBad at hb
            have := (Bool.or_eq_false_iff.1 hb).2
            have h72 : hd ((s.b.drop (i.toNat + 1)).drop (hx (s.b.drop (i.toNat + 1)) + 1)) = 72 := by simpa using this
            exact hd_lt (by rw [h72]; decide)
          rw [List.length_drop] at h5
          rw [List.length_drop, List.length_drop]
          have e : i + 1 + (hx (s.b.drop (i.toNat + 1)) : Int) + 2 = (s.b.length : Int) - ((s.b.length - (i.toNat + 1) - (hx (s.b.drop (i.toNat + 1)) + 2) : Nat) : Int) := by omega
          rw [e]
      · rw [h4, cond_false] at h ⊢
        refine T.br (fun h5 => T.eq (quoted_eq s i h0 h1 hl) (h _ ?_)) fun h5 => ?_
        · rw [h5, cond_true, ed1]
          cases hq : qd false (s.b.drop (i.toNat + 1)) [] with
          | none => simp only; omega
          | some q => rfl
        · rw [h5, cond_false] at h ⊢
          refine T.eq (sign_eq s i h0 h1 hl) (T.br (fun h6 => ?_) fun h6 => h _ ?_)
          · have h6 := of_decide_eq_true h6
            have hsl := sg_le sgs (s.b.drop i.toNat)
            have esg : sgF sgs (s.b.drop i.toNat) = sg (s.b.drop i.toNat) := rfl
            have hpos : 0 < sg (s.b.drop i.toNat) := by omega
            have hsl2 := hsl
            rw [elen] at hsl2
            refine T.ck (by omega) (T.asd (by omega) (T.ck (by omega) (h _ ?_)))
            rw [decide_eq_true hpos, cond_true]
            dsimp only
            rw [etake, ← erest (sg (s.b.drop i.toNat)) hsl]
          · have h6 := of_decide_eq_false h6
            rw [decide_eq_false (show ¬ 0 < sg (s.b.drop i.toNat) by omega)]
            simp only [cond_false]; omega

def toksF (n : Nat) : Nat → List UInt8 → List GTok → List GTok × Int × Int
  | 0, _, _ => ([], 0, 0)
  | f + 1, b, acc => match wh .out b with
    | [] => (acc ++ [⟨0, ⟨[]⟩, (n : Int)⟩], 0, 0)
    | c :: r => match oneS (c :: r) with
      | none => ([], (n : Int) - ((c :: r).length : Int), 6)
      | some (k, t, r') => toksF n f r' (acc ++ [⟨k, ⟨t⟩, (n : Int) - ((c :: r).length : Int)⟩])
theorem toksF_succ (n f : Nat) (b : List UInt8) (acc : List GTok) : toksF n (f + 1) b acc = match wh .out b with
    | [] => (acc ++ [⟨0, ⟨[]⟩, (n : Int)⟩], 0, 0)
    | c :: r => match oneS (c :: r) with
      | none => ([], (n : Int) - ((c :: r).length : Int), 6)
      | some (k, t, r') => toksF n f r' (acc ++ [⟨k, ⟨t⟩, (n : Int) - ((c :: r).length : Int)⟩]) := rfl
/-- The signs of a text, or where what is none begins. -/
def toks (b : List UInt8) : List GTok × Int × Int := bif decide (8000 < b.length) then ([], 0, 5) else toksF b.length (b.length + 1) b []
theorem wh_len : ∀ (b : List UInt8) (st : Wst), (wh st b).length ≤ b.length
  | [], st => by cases st <;> simp [wh]
  | c :: r, .out => by
    have h1 := wh_len r .out
    have h2 := wh_len r .start
    simp only [wh]
    cases isWh c <;> simp only [cond_true, cond_false]
    · cases decide (c = 45) && decide (hd r = 45) <;> simp only [cond_true, cond_false, List.length_cons] <;> omega
    · simp only [List.length_cons]; omega
  | c :: r, .start => by have := wh_len r .ins; simp only [wh, List.length_cons]; omega
  | c :: r, .ins => by
    have h1 := wh_len r .out
    have h2 := wh_len r .fin
    have h3 := wh_len r .ins
    simp only [wh, List.length_cons]
    cases decide (c = 10) <;> simp only [cond_true, cond_false]
    · cases decide (c = 45) && decide (hd r = 45) <;> simp only [cond_true, cond_false] <;> omega
    · omega
  | c :: r, .fin => by have := wh_len r .out; simp only [wh, List.length_cons]; omega
theorem wh_suf : ∀ (b : List UInt8) (st : Wst), ∃ n, wh st b = b.drop n
  | [], st => ⟨0, by cases st <;> simp [wh]⟩
  | c :: r, .out => by
    obtain ⟨n1, h1⟩ := wh_suf r .out
    obtain ⟨n2, h2⟩ := wh_suf r .start
    simp only [wh]
    cases isWh c <;> simp only [cond_true, cond_false]
    · cases decide (c = 45) && decide (hd r = 45) <;> simp only [cond_true, cond_false]
      · exact ⟨0, rfl⟩
      · exact ⟨n2 + 1, h2⟩
    · exact ⟨n1 + 1, h1⟩
  | c :: r, .start => by obtain ⟨n, h⟩ := wh_suf r .ins; exact ⟨n + 1, h⟩
  | c :: r, .ins => by
    obtain ⟨n1, h1⟩ := wh_suf r .out
    obtain ⟨n2, h2⟩ := wh_suf r .fin
    obtain ⟨n3, h3⟩ := wh_suf r .ins
    simp only [wh]
    cases decide (c = 10) <;> simp only [cond_true, cond_false]
    · cases decide (c = 45) && decide (hd r = 45) <;> simp only [cond_true, cond_false]
      · exact ⟨n3 + 1, h3⟩
      · exact ⟨n2 + 1, h2⟩
    · exact ⟨n1 + 1, h1⟩
  | c :: r, .fin => by obtain ⟨n, h⟩ := wh_suf r .out; exact ⟨n + 1, h⟩
theorem qd_suf : ∀ (b : List UInt8) (f : Bool) (acc t r : List UInt8), qd f b acc = some (t, r) → ∃ n, r = b.drop n
  | [], f, acc, t, r, h => by cases f <;> simp [qd] at h
  | c :: b, true, acc, t, r, h => by
    simp only [qd] at h
    obtain ⟨n, e⟩ := qd_suf b _ _ _ _ h
    exact ⟨n + 1, e⟩
  | c :: b, false, acc, t, r, h => by
    simp only [qd] at h
    by_cases h1 : c = 34
    · simp only [decide_eq_true h1, cond_true] at h
      by_cases h2 : hd b = 34
      · simp only [decide_eq_true h2, cond_true] at h
        obtain ⟨n, e⟩ := qd_suf b _ _ _ _ h
        exact ⟨n + 1, e⟩
      · simp only [decide_eq_false h2, cond_false] at h
        cases hv : Lib.validD acc with
        | true => rw [hv] at h; simp at h; exact ⟨1, h.2.symm⟩
        | false => rw [hv] at h; cases h
    · simp only [decide_eq_false h1, cond_false] at h
      obtain ⟨n, e⟩ := qd_suf b _ _ _ _ h
      exact ⟨n + 1, e⟩
theorem oneS_suf {b t r : List UInt8} {k : Int} (h : oneS b = some (k, t, r)) : ∃ n, r = b.drop n := by
  unfold oneS at h
  simp only at h
  cases h1 : isLetter (hd b) with
  | true =>
    rw [h1, cond_true] at h
    cases h2 : nmBad b with
    | true => rw [h2] at h; cases h
    | false =>
      rw [h2] at h
      simp only [cond_false, Option.some.injEq, Prod.mk.injEq] at h
      exact ⟨_, h.2.2.symm⟩
  | false =>
    rw [h1, cond_false] at h
    cases h2 : isDigit (hd b) || (decide (hd b = 45) && isDigit (hd (b.drop 1))) with
    | true =>
      rw [h2, cond_true] at h
      cases h3 : numLen b with
      | none => rw [h3] at h; cases h
      | some n =>
        rw [h3] at h
        simp only [Option.some.injEq, Prod.mk.injEq] at h
        exact ⟨_, h.2.2.symm⟩
    | false =>
      rw [h2, cond_false] at h
      by_cases h3 : hd b = 39
      · rw [decide_eq_true h3, cond_true] at h
        cases h4 : hexBad (b.drop 1) with
        | true => rw [h4] at h; cases h
        | false =>
          rw [h4] at h
          simp only [cond_false, Option.some.injEq, Prod.mk.injEq, List.drop_drop] at h
          exact ⟨_, h.2.2.symm⟩
      · rw [decide_eq_false h3, cond_false] at h
        by_cases h4 : hd b = 34
        · rw [decide_eq_true h4, cond_true] at h
          cases h5 : qd false (b.drop 1) [] with
          | none => rw [h5] at h; cases h
          | some q =>
            rw [h5] at h
            obtain ⟨t', r'⟩ := q
            simp only [Option.some.injEq, Prod.mk.injEq] at h
            obtain ⟨n, e⟩ := qd_suf _ _ _ _ _ h5
            rw [List.drop_drop] at e
            exact ⟨_, h.2.2.symm.trans e⟩
        · rw [decide_eq_false h4, cond_false] at h
          by_cases h5 : 0 < sg b
          · rw [decide_eq_true h5, cond_true] at h
            simp only [Option.some.injEq, Prod.mk.injEq] at h
            exact ⟨_, h.2.2.symm⟩
          · rw [decide_eq_false h5] at h; cases h
theorem suf_drop {b r : List UInt8} {n : Nat} (h : r = b.drop n) : b.drop (b.length - r.length) = r := by
  subst h
  rw [List.length_drop]
  rcases Nat.lt_or_ge b.length n with h2 | h2
  · rw [List.drop_eq_nil_of_le (show b.length ≤ n by omega), List.drop_eq_nil_of_le (by omega)]
  · congr 1; omega

theorem tokens_eq (s : Str) : r04_Tokens s = some (toks s.b) := by
  refine tx ?_
  unfold r04_Tokens toks
  refine T.br (fun h => T.some ?_) fun h => ?_
  · have h := of_decide_eq_true h
    rw [decide_eq_true (show 8000 < s.b.length by omega)]; rfl
  have hl := of_decide_eq_false h
  rw [decide_eq_false (show ¬ 8000 < s.b.length by omega), cond_false]
  refine T.lp (ι := List GTok × Int) (fun (q : List GTok × Int) => 0 ≤ q.2 ∧ q.2 ≤ (s.b.length : Int) ∧ (q.1.length : Int) ≤ q.2 ∧ ∃ f, (s.b.drop q.2.toNat).length < f ∧ toksF s.b.length (s.b.length + 1) s.b [] = toksF s.b.length f (s.b.drop q.2.toNat) q.1) (fun (q : List GTok × Int) => ((s.b.length : Int) - q.2).toNat) ⟨Int.le_refl _, by dsimp only; omega, by simp, s.b.length + 1, by simp, rfl⟩ (by dsimp only; omega) fun L q hq hL => ?_
  obtain ⟨l, k⟩ := q
  obtain ⟨h1, h2, h3, f, h4, h5⟩ := hq
  simp only at h1 h2 h3 h4 h5 ⊢
  rw [h5] at hL ⊢
  cases f with
  | zero => omega
  | succ f =>
    have hwl := wh_len (s.b.drop k.toNat) .out
    rw [List.length_drop] at hwl h4
    obtain ⟨nw, hw⟩ := wh_suf (s.b.drop k.toNat) .out
    rw [List.drop_drop] at hw
    have hsw := suf_drop hw
    refine T.eq (white_eq s k h1 h2 (by omega)) ?_
    rw [toksF_succ] at hL ⊢
    cases hwh : wh .out (s.b.drop k.toNat) with
    | nil =>
      simp only [hwh] at hL ⊢
      refine T.br (fun _ => T.abl (by simp only [List.length_cons, List.length_nil]; omega) (T.some rfl)) fun h6 => ?_
      have := of_decide_eq_false h6
      simp at this
    | cons c r =>
      simp only [hwh] at hL ⊢ 
      rw [hwh] at hwl hsw
      have hcl : 0 < (c :: r).length := by simp
      refine T.br (fun h6 => by have := of_decide_eq_true h6; omega) fun _ => ?_
      have hi : ((s.b.length : Int) - ((c :: r).length : Int)).toNat = s.b.length - (c :: r).length := by omega
      refine T.cal (one_eq s ((s.b.length : Int) - ((c :: r).length : Int)) (by omega) (by omega) (by omega)) fun q _ hq => ?_
      rw [hi, hsw] at hq
      cases ho : oneS (c :: r) with
      | none =>
        rw [ho] at hq
        simp only [ho] at hL ⊢
        simp only at hq
        exact T.br (fun _ => T.some rfl) fun h7 => by have := of_decide_eq_false h7; omega
      | some p =>
        obtain ⟨kd, t, r'⟩ := p
        rw [ho] at hq
        simp only [ho] at hL ⊢
        simp only at hq
        subst hq
        have hol := oneS_len ho
        obtain ⟨no, hso⟩ := oneS_suf ho
        have hso2 : r' = s.b.drop (s.b.length - (c :: r).length + no) := by rw [hso, ← List.drop_drop, hsw]
        have hsd := suf_drop hso2
        refine T.br (fun h7 => by have := of_decide_eq_true h7; dsimp only at this; omega) fun _ => T.abl (by simp only [List.length_cons, List.length_nil]; omega) (hL _ ⟨by dsimp only; omega, by dsimp only; omega, ?_, f, ?_, ?_⟩ (by dsimp only; omega))
        · dsimp only; rw [List.length_append, List.length_singleton]; omega
        · dsimp only
          rw [show ((s.b.length : Int) - (r'.length : Int)).toNat = s.b.length - r'.length by omega, hsd]
          omega
        · dsimp only
          rw [show ((s.b.length : Int) - (r'.length : Int)).toNat = s.b.length - r'.length by omega, hsd]
end Go.Proofs.YtdcdndflfhaejaaDoor


namespace Go.Proofs.YtdcdndflfhaejaaDoor
open Go.Sy
set_option maxRecDepth 4000
def tokF (s : Str) : Option (List GTok × Int × Int) := some (toks s.b)
theorem tokF_eq : r04_Tokens = tokF := funext tokens_eq
def r05_ParseF (a_text : Str) : Option (GMod × Int × Int) :=
  cal (tokF a_text) fun y2 => br (!decide (y2.2.2 = (0 : Int))) (some ((GMod.mk (Str.mk []) (0 : Int) ([] : (List Str)) ([] : (List Int)) ([] : (List GNode))), y2.2.1, y2.2.2)) (cal (r05_parser_kind (GPar.mk y2.1 (0 : Int) (GMod.mk (Str.mk []) (0 : Int) ([] : (List Str)) ([] : (List Int)) ([] : (List GNode))) (0 : Int) (0 : Int)) (1 : Int)) fun y7 => cal (r05_parser_must (GPar.mk y7.2.l y7.2.at_ (GMod.mk y7.1 y7.2.m.tagging y7.2.m.names y7.2.m.types y7.2.m.nodes) y7.2.e y7.2.p) (Str.mk [68, 69, 70, 73, 78, 73, 84, 73, 79, 78, 83])) fun y10 => jp (ι := GPar) (fun J14 => cal (r05_parser_is y10 (Str.mk [69, 88, 80, 76, 73, 67, 73, 84])) fun y15 => br y15.1 (cal (r05_parser_must y15.2 (Str.mk [84, 65, 71, 83])) fun y18 => J14 (y18)) (cal (r05_parser_is y15.2 (Str.mk [73, 77, 80, 76, 73, 67, 73, 84])) fun y21 => br y21.1 (cal (r05_parser_must (GPar.mk y21.2.l y21.2.at_ (GMod.mk y21.2.m.name (1 : Int) y21.2.m.names y21.2.m.types y21.2.m.nodes) y21.2.e y21.2.p) (Str.mk [84, 65, 71, 83])) fun y24 => J14 (y24)) (cal (r05_parser_is y21.2 (Str.mk [65, 85, 84, 79, 77, 65, 84, 73, 67])) fun y27 => br y27.1 (cal (r05_parser_must (GPar.mk y27.2.l y27.2.at_ (GMod.mk y27.2.m.name (2 : Int) y27.2.m.names y27.2.m.types y27.2.m.nodes) y27.2.e y27.2.p) (Str.mk [84, 65, 71, 83])) fun y30 => J14 (y30)) (J14 (y27.2))))) (fun q13 => cal (r05_parser_must q13 (Str.mk [58, 58, 61])) fun y33 => cal (r05_parser_must y33 (Str.mk [66, 69, 71, 73, 78])) fun y36 => lp (ι := GPar) (fun L40 q39 => jp (ι := Bool × GPar) (fun J92 => br (decide (q39.e = (0 : Int))) (cal (r05_parser_is q39 (Str.mk [69, 78, 68])) fun y94 => J92 ((!y94.1), y94.2)) (J92 (false, q39))) (fun q91 => br q91.1 (cal (r05_parser_now q91.2) fun y97 => cal (r05_parser_kind y97.2 (1 : Int)) fun y101 => jp (ι := Bool) (fun J105 => br (decide (y101.2.e = (0 : Int))) (J105 ((decide ((40 : Int) ≤ (y101.2.m.names.length : Int))))) (J105 (false))) (fun q104 => jp (ι := GPar) (fun J108 => br q104 (cal (r05_parser_fail y101.2 (5 : Int) y97.1) fun y109 => J108 (y109)) (J108 (y101.2))) (fun q107 => cal (r05_parser_must q107 (Str.mk [58, 58, 61])) fun y112 => cal (r05_parser_typ fuel y112 (0 : Int)) fun y115 => asr (Nat.ble (y115.2.m.names.length + ([y101.1] : (List Str)).length) 68719476736) <| asr (Nat.ble (y115.2.m.types.length + ([y115.1] : (List Int)).length) 68719476736) <| L40 ((GPar.mk y115.2.l y115.2.at_ (GMod.mk y115.2.m.name y115.2.m.tagging (y115.2.m.names ++ ([y101.1] : (List Str))) (y115.2.m.types ++ ([y115.1] : (List Int))) y115.2.m.nodes) y115.2.e y115.2.p))))) (jp (ι := Bool × GPar) (fun J126 => br (decide (q91.2.e = (0 : Int))) (cal (r05_parser_now q91.2) fun y128 => J126 ((!decide (y128.1.kind = (0 : Int))), y128.2)) (J126 (false, q91.2))) (fun q125 => jp (ι := GPar) (fun J132 => br q125.1 (cal (r05_parser_now q125.2) fun y133 => cal (r05_parser_fail y133.2 (7 : Int) y133.1) fun y136 => J132 (y136)) (J132 (q125.2))) (fun q131 => br (!decide (q131.e = (0 : Int))) (some ((GMod.mk (Str.mk []) (0 : Int) ([] : (List Str)) ([] : (List Int)) ([] : (List GNode))), q131.p, q131.e)) (some (q131.m, (0 : Int), (0 : Int)))))))) ((y36))))
theorem r05_ParseF_eq : r05_Parse = r05_ParseF := by
  funext a_text
  unfold r05_Parse r05_ParseF
  rw [tokF_eq]
def law07_awakeF : Option (Bool) :=
  cal (r05_ParseF (Str.mk [77, 32, 68, 69, 70, 73, 78, 73, 84, 73, 79, 78, 83, 32, 58, 58, 61, 32, 66, 69, 71, 73, 78, 32, 65, 32, 58, 58, 61, 32, 66, 32, 66, 32, 58, 58, 61, 32, 78, 85, 76, 76, 32, 69, 78, 68])) fun y1 => cal (refs_Order y1.1) fun y3 => jp (ι := Bool) (fun J5 => br (decide (y3.2.2 = (0 : Int))) (J5 ((decide ((y3.1.length : Int) = (2 : Int))))) (J5 (false))) (fun q4 => jp (ι := Bool) (fun J8 => br q4 (cal (getI y3.1 (0 : Int)) fun y10 => J8 ((decide (y10 = (1 : Int))))) (J8 (false))) (fun q7 => jp (ι := Bool) (fun J12 => br q7 (cal (refs_Find y1.1 (Str.mk [66])) fun y14 => J12 ((decide (y14 = (1 : Int))))) (J12 (false))) (fun q11 => some (q11))))
theorem law07_awakeF_eq : law07_awake = law07_awakeF := by
  unfold law07_awake law07_awakeF
  rw [r05_ParseF_eq]
def law07_RefsCirclesF (a_n_ : Int) (a_back : Int) (a_closed : Bool) : Option (Bool) :=
  asr (!decide ((15 : UInt64) = 0)) <| ck ((((UInt64.ofNat (a_n_ % 18446744073709551616).toNat) % (15 : UInt64)).toNat : Int)) <| ck (((1 : Int) + (((UInt64.ofNat (a_n_ % 18446744073709551616).toNat) % (15 : UInt64)).toNat : Int))) <| asr (!decide ((UInt64.ofNat (((1 : Int) + (((UInt64.ofNat (a_n_ % 18446744073709551616).toNat) % (15 : UInt64)).toNat : Int)) % 18446744073709551616).toNat) = 0)) <| ck ((((UInt64.ofNat (a_back % 18446744073709551616).toNat) % (UInt64.ofNat (((1 : Int) + (((UInt64.ofNat (a_n_ % 18446744073709551616).toNat) % (15 : UInt64)).toNat : Int)) % 18446744073709551616).toNat)).toNat : Int)) <| lp (ι := Str × Int) (fun L7 q6 => br (decide (q6.2 < ((1 : Int) + (((UInt64.ofNat (a_n_ % 18446744073709551616).toNat) % (15 : UInt64)).toNat : Int)))) (ck ((q6.2 + (1 : Int))) <| cal (h_Digits fuel (UInt64.ofNat ((q6.2 + (1 : Int)) % 18446744073709551616).toNat)) fun y54 => asr (Nat.ble ((Str.mk [83, 69, 81, 85, 69, 78, 67, 69, 32, 79, 70, 32, 84]).b.length + y54.b.length) 4611686018427387904) <| ck ((q6.2 + (1 : Int))) <| jp (ι := Str) (fun J58 => br (decide ((q6.2 + (1 : Int)) = ((1 : Int) + (((UInt64.ofNat (a_n_ % 18446744073709551616).toNat) % (15 : UInt64)).toNat : Int)))) (br a_closed (cal (h_Digits fuel (UInt64.ofNat ((((UInt64.ofNat (a_back % 18446744073709551616).toNat) % (UInt64.ofNat (((1 : Int) + (((UInt64.ofNat (a_n_ % 18446744073709551616).toNat) % (15 : UInt64)).toNat : Int)) % 18446744073709551616).toNat)).toNat : Int) % 18446744073709551616).toNat)) fun y59 => asr (Nat.ble ((Str.mk [83, 69, 84, 32, 123, 32, 97, 32, 78, 85, 76, 76, 44, 32, 98, 32, 84]).b.length + y59.b.length) 4611686018427387904) <| asr (Nat.ble ((Str.mk ((Str.mk [83, 69, 84, 32, 123, 32, 97, 32, 78, 85, 76, 76, 44, 32, 98, 32, 84]).b ++ y59.b)).b.length + (Str.mk [32, 125]).b.length) 4611686018427387904) <| J58 ((Str.mk ((Str.mk ((Str.mk [83, 69, 84, 32, 123, 32, 97, 32, 78, 85, 76, 76, 44, 32, 98, 32, 84]).b ++ y59.b)).b ++ (Str.mk [32, 125]).b)))) (J58 ((Str.mk [78, 85, 76, 76])))) (J58 ((Str.mk ((Str.mk [83, 69, 81, 85, 69, 78, 67, 69, 32, 79, 70, 32, 84]).b ++ y54.b))))) (fun q57 => asr (Nat.ble (q6.1.b.length + (Str.mk [32, 84]).b.length) 4611686018427387904) <| cal (h_Digits fuel (UInt64.ofNat (q6.2 % 18446744073709551616).toNat)) fun y63 => asr (Nat.ble ((Str.mk (q6.1.b ++ (Str.mk [32, 84]).b)).b.length + y63.b.length) 4611686018427387904) <| asr (Nat.ble ((Str.mk ((Str.mk (q6.1.b ++ (Str.mk [32, 84]).b)).b ++ y63.b)).b.length + (Str.mk [32, 58, 58, 61, 32]).b.length) 4611686018427387904) <| asr (Nat.ble ((Str.mk ((Str.mk ((Str.mk (q6.1.b ++ (Str.mk [32, 84]).b)).b ++ y63.b)).b ++ (Str.mk [32, 58, 58, 61, 32]).b)).b.length + q57.b.length) 4611686018427387904) <| ck ((q6.2 + (1 : Int))) <| L7 ((Str.mk ((Str.mk ((Str.mk ((Str.mk (q6.1.b ++ (Str.mk [32, 84]).b)).b ++ y63.b)).b ++ (Str.mk [32, 58, 58, 61, 32]).b)).b ++ q57.b)), (q6.2 + (1 : Int))))) (asr (Nat.ble ((Str.mk [77, 32, 68, 69, 70, 73, 78, 73, 84, 73, 79, 78, 83, 32, 58, 58, 61, 32, 66, 69, 71, 73, 78]).b.length + q6.1.b.length) 4611686018427387904) <| asr (Nat.ble ((Str.mk ((Str.mk [77, 32, 68, 69, 70, 73, 78, 73, 84, 73, 79, 78, 83, 32, 58, 58, 61, 32, 66, 69, 71, 73, 78]).b ++ q6.1.b)).b.length + (Str.mk [32, 69, 78, 68]).b.length) 4611686018427387904) <| cal (r05_ParseF (Str.mk ((Str.mk ((Str.mk [77, 32, 68, 69, 70, 73, 78, 73, 84, 73, 79, 78, 83, 32, 58, 58, 61, 32, 66, 69, 71, 73, 78]).b ++ q6.1.b)).b ++ (Str.mk [32, 69, 78, 68]).b))) fun y70 => cal (refs_Order y70.1) fun y72 => cal (law07_awakeF ) fun y73 => jp (ι := Bool) (fun J75 => br y73 (J75 ((decide (y70.2.2 = (0 : Int))))) (J75 (false))) (fun q74 => jp (ι := Bool) (fun J78 => br q74 (jp (ι := Bool) (fun J81 => br a_closed (J81 ((decide (y72.2.2 = (10 : Int))))) (J81 (false))) (fun q80 => jp (ι := Bool) (fun J84 => br q80 (J84 ((decide (y72.2.1 = (((UInt64.ofNat (a_back % 18446744073709551616).toNat) % (UInt64.ofNat (((1 : Int) + (((UInt64.ofNat (a_n_ % 18446744073709551616).toNat) % (15 : UInt64)).toNat : Int)) % 18446744073709551616).toNat)).toNat : Int))))) (J84 (false))) (fun q83 => jp (ι := Bool) (fun J87 => br q83 (J87 ((decide ((y72.1.length : Int) = (0 : Int))))) (J87 (false))) (fun q86 => jp (ι := Bool) (fun J90 => br q86 (J90 (true)) (jp (ι := Bool) (fun J93 => br (!a_closed) (J93 ((decide (y72.2.2 = (0 : Int))))) (J93 (false))) (fun q92 => jp (ι := Bool) (fun J96 => br q92 (J96 ((decide ((y72.1.length : Int) = ((1 : Int) + (((UInt64.ofNat (a_n_ % 18446744073709551616).toNat) % (15 : UInt64)).toNat : Int)))))) (J96 (false))) (fun q95 => J90 (q95))))) (fun q89 => J78 (q89)))))) (J78 (false))) (fun q77 => some (q77))))) (((Str.mk []), (0 : Int)))
theorem law07_RefsCirclesF_eq : law07_RefsCircles = law07_RefsCirclesF := by
  funext a_n_ a_back a_closed
  unfold law07_RefsCircles law07_RefsCirclesF
  rw [r05_ParseF_eq, law07_awakeF_eq]
def law07_RefsMissingF (a_n_ : Int) (a_at_ : Int) (a_twice : Bool) : Option (Bool) :=
  asr (!decide ((10 : UInt64) = 0)) <| ck ((((UInt64.ofNat (a_n_ % 18446744073709551616).toNat) % (10 : UInt64)).toNat : Int)) <| ck (((2 : Int) + (((UInt64.ofNat (a_n_ % 18446744073709551616).toNat) % (10 : UInt64)).toNat : Int))) <| asr (!decide ((UInt64.ofNat (((2 : Int) + (((UInt64.ofNat (a_n_ % 18446744073709551616).toNat) % (10 : UInt64)).toNat : Int)) % 18446744073709551616).toNat) = 0)) <| ck ((((UInt64.ofNat (a_at_ % 18446744073709551616).toNat) % (UInt64.ofNat (((2 : Int) + (((UInt64.ofNat (a_n_ % 18446744073709551616).toNat) % (10 : UInt64)).toNat : Int)) % 18446744073709551616).toNat)).toNat : Int)) <| lp (ι := Str × Int) (fun L7 q6 => br (decide (q6.2 < ((2 : Int) + (((UInt64.ofNat (a_n_ % 18446744073709551616).toNat) % (10 : UInt64)).toNat : Int)))) (cal (h_Digits fuel (UInt64.ofNat (q6.2 % 18446744073709551616).toNat)) fun y55 => asr (Nat.ble ((Str.mk [84]).b.length + y55.b.length) 4611686018427387904) <| jp (ι := Str) (fun J58 => br (decide (q6.2 = (((UInt64.ofNat (a_at_ % 18446744073709551616).toNat) % (UInt64.ofNat (((2 : Int) + (((UInt64.ofNat (a_n_ % 18446744073709551616).toNat) % (10 : UInt64)).toNat : Int)) % 18446744073709551616).toNat)).toNat : Int))) (J58 ((Str.mk [67, 72, 79, 73, 67, 69, 32, 123, 32, 97, 32, 78, 111, 116, 104, 105, 110, 103, 32, 125]))) (J58 ((Str.mk [78, 85, 76, 76])))) (fun q57 => jp (ι := Bool) (fun J60 => br a_twice (ck ((((2 : Int) + (((UInt64.ofNat (a_n_ % 18446744073709551616).toNat) % (10 : UInt64)).toNat : Int)) - (1 : Int))) <| J60 ((decide (q6.2 = (((2 : Int) + (((UInt64.ofNat (a_n_ % 18446744073709551616).toNat) % (10 : UInt64)).toNat : Int)) - (1 : Int)))))) (J60 (false))) (fun q59 => jp (ι := Str) (fun J64 => br q59 (J64 ((Str.mk [84, 48]))) (J64 ((Str.mk ((Str.mk [84]).b ++ y55.b))))) (fun q63 => asr (Nat.ble (q6.1.b.length + (Str.mk [32]).b.length) 4611686018427387904) <| asr (Nat.ble ((Str.mk (q6.1.b ++ (Str.mk [32]).b)).b.length + q63.b.length) 4611686018427387904) <| asr (Nat.ble ((Str.mk ((Str.mk (q6.1.b ++ (Str.mk [32]).b)).b ++ q63.b)).b.length + (Str.mk [32, 58, 58, 61, 32]).b.length) 4611686018427387904) <| asr (Nat.ble ((Str.mk ((Str.mk ((Str.mk (q6.1.b ++ (Str.mk [32]).b)).b ++ q63.b)).b ++ (Str.mk [32, 58, 58, 61, 32]).b)).b.length + q57.b.length) 4611686018427387904) <| ck ((q6.2 + (1 : Int))) <| L7 ((Str.mk ((Str.mk ((Str.mk ((Str.mk (q6.1.b ++ (Str.mk [32]).b)).b ++ q63.b)).b ++ (Str.mk [32, 58, 58, 61, 32]).b)).b ++ q57.b)), (q6.2 + (1 : Int))))))) (asr (Nat.ble ((Str.mk [77, 32, 68, 69, 70, 73, 78, 73, 84, 73, 79, 78, 83, 32, 58, 58, 61, 32, 66, 69, 71, 73, 78]).b.length + q6.1.b.length) 4611686018427387904) <| asr (Nat.ble ((Str.mk ((Str.mk [77, 32, 68, 69, 70, 73, 78, 73, 84, 73, 79, 78, 83, 32, 58, 58, 61, 32, 66, 69, 71, 73, 78]).b ++ q6.1.b)).b.length + (Str.mk [32, 69, 78, 68]).b.length) 4611686018427387904) <| cal (r05_ParseF (Str.mk ((Str.mk ((Str.mk [77, 32, 68, 69, 70, 73, 78, 73, 84, 73, 79, 78, 83, 32, 58, 58, 61, 32, 66, 69, 71, 73, 78]).b ++ q6.1.b)).b ++ (Str.mk [32, 69, 78, 68]).b))) fun y72 => cal (refs_Order y72.1) fun y74 => br a_twice (cal (law07_awakeF ) fun y75 => jp (ι := Bool) (fun J77 => br y75 (J77 ((decide (y72.2.2 = (0 : Int))))) (J77 (false))) (fun q76 => jp (ι := Bool) (fun J80 => br q76 (J80 ((decide (y74.2.2 = (8 : Int))))) (J80 (false))) (fun q79 => jp (ι := Bool) (fun J83 => br q79 (ck ((((2 : Int) + (((UInt64.ofNat (a_n_ % 18446744073709551616).toNat) % (10 : UInt64)).toNat : Int)) - (1 : Int))) <| J83 ((decide (y74.2.1 = (((2 : Int) + (((UInt64.ofNat (a_n_ % 18446744073709551616).toNat) % (10 : UInt64)).toNat : Int)) - (1 : Int)))))) (J83 (false))) (fun q82 => jp (ι := Bool) (fun J87 => br q82 (J87 ((decide ((y74.1.length : Int) = (0 : Int))))) (J87 (false))) (fun q86 => some (q86)))))) (cal (law07_awakeF ) fun y89 => jp (ι := Bool) (fun J91 => br y89 (J91 ((decide (y72.2.2 = (0 : Int))))) (J91 (false))) (fun q90 => jp (ι := Bool) (fun J94 => br q90 (J94 ((decide (y74.2.2 = (9 : Int))))) (J94 (false))) (fun q93 => jp (ι := Bool) (fun J97 => br q93 (J97 ((decide (y74.2.1 = (((UInt64.ofNat (a_at_ % 18446744073709551616).toNat) % (UInt64.ofNat (((2 : Int) + (((UInt64.ofNat (a_n_ % 18446744073709551616).toNat) % (10 : UInt64)).toNat : Int)) % 18446744073709551616).toNat)).toNat : Int))))) (J97 (false))) (fun q96 => jp (ι := Bool) (fun J100 => br q96 (J100 ((decide ((y74.1.length : Int) = (0 : Int))))) (J100 (false))) (fun q99 => some (q99)))))))) (((Str.mk []), (0 : Int)))
theorem law07_RefsMissingF_eq : law07_RefsMissing = law07_RefsMissingF := by
  funext a_n_ a_at_ a_twice
  unfold law07_RefsMissing law07_RefsMissingF
  rw [r05_ParseF_eq, law07_awakeF_eq]
end Go.Proofs.YtdcdndflfhaejaaDoor


namespace Go.Proofs.YtdcdndflfhaejaaDoor
open Go.Sy
def yes (o : Option Bool) : Bool := match o with
  | some true => true
  | _ => false
theorem of_yes {o : Option Bool} (h : yes o = true) : o = some true := by
  unfold yes at h
  split at h
  · rfl
  · cases h
/-- A whole number, as a word of 64 bits. -/
def wd (n : Int) : UInt64 := UInt64.ofNat (n % 18446744073709551616).toNat
theorem wd_nat {x : Nat} (h : x < 18446744073709551616) : (wd (x : Int)).toNat = x := by
  unfold wd
  rw [UInt64.toNat_ofNat']
  omega
theorem wd_mod (n : Int) (k : UInt64) (hk : 0 < k.toNat) : wd (((wd n % k).toNat : Nat) : Int) % k = wd n % k := by
  apply UInt64.toNat_inj.1
  have h := Nat.mod_lt (wd n).toNat hk
  have h2 := (wd n).toNat_lt
  rw [UInt64.toNat_mod, UInt64.toNat_mod, wd_nat (by have := k.toNat_lt; omega)]
  exact Nat.mod_mod _ _
theorem red (n : Int) (k : UInt64) (hk : 0 < k.toNat) : ∃ x : Nat, x < k.toNat ∧ wd n % k = wd (x : Int) % k :=
  ⟨(wd n % k).toNat, by rw [UInt64.toNat_mod]; exact Nat.mod_lt _ hk, (wd_mod n k hk).symm⟩
theorem all_get {n : Nat} {p : Nat → Bool} (h : ((List.range n).all p) = true) {x : Nat} (hx : x < n) : p x = true := List.all_eq_true.1 h x (List.mem_range.2 hx)
theorem and_get {a b : Bool} (h : (a && b) = true) : a = true ∧ b = true := Bool.and_eq_true_iff.1 h
end Go.Proofs.YtdcdndflfhaejaaDoor


namespace Go.Sy
open Go.Shelf Go.Lib Go.ChangeShapes Go.WideShapes Go.ChangeAt Go.RowKit

theorem cell_sub {W w : World} {a : Addr} {v : Value} (h : W.cell? a = some v) (hs : (snap W).sub w) : w.cell? a = some v := by
  obtain ⟨h1, c, h2, h3⟩ := cell_snap h
  obtain ⟨c', T, fr, h4, h5⟩ := hs _ _ h2
  unfold World.cell?
  rw [h4]
  simp only [h1]
  obtain ⟨t, ht⟩ := h5
  rw [← Array.getElem?_toList, ← ht, List.getElem?_append_left (by
    rcases Nat.lt_or_ge a.off c.length with h6 | h6
    · exact h6
    · rw [List.getElem?_eq_none h6] at h3; cases h3)]
  exact h3
theorem tabs_of {P : Program} {g1 g2 : Nat} {W : World} (h : Lib.Utf8Tabs g1 g2 W) (e1 : P.globals.findIdx? (·.name == "unicode/utf8.first") = some g1) (e2 : P.globals.findIdx? (·.name == "unicode/utf8.acceptRanges") = some g2) : Tabs P (snap W) := by
  intro w hw k1 k2 h1 h2
  rw [e1] at h1; cases h1
  rw [e2] at h2; cases h2
  exact ⟨fun c hc => cell_sub (h.1 c hc) hw, fun i hi => ⟨cell_sub (h.2 i hi).1 hw, cell_sub (h.2 i hi).2 hw⟩⟩

theorem law_laid {H : Type} {enc : TypeId × Value → H} {a : Assume} {C : Checked} {os : Os} {f : FuncId} {fn : Func} {s : OpenSpec} {F : Stop.Interp} {B : TypeId} {apart fresh handsOn : Bool} {laid : List (String × DataW Unit)}
    (own : ownKnob C.prog.godebug = none) (started : os.Started) (noInit : C.prog.inits.idxOf? f = none) (hfn : C.prog.funcs[f]? = some fn)
    (witness : ∃ (w : World) (tape : Tape) (i : Input), w.os = os ∧ (w.forCall tape i).Shaped C.prog ∧ i.vars = [] ∧ Input.okWide C.prog (w.forCall tape i) .any w.heap.size f i ∧
      s.preRow enc C.prog fn [] apart laid (w.forCall tape i).memory i.args ∧ a.holds C.prog (lone (Frame.enter C.prog f i.args .normal) [] (w.forCall tape i)))
    (hl : laidOutB C.prog = true) (hr : (fn.params.toList.all fun t => C.prog.readableRec t && decide (t < C.prog.types.size)) = true) (hv : s.vars = []) (hres : fn.resultTypes = #[B]) (hB : C.prog.underlying B = some .bool)
    (hs : ∀ ds : List (DataW H), ds.length = fn.params.size → (s.at F).fn H ds = { results := [.lit (.bool true)], args := ds })
    (tabs : ∀ W, laidMetH C.prog laid W → Tabs C.prog (snap W))
    (run : ∀ (W : World) (vs : List Value) (ds : List (DataW H)) (p : List MemPlace), Tabs C.prog (snap W) → DataW.TrodAll enc C.prog W 0 (fun _ => true) true fn.params.toList vs ds p → (∀ k ∈ DataW.weightsEach C.prog fn.params.toList ds, k ≤ reachBytes) → (∃ base, ∀ (j : Nat) t v, fn.params.toList[j]? = some t → vs[j]? = some v → Value.okWide C.prog W .any base t v) →
      Calls C.prog f vs.toArray W fun e W' => e = .returned (.bool true) ∧ Keep [] W W') :
    ReturnsInHanded a C os f .any (s.preRow enc C.prog fn [] apart laid) ((s.at F).post enc C.prog fn apart fresh handsOn false) := by
  refine returnsInHanded_of_row own started noInit hfn witness ?_
  intro W base args ds gs before hval hW _ _ hwt hL _ _
  have hlt := hW.lt
  have hW0 := hW
  obtain ⟨p, q, hA, hV, rfl, hfz, hnd⟩ := hW
  rw [hv] at hV
  have hgs : gs = [] ∧ q = [] := by
    cases gs with
    | nil => exact ⟨rfl, hV⟩
    | cons _ _ => exact hV.elim
  obtain ⟨rfl, rfl⟩ := hgs
  have hlen : ds.length = fn.params.size := by
    have : ∀ {ts : List TypeId} {vs : List Value} {ds : List (DataW H)} {ps : List MemPlace}, DataW.TrodAll enc C.prog W 0 (fun _ => true) true ts vs ds ps → ds.length = ts.length := by
      intro ts
      induction ts with
      | nil => intro vs ds ps h; cases vs <;> cases ds <;> simp_all [DataW.TrodAll]
      | cons t ts ih =>
        intro vs ds ps h
        cases vs <;> cases ds <;> simp only [DataW.TrodAll] at h
        obtain ⟨_, _, _, h2, _⟩ := h
        simp [ih h2]
    simpa using this hA
  have hvt' : s.bare.plain.varTypes C.prog = [] := by
    simp [OpenSpec.bare, ChangeSpec.plain, DataSpec.varTypes, hv]
  rw [hvt', List.append_nil, List.append_nil] at hwt
  have hrun := run W args.toList ds p (tabs W hL) hA (fun k hk => by simpa using List.all_eq_true.1 hwt k hk) ⟨base, fun j t v hj hv' => hval j t v (by simpa using hj) (by simpa using hv')⟩
  refine hrun.mono fun e W' ⟨he, hk⟩ => ?_
  subst he
  have hb := hk.below
  refine ⟨_, rfl, ds, [], p ++ [], [], p, [], hW0, ?_, ?_, ?_, hb.frame _, fun h => by cases h⟩
  · rw [List.append_nil, hs ds hlen, hres]
    exact trodAll_mk1 (shut_bool hB true)
  · rw [List.append_nil, hs ds hlen]
    exact trodAll_stays hl hb hr hA (fun x hx => hlt x (List.mem_append_left _ hx)) (fun x hx => by simpa using hlt x (List.mem_append_left _ hx))
  · show DataW.TrodVars enc C.prog W' _ s.vars _ _
    rw [hv]
    rw [List.append_nil, hs ds hlen]
    exact rfl
end Go.Sy


namespace Go.Proofs.YtdcdndflfhaejaaDoor
open Go.Sy Go.Shelf Go.Lib Go.ChangeShapes Go.WideShapes Go.ChangeAt Go.RowKit

theorem own : ownKnob Tryd.prog.godebug = none := by kernel_rfl
theorem laidOut : laidOutB Tryd.prog = true := by kernel_rfl

/-- A world in which the two tables hold what their texts lay. -/
noncomputable def laidWorld (os : Os) : World :=
  let w0 := World.holding Tryd.prog os ⟨#[], #[], []⟩
  let put (h : Array Obj) (g : Nat) (cs : Array Value) : Array Obj := h.modify g fun
    | .cells _ t frozen => .cells cs t frozen
    | o => o
  let h1 := put w0.heap 0 (Lib.firstTab.map fun z => Value.int .u8 z).toArray
  let h2 := put h1 1 ((List.range 16).flatMap fun i => [Value.int .u8 (Lib.accLo i), Value.int .u8 (Lib.accHi i)]).toArray
  { w0 with heap := h2 }
/-- The two tables, as the rows list them. -/
def laidTwo : List (String × DataW Unit) := [("unicode/utf8.acceptRanges", Lib.acceptData), ("unicode/utf8.first", Lib.firstData)]
theorem laid_met (os : Os) (args : Array Value) : laidMet Tryd.prog laidTwo ((laidWorld os).forCall (fun _ _ => 0) ⟨#[], args, []⟩).memory :=
  (LaidIn.of_run [0, 1] 8 (by kernel_rfl) (by kernel_rfl) (by kernel_rfl) (by kernel_rfl)).met
theorem tabs_laid (W : World) (h : laidMetH Tryd.prog laidTwo W) : Tabs Tryd.prog (snap W) :=
  tabs_of (utf8Tabs_of_readsT (U8Types.of196 valLays) ⟨by kernel_rfl, by kernel_rfl, by kernel_rfl, by kernel_rfl, by kernel_rfl, by kernel_rfl, by kernel_rfl⟩ (Lib.laidMet.reads h (.tail _ (.head _))) (Lib.laidMet.reads h (.head _))) valLays.g3 valLays.g4
end Go.Proofs.YtdcdndflfhaejaaDoor

