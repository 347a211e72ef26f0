/- TableAutomatic: whatever its arguments are, the law's model answers true. No condition. -/
import Derived.Test.YtiibmpdjkdjbiaaGreatDoorTaA
import Derived.Test.YtiibmpdjkdjbiaaGreatDoorTaB
import Derived.KernelRfl
set_option linter.unusedVariables false
set_option linter.unusedSimpArgs false

namespace Go.Proofs.YtiibmpdjkdjbiaaGreatDoor
open Go.Sy
set_option linter.unusedVariables false

/-! ### Signs -/
def isPre : List UInt8 → List UInt8 → Bool
  | [], _ => true
  | _ :: _, [] => false
  | p :: ps, c :: r => bif decide (p = c) then isPre ps r else false
def sgF : List (List UInt8) → List UInt8 → Nat
  | [], _ => 0
  | p :: ps, b => bif isPre p b then p.length else sgF ps b
def sgs : List (List UInt8) := [[58, 58, 61], [46, 46, 46], [46, 46], [91, 91], [93, 93], [123], [125], [91], [93], [40], [41], [44], [58]]
def sg (b : List UInt8) : Nat := sgF sgs b
theorem isPre_iff : ∀ (p b : List UInt8), isPre p b = true ↔ p.length ≤ b.length ∧ b.take p.length = p
  | [], b => by simp [isPre]
  | _ :: _, [] => by simp [isPre]
  | p :: ps, c :: r => by
    have ih := isPre_iff ps r
    unfold isPre
    by_cases h : p = c
    · subst h; simp [ih]
    · simp only [decide_eq_false h, cond_false, List.length_cons, List.take_succ_cons, List.cons.injEq]
      exact ⟨(fun h => by cases h), fun h2 => absurd h2.2.1.symm h⟩
theorem sgs_get {k : Nat} {y : Str} (h : ([(Str.mk [58, 58, 61]), (Str.mk [46, 46, 46]), (Str.mk [46, 46]), (Str.mk [91, 91]), (Str.mk [93, 93]), (Str.mk [123]), (Str.mk [125]), (Str.mk [91]), (Str.mk [93]), (Str.mk [40]), (Str.mk [41]), (Str.mk [44]), (Str.mk [58])] : List Str)[k]? = some y) : sgs.drop k = y.b :: sgs.drop (k + 1) := by
  have e : ([(Str.mk [58, 58, 61]), (Str.mk [46, 46, 46]), (Str.mk [46, 46]), (Str.mk [91, 91]), (Str.mk [93, 93]), (Str.mk [123]), (Str.mk [125]), (Str.mk [91]), (Str.mk [93]), (Str.mk [40]), (Str.mk [41]), (Str.mk [44]), (Str.mk [58])] : List Str) = sgs.map Str.mk := rfl
  rw [e, List.getElem?_map] at h
  obtain ⟨z, h1, h2⟩ := Option.map_eq_some_iff.1 h
  subst h2
  obtain ⟨h3, h4⟩ := List.getElem?_eq_some_iff.1 h1
  rw [List.drop_eq_getElem_cons h3, h4]
theorem sign_eq (s : Str) (i : Int) (h0 : 0 ≤ i) (h1 : i < s.b.length) (hl : s.b.length ≤ 1000000) : r04_sign s i = some ((sg (s.b.drop i.toNat) : Nat) : Int) := by
  refine tx ?_
  unfold r04_sign
  refine T.asd (by omega) (T.lp (fun (k : Int) => 0 ≤ k ∧ k ≤ 13 ∧ sgF (sgs.drop k.toNat) (s.b.drop i.toNat) = sg (s.b.drop i.toNat)) (fun (k : Int) => (13 - k).toNat) ⟨Int.le_refl _, by omega, rfl⟩ (by omega) fun L k ⟨k1, k2, k3⟩ hL => ?_)
  have er : (s.b.take ((s.b.length : Int)).toNat).drop i.toNat = s.b.drop i.toNat := by rw [List.take_of_length_le (by omega)]
  refine T.br (fun h2 => ?_) fun h2 => T.some ?_
  rotate_left
  · have h2 : ¬ k < 13 := of_decide_eq_false h2
    have : k = 13 := by omega
    subst this
    rw [← k3]; rfl
  have h2 := of_decide_eq_true h2
  refine T.get k1 h2 fun y hy => ?_
  have hs := sgs_get hy
  rw [hs] at k3
  unfold sgF at k3
  rw [er]
  refine T.jp (fun b => b = isPre y.b (s.b.drop i.toNat)) (fun J h => T.br (fun h3 => ?_) fun h3 => h _ ?_) fun b hb => ?_
  · have h3 := of_decide_eq_true h3
    refine T.asd ⟨Int.le_refl _, by omega, h3⟩ (T.get k1 h2 fun y2 hy2 => h _ ?_)
    rw [hy] at hy2; cases hy2
    have h4 : y.b.length ≤ (s.b.drop i.toNat).length := by simp only [List.length_drop] at h3 ⊢; omega
    rw [Bool.eq_iff_iff, decide_eq_true_eq, isPre_iff]
    constructor
    · intro h5
      refine ⟨h4, ?_⟩
      have := congrArg Str.b h5
      simpa using this
    · intro h5
      obtain ⟨yb⟩ := y
      simp only [Str.mk.injEq]
      simpa using h5.2
  · have h3 := of_decide_eq_false h3
    symm
    rw [Bool.eq_false_iff]
    intro h5
    have := (isPre_iff _ _).1 h5
    simp only [List.length_drop] at h3 this
    omega
  · rw [hb]
    refine T.br (fun h3 => T.some ?_) fun h3 => T.ck (by have h2 : k < 13 := h2; omega) (hL _ ⟨by omega, by have h2 : k < 13 := h2; omega, ?_⟩ (by have h2 : k < 13 := h2; omega))
    · rw [h3, cond_true] at k3; rw [← k3]
    · rw [h3, cond_false] at k3
      have e : (k + 1).toNat = k.toNat + 1 := by omega
      rw [e, k3]

/-! ### Words -/
def wordsL : List Str := [(Str.mk [68, 69, 70, 73, 78, 73, 84, 73, 79, 78, 83]), (Str.mk [69, 88, 80, 76, 73, 67, 73, 84]), (Str.mk [73, 77, 80, 76, 73, 67, 73, 84]), (Str.mk [65, 85, 84, 79, 77, 65, 84, 73, 67]), (Str.mk [84, 65, 71, 83]), (Str.mk [66, 69, 71, 73, 78]), (Str.mk [69, 78, 68]), (Str.mk [66, 79, 79, 76, 69, 65, 78]), (Str.mk [73, 78, 84, 69, 71, 69, 82]), (Str.mk [69, 78, 85, 77, 69, 82, 65, 84, 69, 68]), (Str.mk [78, 85, 76, 76]), (Str.mk [79, 67, 84, 69, 84]), (Str.mk [83, 84, 82, 73, 78, 71]), (Str.mk [85, 84, 70, 56, 83, 116, 114, 105, 110, 103]), (Str.mk [83, 69, 81, 85, 69, 78, 67, 69]), (Str.mk [83, 69, 84]), (Str.mk [67, 72, 79, 73, 67, 69]), (Str.mk [79, 70]), (Str.mk [79, 80, 84, 73, 79, 78, 65, 76]), (Str.mk [68, 69, 70, 65, 85, 76, 84]), (Str.mk [83, 73, 90, 69]), (Str.mk [77, 73, 78]), (Str.mk [77, 65, 88]), (Str.mk [84, 82, 85, 69]), (Str.mk [70, 65, 76, 83, 69])]
def sameB : List UInt8 → List UInt8 → Bool
  | [], [] => true
  | a :: r, b :: t => bif decide (a = b) then sameB r t else false
  | _, _ => false
theorem sameB_iff : ∀ a b : List UInt8, sameB a b = true ↔ a = b
  | [], [] => by simp [sameB]
  | [], _ :: _ => by simp [sameB]
  | _ :: _, [] => by simp [sameB]
  | a :: r, b :: t => by
    have ih := sameB_iff r t
    unfold sameB
    by_cases h : a = b
    · subst h; simp [ih]
    · simp [h]
def isWord (t : List UInt8) : Bool := wordsL.any fun w => sameB w.b t
theorem word_eq (s : Str) : r04_Word s = some (isWord s.b) := by
  refine tx ?_
  unfold r04_Word
  refine T.eq (y := wordsL) rfl (T.cal (in_string_tot wordsL s (by decide)) fun y _ hy => T.some ?_)
  rw [hy, Bool.eq_iff_iff, decide_eq_true_eq]
  unfold isWord
  rw [List.any_eq_true]
  constructor
  · intro h; exact ⟨s, h, (sameB_iff _ _).2 rfl⟩
  · rintro ⟨w, h1, h2⟩
    have := (sameB_iff _ _).1 h2
    obtain ⟨wb⟩ := w; obtain ⟨sb⟩ := s
    simp only at this; subst this; exact h1

/-! ### One sign, all signs -/
/-- The kind and the text of what comes first, and what is left behind it. -/
def oneS (b : List UInt8) : Option (Int × List UInt8 × List UInt8) :=
  let c := hd b
  bif isLetter c then bif nmBad b then none else some (bif isWord (b.take (nm b)) then 5 else bif decide (c ≤ 90) then 1 else 2, b.take (nm b), b.drop (nm b))
  else bif isDigit c || (decide (c = 45) && isDigit (hd (b.drop 1))) then match numLen b with
    | none => none
    | some n => some (3, b.take n, b.drop n)
  else bif decide (c = 39) then bif hexBad (b.drop 1) then none else some (4, (b.drop 1).take (hx (b.drop 1)), (b.drop 1).drop (hx (b.drop 1) + 2))
  else bif decide (c = 34) then match qd false (b.drop 1) [] with
    | none => none
    | some (t, r) => some (7, t, r)
  else bif decide (0 < sg b) then some (6, b.take (sg b), b.drop (sg b)) else none
theorem qd_len : ∀ (b : List UInt8) (f : Bool) (acc t r : List UInt8), qd f b acc = some (t, r) → r.length < b.length
  | [], f, acc, t, r, h => by cases f <;> simp [qd] at h
  | c :: b, true, acc, t, r, h => by
    simp only [qd] at h
    have := qd_len b _ _ _ _ h
    simp; omega
  | c :: b, false, acc, t, r, h => by
    simp only [qd] at h
    by_cases h1 : c = 34
    · simp only [decide_eq_true h1, cond_true] at h
      by_cases h2 : hd b = 34
      · simp only [decide_eq_true h2, cond_true] at h
        have := qd_len b _ _ _ _ h
        simp; omega
      · simp only [decide_eq_false h2, cond_false] at h
        cases hv : Lib.validD acc with
        | true => rw [hv] at h; simp at h; rw [← h.2]; simp
        | false => rw [hv] at h; cases h
    · simp only [decide_eq_false h1, cond_false] at h
      have := qd_len b _ _ _ _ h
      simp; omega
theorem numLen_bd {b : List UInt8} {n : Nat} (h : numLen b = some n) : 0 < n ∧ n ≤ b.length := by
  unfold numLen at h
  by_cases h1 : hd b = 45
  · simp only [decide_eq_true h1, cond_true] at h
    cases hb : numBad true (b.drop 1) with
    | true => rw [hb] at h; cases h
    | false =>
      rw [hb] at h; simp only [cond_false, Option.some.injEq] at h
      have := dg_le (b.drop 1)
      rw [List.length_drop] at this
      have : b ≠ [] := fun e => by rw [e] at h1; cases h1
      have := List.length_pos_iff.2 this
      omega
  · simp only [decide_eq_false h1, cond_false] at h
    cases hb : numBad false b with
    | true => rw [hb] at h; cases h
    | false =>
      rw [hb] at h; simp at h
      have := dg_le b
      have : decide (dg b < 1) = false := by
        unfold numBad at hb
        simp only [Bool.or_eq_false_iff] at hb
        exact hb.1.1.1.1.1.1
      have := of_decide_eq_false this
      omega
theorem nm_pos {b : List UInt8} (h : isLetter (hd b) = true) : 0 < nm b := by
  cases b with
  | nil => simp [hd, isLetter] at h
  | cons c r =>
    rw [nm_cons]
    simp only [hd] at h
    unfold inName
    rw [h]; simp
theorem sg_le : ∀ (l : List (List UInt8)) (b : List UInt8), sgF l b ≤ b.length
  | [], b => Nat.zero_le _
  | p :: ps, b => by
    unfold sgF
    cases h : isPre p b with
    | true => exact ((isPre_iff _ _).1 h).1
    | false => exact sg_le ps b
theorem oneS_len {b t r : List UInt8} {k : Int} (h : oneS b = some (k, t, r)) : r.length < b.length := by
  unfold oneS at h
  simp only at h
  cases h1 : isLetter (hd b) with
  | true =>
    rw [h1, cond_true] at h
    cases h2 : nmBad b with
    | true => rw [h2] at h; cases h
    | false =>
      rw [h2] at h
      simp only [cond_false, Option.some.injEq, Prod.mk.injEq] at h
      rw [← h.2.2, List.length_drop]
      have := nm_pos h1
      have := nm_le b
      omega
  | false =>
    rw [h1, cond_false] at h
    cases h2 : isDigit (hd b) || (decide (hd b = 45) && isDigit (hd (b.drop 1))) with
    | true =>
      rw [h2, cond_true] at h
      cases h3 : numLen b with
      | none => rw [h3] at h; cases h
      | some n =>
        rw [h3] at h
        simp only [Option.some.injEq, Prod.mk.injEq] at h
        have := numLen_bd h3
        rw [← h.2.2, List.length_drop]; omega
    | false =>
      rw [h2, cond_false] at h
      by_cases h3 : hd b = 39
      · rw [decide_eq_true h3, cond_true] at h
        cases h4 : hexBad (b.drop 1) with
        | true => rw [h4] at h; cases h
        | false =>
          rw [h4] at h
          simp only [cond_false, Option.some.injEq, Prod.mk.injEq] at h
          have : b ≠ [] := fun e => by rw [e] at h3; cases h3
          have := List.length_pos_iff.2 this
          rw [← h.2.2, List.length_drop, List.length_drop]; omega
      · rw [decide_eq_false h3, cond_false] at h
        by_cases h4 : hd b = 34
        · rw [decide_eq_true h4, cond_true] at h
          cases h5 : qd false (b.drop 1) [] with
          | none => rw [h5] at h; cases h
          | some q =>
            rw [h5] at h
            obtain ⟨t', r'⟩ := q
            simp only [Option.some.injEq, Prod.mk.injEq] at h
            have := qd_len _ _ _ _ _ h5
            rw [List.length_drop] at this
            rw [← h.2.2]; omega
        · rw [decide_eq_false h4, cond_false] at h
          by_cases h5 : 0 < sg b
          · rw [decide_eq_true h5, cond_true] at h
            simp only [Option.some.injEq, Prod.mk.injEq] at h
            have := sg_le sgs b
            have e : sgF sgs b = sg b := rfl
            rw [← h.2.2, List.length_drop]; omega
          · rw [decide_eq_false h5] at h; cases h
theorem one_eq (s : Str) (i : Int) (h0 : 0 ≤ i) (h1 : i < s.b.length) (hl : s.b.length ≤ 1000000) :
    T (fun (q : GTok × Int) => match oneS (s.b.drop i.toNat) with
      | none => q.2 < 0
      | some (k, t, r) => q = (⟨k, ⟨t⟩, i⟩, (s.b.length : Int) - (r.length : Int))) (r04_one s i) := by
  unfold r04_one
  refine T.get h0 h1 fun y hy => ?_
  have ed := dropc hy
  have hy0 : hd (s.b.drop i.toNat) = y := by rw [ed]; rfl
  have ed1 : (s.b.drop i.toNat).drop 1 = s.b.drop (i.toNat + 1) := by rw [List.drop_drop]
  have elen : (s.b.drop i.toNat).length = s.b.length - i.toNat := List.length_drop
  have etake : ∀ (n : Nat), (s.b.take (i + (n : Int)).toNat).drop i.toNat = (s.b.drop i.toNat).take n := fun n => by
    rw [seg]; congr 1; omega
  have erest : ∀ (n : Nat), n ≤ (s.b.drop i.toNat).length → i + (n : Int) = (s.b.length : Int) - (((s.b.drop i.toNat).drop n).length : Int) := fun n hn => by
    rw [List.length_drop, elen]; rw [elen] at hn; omega
  refine T.jp (ι := Int × GTok) (fun (q : Int × GTok) => match oneS (s.b.drop i.toNat) with
      | none => q.1 < 0
      | some (k, t, r) => (q.2, q.1) = (⟨k, ⟨t⟩, i⟩, (s.b.length : Int) - (r.length : Int))) (fun J h => ?_) fun q hq => T.some hq
  unfold oneS at h ⊢
  simp only [hy0] at h ⊢
  refine T.eq (letter_eq y) (T.br (fun hle => ?_) fun hle => T.eq (digit_eq y) ?_)
  · rw [hle, cond_true] at h ⊢
    have hcl : isLetter (hd (s.b.drop i.toNat)) = true := by rw [hy0]; exact hle
    refine T.eq (name_eq s i h0 h1 hl hcl) ?_
    cases hb : nmBad (s.b.drop i.toNat) with
    | true =>
      rw [hb, cond_true] at h
      simp only [cond_true] at h ⊢
      exact T.br (fun _ => T.some (by dsimp only; omega)) fun hn => by have := of_decide_eq_false hn; omega
    | false =>
      rw [hb, cond_false] at h
      simp only [cond_false] at h ⊢
      have hnl := nm_le (s.b.drop i.toNat)
      rw [elen] at hnl
      refine T.br (fun hn => by have := of_decide_eq_true hn; omega) fun _ => T.asd (by omega) ?_
      rw [etake]
      refine T.jp (ι := GTok) (fun t => t = ⟨bif decide (y ≤ 90) then 1 else 2, ⟨(s.b.drop i.toNat).take (nm (s.b.drop i.toNat))⟩, i⟩) (fun J2 h2 => T.br (fun h3 => h2 _ (by rw [h3]; rfl)) fun h3 => h2 _ (by rw [h3]; rfl)) fun t ht => ?_
      subst ht
      refine T.eq (word_eq _) (T.br (fun h3 => h _ ?_) fun h3 => h _ ?_)
      · dsimp only at h3 ⊢; rw [h3, ← erest _ (nm_le _)]; rfl
      · dsimp only at h3 ⊢; rw [h3, ← erest _ (nm_le _)]; rfl
  · rw [hle, cond_false] at h ⊢
    refine T.jp (fun b => b = (isDigit y || (decide (y = 45) && isDigit (hd ((s.b.drop i.toNat).drop 1))))) (fun J2 h2 => T.br (fun h3 => h2 _ (by rw [h3]; rfl)) fun h3 => ?_) fun b hb => ?_
    · refine T.jp (fun b => b = (decide (y = 45) && isDigit (hd ((s.b.drop i.toNat).drop 1)))) (fun J3 h4 => T.br (fun h5 => T.ck (by omega) (T.eq (at_eq s (i + 1) (by omega)) (T.eq (digit_eq _) (h4 _ ?_)))) fun h5 => h4 _ (by rw [h5]; rfl)) fun b hb => h2 _ (by rw [h3, hb]; rfl)
      rw [h5, ed1, show (i + 1).toNat = i.toNat + 1 by omega]; rfl
    rw [← hb] at h ⊢
    refine T.br (fun h3 => T.eq (number_eq s i h0 h1 hl) ?_) fun h3 => ?_
    · rw [h3, cond_true] at h ⊢
      cases hn : numLen (s.b.drop i.toNat) with
      | none =>
        simp only [hn] at h ⊢
        exact T.br (fun _ => T.some (by dsimp only; omega)) fun hn => by have := of_decide_eq_false hn; omega
      | some n =>
        simp only [hn] at h ⊢
        have hbd := numLen_bd hn
        have hbd2 := hbd.2
        rw [elen] at hbd2
        refine T.br (fun hn => by have := of_decide_eq_true hn; omega) fun _ => T.asd (by omega) (h _ ?_)
        rw [etake, ← erest n hbd.2]
    · rw [h3, cond_false] at h ⊢
      refine T.br (fun h4 => T.eq (hex_eq s i h0 h1 hl) (h _ ?_)) fun h4 => ?_
      · rw [h4, cond_true, ed1]
        cases hb : hexBad (s.b.drop (i.toNat + 1)) with
        | true => simp only [cond_true]; omega
        | false =>
          simp only [cond_false]
          have h5 : hx (s.b.drop (i.toNat + 1)) + 1 < (s.b.drop (i.toNat + 1)).length := by
            unfold hexBad at hb
            have := (Bool.or_eq_false_iff.1 hb).2
            have h72 : hd ((s.b.drop (i.toNat + 1)).drop (hx (s.b.drop (i.toNat + 1)) + 1)) = 72 := by simpa using this
            exact hd_lt (by rw [h72]; decide)
          rw [List.length_drop] at h5
          rw [List.length_drop, List.length_drop]
          have e : i + 1 + (hx (s.b.drop (i.toNat + 1)) : Int) + 2 = (s.b.length : Int) - ((s.b.length - (i.toNat + 1) - (hx (s.b.drop (i.toNat + 1)) + 2) : Nat) : Int) := by omega
          rw [e]
      · rw [h4, cond_false] at h ⊢
        refine T.br (fun h5 => T.eq (quoted_eq s i h0 h1 hl) (h _ ?_)) fun h5 => ?_
        · rw [h5, cond_true, ed1]
          cases hq : qd false (s.b.drop (i.toNat + 1)) [] with
          | none => simp only; omega
          | some q => rfl
        · rw [h5, cond_false] at h ⊢
          refine T.eq (sign_eq s i h0 h1 hl) (T.br (fun h6 => ?_) fun h6 => h _ ?_)
          · have h6 := of_decide_eq_true h6
            have hsl := sg_le sgs (s.b.drop i.toNat)
            have esg : sgF sgs (s.b.drop i.toNat) = sg (s.b.drop i.toNat) := rfl
            have hpos : 0 < sg (s.b.drop i.toNat) := by omega
            have hsl2 := hsl
            rw [elen] at hsl2
            refine T.ck (by omega) (T.asd (by omega) (T.ck (by omega) (h _ ?_)))
            rw [decide_eq_true hpos, cond_true]
            dsimp only
            rw [etake, ← erest (sg (s.b.drop i.toNat)) hsl]
          · have h6 := of_decide_eq_false h6
            rw [decide_eq_false (show ¬ 0 < sg (s.b.drop i.toNat) by omega)]
            simp only [cond_false]; omega

def toksF (n : Nat) : Nat → List UInt8 → List GTok → List GTok × Int × Int
  | 0, _, _ => ([], 0, 0)
  | f + 1, b, acc => match wh .out b with
    | [] => (acc ++ [⟨0, ⟨[]⟩, (n : Int)⟩], 0, 0)
    | c :: r => match oneS (c :: r) with
      | none => ([], (n : Int) - ((c :: r).length : Int), 6)
      | some (k, t, r') => toksF n f r' (acc ++ [⟨k, ⟨t⟩, (n : Int) - ((c :: r).length : Int)⟩])
theorem toksF_succ (n f : Nat) (b : List UInt8) (acc : List GTok) : toksF n (f + 1) b acc = match wh .out b with
    | [] => (acc ++ [⟨0, ⟨[]⟩, (n : Int)⟩], 0, 0)
    | c :: r => match oneS (c :: r) with
      | none => ([], (n : Int) - ((c :: r).length : Int), 6)
      | some (k, t, r') => toksF n f r' (acc ++ [⟨k, ⟨t⟩, (n : Int) - ((c :: r).length : Int)⟩]) := rfl
def toks (b : List UInt8) : List GTok × Int × Int := bif decide (8000 < b.length) then ([], 0, 5) else toksF b.length (b.length + 1) b []
theorem wh_len : ∀ (b : List UInt8) (st : Wst), (wh st b).length ≤ b.length
  | [], st => by cases st <;> simp [wh]
  | c :: r, .out => by
    have h1 := wh_len r .out
    have h2 := wh_len r .start
    simp only [wh]
    cases isWh c <;> simp only [cond_true, cond_false]
    · cases decide (c = 45) && decide (hd r = 45) <;> simp only [cond_true, cond_false, List.length_cons] <;> omega
    · simp only [List.length_cons]; omega
  | c :: r, .start => by have := wh_len r .ins; simp only [wh, List.length_cons]; omega
  | c :: r, .ins => by
    have h1 := wh_len r .out
    have h2 := wh_len r .fin
    have h3 := wh_len r .ins
    simp only [wh, List.length_cons]
    cases decide (c = 10) <;> simp only [cond_true, cond_false]
    · cases decide (c = 45) && decide (hd r = 45) <;> simp only [cond_true, cond_false] <;> omega
    · omega
  | c :: r, .fin => by have := wh_len r .out; simp only [wh, List.length_cons]; omega
theorem wh_suf : ∀ (b : List UInt8) (st : Wst), ∃ n, wh st b = b.drop n
  | [], st => ⟨0, by cases st <;> simp [wh]⟩
  | c :: r, .out => by
    obtain ⟨n1, h1⟩ := wh_suf r .out
    obtain ⟨n2, h2⟩ := wh_suf r .start
    simp only [wh]
    cases isWh c <;> simp only [cond_true, cond_false]
    · cases decide (c = 45) && decide (hd r = 45) <;> simp only [cond_true, cond_false]
      · exact ⟨0, rfl⟩
      · exact ⟨n2 + 1, h2⟩
    · exact ⟨n1 + 1, h1⟩
  | c :: r, .start => by obtain ⟨n, h⟩ := wh_suf r .ins; exact ⟨n + 1, h⟩
  | c :: r, .ins => by
    obtain ⟨n1, h1⟩ := wh_suf r .out
    obtain ⟨n2, h2⟩ := wh_suf r .fin
    obtain ⟨n3, h3⟩ := wh_suf r .ins
    simp only [wh]
    cases decide (c = 10) <;> simp only [cond_true, cond_false]
    · cases decide (c = 45) && decide (hd r = 45) <;> simp only [cond_true, cond_false]
      · exact ⟨n3 + 1, h3⟩
      · exact ⟨n2 + 1, h2⟩
    · exact ⟨n1 + 1, h1⟩
  | c :: r, .fin => by obtain ⟨n, h⟩ := wh_suf r .out; exact ⟨n + 1, h⟩
theorem qd_suf : ∀ (b : List UInt8) (f : Bool) (acc t r : List UInt8), qd f b acc = some (t, r) → ∃ n, r = b.drop n
  | [], f, acc, t, r, h => by cases f <;> simp [qd] at h
  | c :: b, true, acc, t, r, h => by
    simp only [qd] at h
    obtain ⟨n, e⟩ := qd_suf b _ _ _ _ h
    exact ⟨n + 1, e⟩
  | c :: b, false, acc, t, r, h => by
    simp only [qd] at h
    by_cases h1 : c = 34
    · simp only [decide_eq_true h1, cond_true] at h
      by_cases h2 : hd b = 34
      · simp only [decide_eq_true h2, cond_true] at h
        obtain ⟨n, e⟩ := qd_suf b _ _ _ _ h
        exact ⟨n + 1, e⟩
      · simp only [decide_eq_false h2, cond_false] at h
        cases hv : Lib.validD acc with
        | true => rw [hv] at h; simp at h; exact ⟨1, h.2.symm⟩
        | false => rw [hv] at h; cases h
    · simp only [decide_eq_false h1, cond_false] at h
      obtain ⟨n, e⟩ := qd_suf b _ _ _ _ h
      exact ⟨n + 1, e⟩
theorem oneS_suf {b t r : List UInt8} {k : Int} (h : oneS b = some (k, t, r)) : ∃ n, r = b.drop n := by
  unfold oneS at h
  simp only at h
  cases h1 : isLetter (hd b) with
  | true =>
    rw [h1, cond_true] at h
    cases h2 : nmBad b with
    | true => rw [h2] at h; cases h
    | false =>
      rw [h2] at h
      simp only [cond_false, Option.some.injEq, Prod.mk.injEq] at h
      exact ⟨_, h.2.2.symm⟩
  | false =>
    rw [h1, cond_false] at h
    cases h2 : isDigit (hd b) || (decide (hd b = 45) && isDigit (hd (b.drop 1))) with
    | true =>
      rw [h2, cond_true] at h
      cases h3 : numLen b with
      | none => rw [h3] at h; cases h
      | some n =>
        rw [h3] at h
        simp only [Option.some.injEq, Prod.mk.injEq] at h
        exact ⟨_, h.2.2.symm⟩
    | false =>
      rw [h2, cond_false] at h
      by_cases h3 : hd b = 39
      · rw [decide_eq_true h3, cond_true] at h
        cases h4 : hexBad (b.drop 1) with
        | true => rw [h4] at h; cases h
        | false =>
          rw [h4] at h
          simp only [cond_false, Option.some.injEq, Prod.mk.injEq, List.drop_drop] at h
          exact ⟨_, h.2.2.symm⟩
      · rw [decide_eq_false h3, cond_false] at h
        by_cases h4 : hd b = 34
        · rw [decide_eq_true h4, cond_true] at h
          cases h5 : qd false (b.drop 1) [] with
          | none => rw [h5] at h; cases h
          | some q =>
            rw [h5] at h
            obtain ⟨t', r'⟩ := q
            simp only [Option.some.injEq, Prod.mk.injEq] at h
            obtain ⟨n, e⟩ := qd_suf _ _ _ _ _ h5
            rw [List.drop_drop] at e
            exact ⟨_, h.2.2.symm.trans e⟩
        · rw [decide_eq_false h4, cond_false] at h
          by_cases h5 : 0 < sg b
          · rw [decide_eq_true h5, cond_true] at h
            simp only [Option.some.injEq, Prod.mk.injEq] at h
            exact ⟨_, h.2.2.symm⟩
          · rw [decide_eq_false h5] at h; cases h
theorem suf_drop {b r : List UInt8} {n : Nat} (h : r = b.drop n) : b.drop (b.length - r.length) = r := by
  subst h
  rw [List.length_drop]
  rcases Nat.lt_or_ge b.length n with h2 | h2
  · rw [List.drop_eq_nil_of_le (show b.length ≤ n by omega), List.drop_eq_nil_of_le (by omega)]
  · congr 1; omega

theorem tokens_eq (s : Str) : r04_Tokens s = some (toks s.b) := by
  refine tx ?_
  unfold r04_Tokens toks
  refine T.br (fun h => T.some ?_) fun h => ?_
  · have h := of_decide_eq_true h
    rw [decide_eq_true (show 8000 < s.b.length by omega)]; rfl
  have hl := of_decide_eq_false h
  rw [decide_eq_false (show ¬ 8000 < s.b.length by omega), cond_false]
  refine T.lp (ι := List GTok × Int) (fun (q : List GTok × Int) => 0 ≤ q.2 ∧ q.2 ≤ (s.b.length : Int) ∧ (q.1.length : Int) ≤ q.2 ∧ ∃ f, (s.b.drop q.2.toNat).length < f ∧ toksF s.b.length (s.b.length + 1) s.b [] = toksF s.b.length f (s.b.drop q.2.toNat) q.1) (fun (q : List GTok × Int) => ((s.b.length : Int) - q.2).toNat) ⟨Int.le_refl _, by dsimp only; omega, by simp, s.b.length + 1, by simp, rfl⟩ (by dsimp only; omega) fun L q hq hL => ?_
  obtain ⟨l, k⟩ := q
  obtain ⟨h1, h2, h3, f, h4, h5⟩ := hq
  simp only at h1 h2 h3 h4 h5 ⊢
  rw [h5] at hL ⊢
  cases f with
  | zero => omega
  | succ f =>
    have hwl := wh_len (s.b.drop k.toNat) .out
    rw [List.length_drop] at hwl h4
    obtain ⟨nw, hw⟩ := wh_suf (s.b.drop k.toNat) .out
    rw [List.drop_drop] at hw
    have hsw := suf_drop hw
    refine T.eq (white_eq s k h1 h2 (by omega)) ?_
    rw [toksF_succ] at hL ⊢
    cases hwh : wh .out (s.b.drop k.toNat) with
    | nil =>
      simp only [hwh] at hL ⊢
      refine T.br (fun _ => T.abl (by simp only [List.length_cons, List.length_nil]; omega) (T.some rfl)) fun h6 => ?_
      have := of_decide_eq_false h6
      simp at this
    | cons c r =>
      simp only [hwh] at hL ⊢ 
      rw [hwh] at hwl hsw
      have hcl : 0 < (c :: r).length := by simp
      refine T.br (fun h6 => by have := of_decide_eq_true h6; omega) fun _ => ?_
      have hi : ((s.b.length : Int) - ((c :: r).length : Int)).toNat = s.b.length - (c :: r).length := by omega
      refine T.cal (one_eq s ((s.b.length : Int) - ((c :: r).length : Int)) (by omega) (by omega) (by omega)) fun q _ hq => ?_
      rw [hi, hsw] at hq
      cases ho : oneS (c :: r) with
      | none =>
        rw [ho] at hq
        simp only [ho] at hL ⊢
        simp only at hq
        exact T.br (fun _ => T.some rfl) fun h7 => by have := of_decide_eq_false h7; omega
      | some p =>
        obtain ⟨kd, t, r'⟩ := p
        rw [ho] at hq
        simp only [ho] at hL ⊢
        simp only at hq
        subst hq
        have hol := oneS_len ho
        obtain ⟨no, hso⟩ := oneS_suf ho
        have hso2 : r' = s.b.drop (s.b.length - (c :: r).length + no) := by rw [hso, ← List.drop_drop, hsw]
        have hsd := suf_drop hso2
        refine T.br (fun h7 => by have := of_decide_eq_true h7; dsimp only at this; omega) fun _ => T.abl (by simp only [List.length_cons, List.length_nil]; omega) (hL _ ⟨by dsimp only; omega, by dsimp only; omega, ?_, f, ?_, ?_⟩ (by dsimp only; omega))
        · dsimp only; rw [List.length_append, List.length_singleton]; omega
        · dsimp only
          rw [show ((s.b.length : Int) - (r'.length : Int)).toNat = s.b.length - r'.length by omega, hsd]
          omega
        · dsimp only
          rw [show ((s.b.length : Int) - (r'.length : Int)).toNat = s.b.length - r'.length by omega, hsd]
end Go.Proofs.YtiibmpdjkdjbiaaGreatDoor


namespace Go.Proofs.YtiibmpdjkdjbiaaGreatDoor
open Go.Sy
set_option linter.unusedVariables false

inductive KT : List UInt8 → List (Int × List UInt8) → Prop
  | fin {b : List UInt8} : wh .out b = [] → KT b []
  | tok {b r r' t : List UInt8} {c : UInt8} {k : Int} {ks : List (Int × List UInt8)} : wh .out b = c :: r → oneS (c :: r) = some (k, t, r') → KT r' ks → KT b ((k, t) :: ks)
def kt (t : GTok) : Int × List UInt8 := (t.kind, t.text.b)
theorem toksF_KT {n : Nat} {b : List UInt8} {ks : List (Int × List UInt8)} (h : KT b ks) : ∀ f acc, b.length < f → ∃ l, toksF n f b acc = (acc ++ l, 0, 0) ∧ l.map kt = ks ++ [(0, [])] := by
  induction h with
  | @fin b h =>
    intro f acc hf
    obtain ⟨f, rfl⟩ : ∃ g, f = g + 1 := ⟨f - 1, by omega⟩
    rw [toksF_succ, h]
    exact ⟨_, rfl, rfl⟩
  | @tok b r r' t c k ks h1 h2 _ ih =>
    intro f acc hf
    obtain ⟨f, rfl⟩ : ∃ g, f = g + 1 := ⟨f - 1, by omega⟩
    have h3 := oneS_len h2
    have h4 := wh_len b .out
    rw [h1] at h4
    obtain ⟨l, e1, e2⟩ := ih f (acc ++ [⟨k, ⟨t⟩, (n : Int) - ((c :: r).length : Int)⟩]) (by omega)
    rw [toksF_succ, h1]
    simp only [h2]
    rw [e1]
    exact ⟨⟨k, ⟨t⟩, (n : Int) - ((c :: r).length : Int)⟩ :: l, by rw [List.append_assoc]; rfl, by rw [List.map_cons, e2]; rfl⟩
theorem toks_KT {b : List UInt8} {ks : List (Int × List UInt8)} (h : KT b ks) (hl : b.length ≤ 8000) : ∃ l, toks b = (l, 0, 0) ∧ l.map kt = ks ++ [(0, [])] := by
  unfold toks
  rw [decide_eq_false (show ¬ 8000 < b.length by omega), cond_false]
  obtain ⟨l, e1, e2⟩ := toksF_KT (n := b.length) h (b.length + 1) [] (by omega)
  exact ⟨l, by rw [e1, List.nil_append], e2⟩

/-! ### White -/
theorem KT.sp {b : List UInt8} {ks : List (Int × List UInt8)} (h : KT b ks) : KT (32 :: b) ks := by
  cases h with
  | fin h => exact .fin h
  | tok h1 h2 h3 => exact .tok h1 h2 h3
theorem wh_non {c : UInt8} {r : List UInt8} (h1 : isWh c = false) (h2 : c ≠ 45 ∨ hd r ≠ 45) : wh .out (c :: r) = c :: r := by
  have e : (decide (c = 45) && decide (hd r = 45)) = false := by
    rcases h2 with h | h
    · rw [decide_eq_false h]; rfl
    · rw [decide_eq_false h, Bool.and_false]
  show (bif isWh c then wh .out r else bif decide (c = 45) && decide (hd r = 45) then wh .start r else c :: r) = _
  rw [h1, e]; rfl
theorem hd_app {w x : List UInt8} : hd (w ++ x) = hd (w ++ [hd x]) := by
  cases w with
  | nil => rfl
  | cons c w => rfl

/-! ### Names -/
def nmAll : List UInt8 → UInt8 → Bool
  | [], _ => true
  | c :: w, d => inName c (w ++ [d]) && nmAll w d
def stopN : List UInt8 → Bool
  | [] => true
  | d :: r => !inName d r
theorem inName_hd {c : UInt8} {r s : List UInt8} (h : hd r = hd s) : inName c r = inName c s := by unfold inName; rw [h]
theorem nm_app {x : List UInt8} (hs : stopN x = true) : ∀ {w : List UInt8}, nmAll w (hd x) = true → nm (w ++ x) = w.length
  | [], _ => by
    cases x with
    | nil => rfl
    | cons d r =>
      have : inName d r = false := by
        have hs2 : (!inName d r) = true := hs
        cases h : inName d r with
        | true => rw [h] at hs2; cases hs2
        | false => rfl
      show (bif inName d r then nm r + 1 else 0) = 0
      rw [this]; rfl
  | c :: w, h => by
    unfold nmAll at h
    rw [Bool.and_eq_true] at h
    show (bif inName c (w ++ x) then nm (w ++ x) + 1 else 0) = w.length + 1
    rw [inName_hd hd_app, h.1, nm_app hs h.2]; rfl
def kindN (w : List UInt8) : Int := bif isWord w then 5 else bif decide (hd w ≤ 90) then 1 else 2
theorem hd_appl {w x : List UInt8} (h : w ≠ []) : hd (w ++ x) = hd w := by
  cases w with
  | nil => exact absurd rfl h
  | cons c w => rfl
theorem ne_of_letter {w : List UInt8} (h : isLetter (hd w) = true) : w ≠ [] := fun e => by subst e; cases h
theorem one_name {w x : List UInt8} (h0 : isLetter (hd w) = true) (h1 : nmAll w (hd x) = true) (h2 : stopN x = true) (h3 : w.getLast? ≠ some 45) (h4 : w.length ≤ 60) : oneS (w ++ x) = some (kindN w, w, x) := by
  have hn := nm_app h2 h1
  have hb : nmBad (w ++ x) = false := by
    unfold nmBad
    rw [hn, List.take_left, decide_eq_false h3, decide_eq_false (by omega)]; rfl
  unfold oneS
  simp only
  rw [hd_appl (ne_of_letter h0), h0, hb, hn, List.take_left, List.drop_left]
  rfl
theorem letter_wh {c : UInt8} (h : isLetter c = true) : isWh c = false ∧ c ≠ 45 := by
  unfold isLetter at h
  unfold isWh
  simp only [Bool.or_eq_true, Bool.and_eq_true, decide_eq_true_eq, UInt8.le_iff_toNat_le] at h
  have e : ∀ n : UInt8, n.toNat ≤ 45 → c ≠ n := fun n hn e => by
    subst e
    have e1 : (97 : UInt8).toNat = 97 := rfl
    have e2 : (65 : UInt8).toNat = 65 := rfl
    omega
  rw [decide_eq_false (e 32 (by decide)), decide_eq_false (e 9 (by decide)), decide_eq_false (e 10 (by decide)), decide_eq_false (e 13 (by decide))]
  exact ⟨rfl, e 45 (by decide)⟩
theorem KT.name {w x : List UInt8} {ks : List (Int × List UInt8)} (h0 : isLetter (hd w) = true) (h1 : nmAll w (hd x) = true) (h2 : stopN x = true) (h3 : w.getLast? ≠ some 45) (h4 : w.length ≤ 60) (h : KT x ks) : KT (w ++ x) ((kindN w, w) :: ks) := by
  cases hw : w with
  | nil => rw [hw] at h0; cases h0
  | cons c r =>
    have hc : isLetter c = true := by rw [hw] at h0; exact h0
    obtain ⟨e1, e2⟩ := letter_wh hc
    have := one_name h0 h1 h2 h3 h4
    rw [hw] at this
    exact .tok (wh_non e1 (.inl e2)) this h

/-! ### Numbers -/
def digs2 (d : List UInt8) : Bool := d.all isDigit
theorem dg_app {x : List UInt8} (hs : isDigit (hd x) = false) : ∀ {d : List UInt8}, digs2 d = true → dg (d ++ x) = d.length
  | [], _ => by
    cases x with
    | nil => rfl
    | cons c r =>
      show (bif isDigit c then dg r + 1 else 0) = 0
      have : isDigit c = false := hs
      rw [this]; rfl
  | c :: d, h => by
    unfold digs2 at h
    rw [List.all_cons, Bool.and_eq_true] at h
    show (bif isDigit c then dg (d ++ x) + 1 else 0) = d.length + 1
    rw [h.1, dg_app hs h.2]; rfl
def numOk (m : Bool) (d : List UInt8) : Bool := digs2 d && decide (1 ≤ d.length) && decide (d.length ≤ 19) && (decide (d.length ≤ 1) || !decide (hd d = 48)) && (!m || !decide (hd d = 48)) && decide ((uval d).toNat ≤ (if m then 9223372036854775808 else 9223372036854775807))
theorem numBad_app {m : Bool} {d x : List UInt8} (h : numOk m d = true) (h1 : isDigit (hd x) = false) (h2 : isLetter (hd x) = false) : numBad m (d ++ x) = false := by
  unfold numOk at h
  simp only [Bool.and_eq_true, decide_eq_true_eq] at h
  obtain ⟨⟨⟨⟨⟨h3, h4⟩, h5⟩, h6⟩, h7⟩, h8⟩ := h
  have hne : d ≠ [] := fun e => by subst e; simp at h4
  have hn := dg_app h1 h3
  unfold numBad
  rw [hn, hd_appl hne, List.drop_left, List.take_left, h2, decide_eq_false (show ¬ d.length < 1 by omega), decide_eq_false (show ¬ 19 < d.length by omega)]
  have e1 : (decide (1 < d.length) && decide (hd d = 48)) = false := by
    rw [Bool.or_eq_true] at h6
    rcases h6 with h | h
    · rw [decide_eq_false (by have := of_decide_eq_true h; omega)]; rfl
    · have : decide (hd d = 48) = false := by simpa using h
      rw [this, Bool.and_false]
  have e2 : (m && decide (hd d = 48)) = false := by
    rw [Bool.or_eq_true] at h7
    rcases h7 with h | h
    · have : m = false := by simpa using h
      rw [this]; rfl
    · have : decide (hd d = 48) = false := by simpa using h
      rw [this, Bool.and_false]
  have e3 : decide ((9223372036854775808 : UInt64) < uval d) = false := by
    refine decide_eq_false fun h => ?_
    have h := UInt64.lt_iff_toNat_lt.1 h
    have e : (9223372036854775808 : UInt64).toNat = 9223372036854775808 := rfl
    cases m with
    | true => rw [if_pos rfl] at h8; omega
    | false => rw [if_neg (by decide)] at h8; omega
  have e4 : (!m && decide (uval d = 9223372036854775808)) = false := by
    cases m with
    | true => rfl
    | false =>
      rw [if_neg (by decide)] at h8
      have : ¬ uval d = 9223372036854775808 := fun e => by
        rw [e] at h8
        have e : (9223372036854775808 : UInt64).toNat = 9223372036854775808 := rfl
        omega
      rw [decide_eq_false this]; rfl
  rw [e1, e2, e3, e4]; rfl
theorem digit_not {c : UInt8} (h : isDigit c = true) : isLetter c = false ∧ isWh c = false ∧ c ≠ 45 := by
  unfold isDigit at h
  simp only [Bool.and_eq_true, decide_eq_true_eq, UInt8.le_iff_toNat_le] at h
  have a1 : (48 : UInt8).toNat = 48 := rfl
  have a2 : (57 : UInt8).toNat = 57 := rfl
  have e : ∀ n : UInt8, n.toNat ≤ 45 → c ≠ n := fun n hn e => by subst e; omega
  refine ⟨?_, ?_, e 45 (by decide)⟩
  · unfold isLetter
    have b1 : (97 : UInt8).toNat = 97 := rfl
    have b2 : (65 : UInt8).toNat = 65 := rfl
    rw [decide_eq_false (show ¬ (97 : UInt8) ≤ c from fun h => by have := UInt8.le_iff_toNat_le.1 h; omega), decide_eq_false (show ¬ (65 : UInt8) ≤ c from fun h => by have := UInt8.le_iff_toNat_le.1 h; omega)]; rfl
  · unfold isWh
    rw [decide_eq_false (e 32 (by decide)), decide_eq_false (e 9 (by decide)), decide_eq_false (e 10 (by decide)), decide_eq_false (e 13 (by decide))]; rfl
theorem numOk_ne {m : Bool} {d : List UInt8} (h : numOk m d = true) : d ≠ [] := fun e => by subst e; cases m <;> cases h
theorem numOk_hd {m : Bool} {d : List UInt8} (h : numOk m d = true) : isDigit (hd d) = true := by
  cases d with
  | nil => exact absurd rfl (numOk_ne h)
  | cons c r =>
    unfold numOk digs2 at h
    simp only [Bool.and_eq_true, List.all_cons] at h
    exact h.1.1.1.1.1.1
theorem one_num {d x : List UInt8} (h : numOk false d = true) (h1 : isDigit (hd x) = false) (h2 : isLetter (hd x) = false) : oneS (d ++ x) = some (3, d, x) := by
  have hc := numOk_hd h
  obtain ⟨e1, e2, e3⟩ := digit_not hc
  have hn : numLen (d ++ x) = some d.length := by
    unfold numLen
    have hd2 : digs2 d = true := by
      unfold numOk at h
      simp only [Bool.and_eq_true] at h
      exact h.1.1.1.1.1
    rw [hd_appl (numOk_ne h), decide_eq_false e3, cond_false, numBad_app h h1 h2, cond_false, dg_app h1 hd2]
  unfold oneS
  simp only
  rw [hd_appl (numOk_ne h), e1, hc, Bool.true_or, cond_true, cond_false, hn]
  simp only [List.take_left, List.drop_left]
theorem one_neg {d x : List UInt8} (h : numOk true d = true) (h1 : isDigit (hd x) = false) (h2 : isLetter (hd x) = false) : oneS (45 :: (d ++ x)) = some (3, 45 :: d, x) := by
  have hc := numOk_hd h
  have hn : numLen (45 :: (d ++ x)) = some (d.length + 1) := by
    unfold numLen
    have hd2 : digs2 d = true := by
      unfold numOk at h
      simp only [Bool.and_eq_true] at h
      exact h.1.1.1.1.1
    show (bif numBad true (d ++ x) then none else some (dg (d ++ x) + 1)) = _
    rw [numBad_app h h1 h2, cond_false, dg_app h1 hd2]
  unfold oneS
  have e : isDigit (hd ((45 :: (d ++ x)).drop 1)) = true := by
    show isDigit (hd (d ++ x)) = true
    rw [hd_appl (numOk_ne h)]; exact hc
  simp only
  rw [show isLetter (hd (45 :: (d ++ x))) = false from rfl, show isDigit (hd (45 :: (d ++ x))) = false from rfl, show decide (hd (45 :: (d ++ x)) = 45) = true from rfl, e, hn]
  show some (3, (45 :: (d ++ x)).take (d.length + 1), (45 :: (d ++ x)).drop (d.length + 1)) = _
  rw [List.take_succ_cons, List.drop_succ_cons, List.take_left, List.drop_left]
theorem KT.num {d x : List UInt8} {ks : List (Int × List UInt8)} (h : numOk false d = true) (h1 : isDigit (hd x) = false) (h2 : isLetter (hd x) = false) (hk : KT x ks) : KT (d ++ x) ((3, d) :: ks) := by
  have := one_num h h1 h2
  have hc := numOk_hd h
  cases hw : d with
  | nil => exact absurd hw (numOk_ne h)
  | cons c r =>
    rw [hw] at this hc
    obtain ⟨_, e2, e3⟩ := digit_not hc
    exact .tok (wh_non e2 (.inl e3)) this hk
theorem KT.neg {d x : List UInt8} {ks : List (Int × List UInt8)} (h : numOk true d = true) (h1 : isDigit (hd x) = false) (h2 : isLetter (hd x) = false) (hk : KT x ks) : KT (45 :: (d ++ x)) ((3, 45 :: d) :: ks) := by
  have hc := numOk_hd h
  refine .tok (wh_non rfl (.inr ?_)) (one_neg h h1 h2) hk
  rw [hd_appl (numOk_ne h)]
  exact (digit_not hc).2.2

/-! ### Signs -/
/-- May that stand behind a sign? -/
def sgN (s : List UInt8) (d : UInt8) : Bool := !(decide (s = [91]) && decide (d = 91)) && !(decide (s = [93]) && decide (d = 93)) && !(decide (s = [46, 46]) && decide (d = 46)) && !(decide (s = [58]) && decide (d = 58))
theorem sg_app {s : List UInt8} (hs : s ∈ sgs) {x : List UInt8} (h : sgN s (hd x) = true) : sg (s ++ x) = s.length := by
  have n1 : ∀ (p c : UInt8) (r : List UInt8), hd r ≠ c → isPre [p, c] (p :: r) = false := fun p c r h => by
    cases r with
    | nil => show (bif decide (p = p) then false else false) = false; cases decide (p = p) <;> rfl
    | cons d r =>
      have : ¬ c = d := fun e => h e.symm
      show (bif decide (p = p) then (bif decide (c = d) then true else false) else false) = false
      rw [decide_eq_false this]; cases decide (p = p) <;> rfl
  have n2 : ∀ (p q c : UInt8) (r : List UInt8), hd r ≠ c → isPre [p, q, c] (p :: q :: r) = false := fun p q c r h => by
    cases r with
    | nil => show (bif decide (p = p) then (bif decide (q = q) then false else false) else false) = false; cases decide (p = p) <;> cases decide (q = q) <;> rfl
    | cons d r =>
      have : ¬ c = d := fun e => h e.symm
      show (bif decide (p = p) then (bif decide (q = q) then (bif decide (c = d) then true else false) else false) else false) = false
      rw [decide_eq_false this]; cases decide (p = p) <;> cases decide (q = q) <;> rfl
  have n3 : ∀ (p q c : UInt8) (r : List UInt8), hd r ≠ q → isPre [p, q, c] (p :: r) = false := fun p q c r h => by
    cases r with
    | nil => show (bif decide (p = p) then false else false) = false; cases decide (p = p) <;> rfl
    | cons d r =>
      have : ¬ q = d := fun e => h e.symm
      show (bif decide (p = p) then (bif decide (q = d) then isPre [c] r else false) else false) = false
      rw [decide_eq_false this]; cases decide (p = p) <;> rfl
  unfold sgN at h
  simp only [Bool.and_eq_true] at h
  obtain ⟨⟨⟨h1, h2⟩, h3⟩, h4⟩ := h
  have sp : ∀ {s' : List UInt8} {d : UInt8}, s = s' → (!(decide (s = s') && decide (hd x = d))) = true → hd x ≠ d := fun {s' d} e h hd => by
    rw [decide_eq_true e, decide_eq_true hd] at h; cases h
  simp only [sgs, List.mem_cons, List.not_mem_nil, or_false] at hs
  rcases hs with e | e | e | e | e | e | e | e | e | e | e | e | e
  · subst e; rfl
  · subst e; rfl
  · have := sp e h3
    subst e
    show (bif isPre [46, 46, 46] (46 :: 46 :: x) then 3 else 2) = 2
    rw [n2 _ _ _ _ this]; rfl
  · subst e; rfl
  · subst e; rfl
  · subst e; rfl
  · subst e; rfl
  · have := sp e h1
    subst e
    show (bif isPre [91, 91] (91 :: x) then 2 else 1) = 1
    rw [n1 _ _ _ this]; rfl
  · have := sp e h2
    subst e
    show (bif isPre [93, 93] (93 :: x) then 2 else 1) = 1
    rw [n1 _ _ _ this]; rfl
  · subst e; rfl
  · subst e; rfl
  · subst e; rfl
  · have := sp e h4
    subst e
    show (bif isPre [58, 58, 61] (58 :: x) then 3 else 1) = 1
    rw [n3 _ _ _ _ this]; rfl
theorem one_sign {s : List UInt8} (hs : s ∈ sgs) {x : List UInt8} (h : sgN s (hd x) = true) : oneS (s ++ x) = some (6, s, x) ∧ wh .out (s ++ x) = s ++ x := by
  have hg := sg_app hs h
  have hl : 0 < s.length := by
    simp only [sgs, List.mem_cons, List.not_mem_nil, or_false] at hs
    rcases hs with e | e | e | e | e | e | e | e | e | e | e | e | e <;> subst e <;> decide
  have key : (bif decide (0 < sg (s ++ x)) then some ((6 : Int), (s ++ x).take (sg (s ++ x)), (s ++ x).drop (sg (s ++ x))) else none) = some (6, s, x) := by
    rw [hg, decide_eq_true hl, cond_true, List.take_left, List.drop_left]
  simp only [sgs, List.mem_cons, List.not_mem_nil, or_false] at hs
  rcases hs with e | e | e | e | e | e | e | e | e | e | e | e | e <;> subst e <;> exact ⟨key, rfl⟩
theorem KT.sign {s : List UInt8} (hs : s ∈ sgs) {x : List UInt8} {ks : List (Int × List UInt8)} (h : sgN s (hd x) = true) (hk : KT x ks) : KT (s ++ x) ((6, s) :: ks) := by
  obtain ⟨h1, h2⟩ := one_sign hs h
  cases hw : s ++ x with
  | nil => rw [hw] at h1; cases h1
  | cons c r =>
    rw [hw] at h1 h2
    exact .tok h2 h1 hk

def esc : List UInt8 → List UInt8
  | [] => []
  | c :: s => if c = 34 then 34 :: 34 :: esc s else c :: esc s
theorem qd_esc {x : List UInt8} (hx : hd x ≠ 34) : ∀ (s acc : List UInt8), qd false (esc s ++ 34 :: x) acc = bif Lib.validD (acc ++ s) then some (acc ++ s, x) else none
  | [], acc => by
    show (bif decide ((34 : UInt8) = 34) then bif decide (hd x = 34) then qd true x acc else bif Lib.validD acc then some (acc, x) else none else _) = _
    rw [decide_eq_false hx, List.append_nil]; rfl
  | c :: s, acc => by
    by_cases hc : c = 34
    · subst hc
      have := qd_esc hx s (acc ++ [34])
      rw [List.append_assoc] at this
      exact this
    · have := qd_esc hx s (acc ++ [c])
      rw [List.append_assoc] at this
      unfold esc
      rw [if_neg hc]
      show (bif decide (c = 34) then _ else qd false (esc s ++ 34 :: x) (acc ++ [c])) = _
      rw [decide_eq_false hc]
      exact this
theorem one_str {s x : List UInt8} (hx : hd x ≠ 34) (hv : Lib.validD s = true) : oneS (34 :: (esc s ++ 34 :: x)) = some (7, s, x) := by
  have := qd_esc hx s []
  rw [List.nil_append, hv, cond_true] at this
  show (match qd false (esc s ++ 34 :: x) [] with
    | none => none
    | some (t, r) => some ((7 : Int), t, r)) = _
  rw [this]
theorem KT.str {s x : List UInt8} {ks : List (Int × List UInt8)} (hx : hd x ≠ 34) (hv : Lib.validD s = true) (hk : KT x ks) : KT (34 :: (esc s ++ 34 :: x)) ((7, s) :: ks) :=
  .tok (wh_non rfl (.inl (by decide))) (one_str hx hv) hk
end Go.Proofs.YtiibmpdjkdjbiaaGreatDoor


namespace Go.Proofs.YtiibmpdjkdjbiaaGreatDoor
open Go.Sy
set_option linter.unusedVariables false

abbrev KS := List (Int × List UInt8)
structure Sg (L : List GTok) (a : Int) (ks : KS) : Prop where
  a0 : 0 ≤ a
  len : L.length ≤ 9000
  dr : (L.drop a.toNat).map kt = ks ++ [(0, [])]
theorem Sg.get {L a k ks} (h : Sg L a (k :: ks)) : ∃ t, L[a.toNat]? = some t ∧ kt t = k := by
  have h1 := h.dr
  cases hd : L.drop a.toNat with
  | nil => rw [hd] at h1; cases h1
  | cons t r =>
    rw [hd] at h1
    have e : L[a.toNat]? = some t := by
      have := List.getElem?_drop (xs := L) (i := a.toNat) (j := 0)
      rw [hd] at this
      simpa using this.symm
    exact ⟨t, e, (List.cons.inj h1).1⟩
theorem Sg.end_ {L a} (h : Sg L a []) : ∃ t, L[a.toNat]? = some t ∧ t.kind = 0 := by
  have h1 := h.dr
  cases hd : L.drop a.toNat with
  | nil => rw [hd] at h1; cases h1
  | cons t r =>
    rw [hd] at h1
    have e : L[a.toNat]? = some t := by
      have := List.getElem?_drop (xs := L) (i := a.toNat) (j := 0)
      rw [hd] at this
      simpa using this.symm
    exact ⟨t, e, congrArg Prod.fst (List.cons.inj h1).1⟩
theorem Sg.size {L a ks} (h : Sg L a ks) : a.toNat + ks.length + 1 = L.length := by
  have h1 := congrArg List.length h.dr
  simp only [List.length_map, List.length_drop, List.length_append, List.length_singleton] at h1
  omega
theorem Sg.tl {L a k ks} (h : Sg L a (k :: ks)) : Sg L (a + 1) ks := by
  refine ⟨by have := h.a0; omega, h.len, ?_⟩
  have h1 := h.dr
  have e : (a + 1).toNat = a.toNat + 1 := by have := h.a0; omega
  rw [e, ← List.drop_drop, List.map_drop, h1]; rfl
theorem Sg.app {L a} : ∀ {xs ks : KS}, Sg L a (xs ++ ks) → Sg L (a + xs.length) ks := by
  intro xs
  induction xs generalizing a with
  | nil => intro ks h; simpa using h
  | cons x xs ih =>
    intro ks h
    have := ih (ks := ks) (Sg.tl (k := x) h)
    rw [List.length_cons]
    rw [show a + ((xs.length + 1 : Nat) : Int) = a + 1 + (xs.length : Int) by omega]; exact this
theorem kt_kind {t : GTok} {k s} (h : kt t = (k, s)) : t.kind = k ∧ t.text = ⟨s⟩ := by
  unfold kt at h
  injection h with h1 h2
  exact ⟨h1, by cases ht : t.text with | mk b => rw [ht] at h2; exact congrArg Str.mk h2⟩
theorem getI_at {α : Type} {L : List α} {a : Int} {t : α} (h0 : 0 ≤ a) (h : L[a.toNat]? = some t) : getI L a = some t := by
  unfold getI
  cases a with
  | ofNat n => exact h
  | negSucc n => omega

section small
variable {L : List GTok} {a : Int} {m : GMod} {ks : KS} {k : Int} {s t : List UInt8} {p : Int}
theorem now_at (h : Sg L a ((k, t) :: ks)) {e : Int} : ∃ y, r05_parser_now ⟨L, a, m, e, p⟩ = some (y, ⟨L, a, m, e, p⟩) ∧ y.kind = k ∧ y.text = ⟨t⟩ := by
  obtain ⟨y, h1, h2⟩ := h.get
  refine ⟨y, ?_, kt_kind h2⟩
  unfold r05_parser_now
  dsimp only
  rw [getI_at h.a0 h1]; rfl
theorem next_at (h : Sg L a ((k, t) :: ks)) {e : Int} : ∃ y, r05_parser_next ⟨L, a, m, e, p⟩ = some (y, ⟨L, a + 1, m, e, p⟩) ∧ y.kind = k ∧ y.text = ⟨t⟩ := by
  obtain ⟨y, h1, h2⟩ := h.get
  refine ⟨y, ?_, kt_kind h2⟩
  have hs := h.size
  have h0 := h.a0
  have hl := h.len
  simp only [List.length_cons] at hs
  refine T.fin ?_
  unfold r05_parser_next
  refine T.eq (getI_at h.a0 h1) (T.ck (by dsimp only; omega) (T.jp0 (T.br (fun _ => T.ck (by dsimp only; omega) (T.some rfl)) fun h3 => ?_)))
  have h3 := of_decide_eq_false h3
  exact absurd (by dsimp only; omega) h3
def isK (k : Int) (t s : List UInt8) : Bool := (decide (k = 5) || decide (k = 6)) && decide (t = s)
theorem is_no (h : Sg L a ((k, t) :: ks)) (hn : isK k t s = false) : r05_parser_is ⟨L, a, m, 0, p⟩ ⟨s⟩ = some (false, ⟨L, a, m, 0, p⟩) := by
  obtain ⟨y, h1, h2, h3⟩ := now_at (m := m) (p := p) (e := 0) h
  unfold isK at hn
  refine T.fin ?_
  unfold r05_parser_is
  refine T.eq h1 ?_
  dsimp only
  rw [h2, h3]
  refine T.jp (fun b => b = (decide (k = 5) || decide (k = 6))) (fun J hJ => T.br (fun _ => T.jp0 (T.br (fun h => hJ _ (by rw [h]; rfl)) fun h => hJ _ (by rw [h]; rfl))) fun h => by cases h) fun b hb => ?_
  subst hb
  refine T.jp (fun b => b = false) (fun J hJ => T.br (fun h => hJ _ ?_) fun h => hJ _ rfl) fun b hb => ?_
  · rw [h] at hn
    refine decide_eq_false fun e => ?_
    injection e with e
    rw [decide_eq_true e] at hn; cases hn
  · subst hb; exact T.some rfl
theorem is_yes (h : Sg L a ((k, s) :: ks)) (hk : (decide (k = 5) || decide (k = 6)) = true) : r05_parser_is ⟨L, a, m, 0, p⟩ ⟨s⟩ = some (true, ⟨L, a + 1, m, 0, p⟩) := by
  obtain ⟨y, h1, h2, h3⟩ := now_at (m := m) (p := p) (e := 0) h
  obtain ⟨y', h4, _⟩ := next_at (m := m) (p := p) (e := 0) h
  refine T.fin ?_
  unfold r05_parser_is
  refine T.eq h1 ?_
  dsimp only
  rw [h2, h3]
  refine T.jp (fun b => b = true) (fun J hJ => T.br (fun _ => T.jp0 (T.br (fun h => hJ _ rfl) fun h => hJ _ (by rw [h] at hk; simpa using hk))) fun h => by cases h) fun b hb => ?_
  subst hb
  refine T.jp (fun b => b = true) (fun J hJ => T.br (fun h => hJ _ (decide_eq_true rfl)) fun h => by cases h) fun b hb => ?_
  subst hb
  refine T.br (fun _ => T.eq h4 (T.some rfl)) fun h => by cases h
theorem must_yes (h : Sg L a ((k, s) :: ks)) (hk : (decide (k = 5) || decide (k = 6)) = true) : r05_parser_must ⟨L, a, m, 0, p⟩ ⟨s⟩ = some ⟨L, a + 1, m, 0, p⟩ := by
  refine T.fin ?_
  unfold r05_parser_must
  refine T.jp0 (T.br (fun _ => T.eq (is_yes h hk) ?_) fun h => by cases h)
  exact T.br (fun h => by cases h) fun _ => T.some rfl
theorem kind_yes (h : Sg L a ((k, s) :: ks)) : r05_parser_kind ⟨L, a, m, 0, p⟩ k = some (⟨s⟩, ⟨L, a + 1, m, 0, p⟩) := by
  obtain ⟨y, h1, h2, h3⟩ := now_at (m := m) (p := p) (e := 0) h
  obtain ⟨y', h4, h5, h6⟩ := next_at (m := m) (p := p) (e := 0) h
  refine T.fin ?_
  unfold r05_parser_kind
  refine T.eq h1 ?_
  dsimp only
  rw [h2]
  refine T.jp (fun b => b = false) (fun J hJ => T.br (fun h => by cases h) fun _ => hJ _ (by rw [decide_eq_true rfl]; rfl)) fun b hb => ?_
  subst hb
  refine T.br (fun h => by cases h) fun _ => T.eq h4 (T.some ?_)
  rw [h6]
theorem number_yes {v : Int} (h : Sg L a ((3, s) :: ks)) (hs : s ≠ []) (hv : r05_Whole ⟨s⟩ = some v) : r05_parser_number ⟨L, a, m, 0, p⟩ = some (v, ⟨L, a + 1, m, 0, p⟩) := by
  refine T.fin ?_
  unfold r05_parser_number
  refine T.eq (kind_yes h) (T.br (fun h => ?_) fun _ => T.eq hv (T.some rfl))
  have h := of_decide_eq_true h
  injection h with h
  exact absurd h hs
end small

/-! ### Bounds and sizes -/
section bounds
variable {L : List GTok} {a : Int} {m : GMod} {ks : KS}
structure Num (s : List UInt8) (v : Int) : Prop where
  ne : s ≠ []
  val : r05_Whole ⟨s⟩ = some v
end bounds
end Go.Proofs.YtiibmpdjkdjbiaaGreatDoor


namespace Go.Proofs.YtiibmpdjkdjbiaaGreatDoor
open Go.Sy
set_option linter.unusedVariables false

def zm (μ : GMark) : GNode := ⟨0, ⟨[]⟩, μ, ⟨false, false, false, false, 0, 0⟩, [], [], 0, false, 0⟩
@[reducible] def noM : GMark := ⟨false, 0, 0⟩
def addN (m : GMod) (ns : List GNode) : GMod := ⟨m.name, m.tagging, m.names, m.types, m.nodes ++ ns⟩
theorem addN_nil (m : GMod) : addN m [] = m := by unfold addN; rw [List.append_nil]
theorem addN_addN (m : GMod) (a b : List GNode) : addN (addN m a) b = addN m (a ++ b) := by unfold addN; dsimp only; rw [List.append_assoc]
theorem addN_len (m : GMod) (a : List GNode) : (addN m a).nodes.length = m.nodes.length + a.length := by unfold addN; dsimp only; rw [List.length_append]

structure TypK (h : Nat) (ts : KS) (sz : Nat) (ns : Nat → List GNode) : Prop where
  len : ∀ i, (ns i).length = sz
  go : ∀ {n : Nat} {d : Int} {L : List GTok} {a : Int} {m : GMod} {k : Int} {t : List UInt8} {ks : KS}, 4 * h ≤ n → 0 ≤ d → d + h ≤ 17 → Sg L a (ts ++ (k, t) :: ks) → isK k t [40] = false → m.nodes.length + sz ≤ 300 →
    r05_parser_typ n ⟨L, a, m, 0, 0⟩ d = some ((m.nodes.length : Int), ⟨L, a + ts.length, addN m (ns m.nodes.length), 0, 0⟩)
structure BaseK (h : Nat) (ts : KS) (sz : Nat) (ns : Nat → List GNode) (f : GMark → Nat → GNode) : Prop where
  len : ∀ i, (ns i).length = sz
  go : ∀ {n : Nat} {d : Int} {L : List GTok} {a : Int} {m : GMod} {k : Int} {t : List UInt8} {ks : KS} (μ : GMark), 4 * h + 3 ≤ n → 0 ≤ d → d + h ≤ 16 → Sg L a (ts ++ (k, t) :: ks) → isK k t [40] = false → m.nodes.length + sz ≤ 300 →
    r05_parser_base n ⟨L, a, m, 0, 0⟩ (zm μ) d = some (⟨L, a + ts.length, addN m (ns m.nodes.length), 0, 0⟩, f μ m.nodes.length)
def Beg (k : Int) (t : List UInt8) : Prop := ∀ y : GTok, y.kind = k → y.text = ⟨t⟩ → r05_begins y = some true
theorem set_at {α : Type} (p : List α) (x y : α) (r : List α) : (p ++ x :: r).set p.length y = p ++ y :: r := by
  rw [List.set_append_right _ _ (Nat.le_refl _), Nat.sub_self]; rfl
theorem get_at {α : Type} (p : List α) (x : α) (r : List α) : (p ++ x :: r)[p.length]? = some x := by
  rw [List.getElem?_append_right (Nat.le_refl _), Nat.sub_self]; rfl
theorem typ_unf (n : Nat) : r05_parser_typ (n + 1) = r05_parser_typ_F (r05_parser_field n) (r05_parser_typ n) (r05_parser_base n) (r05_parser_fields n) := rfl
theorem typ_end {h : Nat} {bts : KS} {sz : Nat} {ns : Nat → List GNode} {f : GMark → Nat → GNode} (hb : BaseK h bts sz ns f) {n : Nat} {d : Int} {L : List GTok} {a : Int} {m : GMod} {k : Int} {t : List UInt8} {ks : KS} (μ : GMark) (h1 : 4 * h + 3 ≤ n) (h2 : 0 ≤ d) (h3 : d + h ≤ 16) (hA : Sg L a (bts ++ (k, t) :: ks)) (hk : isK k t [40] = false) (hm : m.nodes.length + (sz + 1) ≤ 300) (z : GNode) :
    T (fun r => r = ((m.nodes.length : Int), (⟨L, a + bts.length, addN m (f μ (m.nodes.length + 1) :: ns (m.nodes.length + 1)), 0, 0⟩ : GPar)))
      (cal (r05_parser_base n ⟨L, a, addN m [z], 0, 0⟩ (zm μ) d) fun y63 => br (!decide (y63.1.e = (0 : Int))) (some ((0 : Int), y63.1)) (asr (decide (0 ≤ ((m.nodes.length : Nat) : Int) ∧ ((m.nodes.length : Nat) : Int) < ((y63.1.m.nodes.length : Nat) : Int))) <| cal (y63.1.m.nodes[((m.nodes.length : Nat) : Int).toNat]?) fun y74 => some (((m.nodes.length : Nat) : Int), (GPar.mk y63.1.l y63.1.at_ (GMod.mk y63.1.m.name y63.1.m.tagging y63.1.m.names y63.1.m.types (y63.1.m.nodes.set (((m.nodes.length : Nat) : Int).toNat) y63.2)) y63.1.e y63.1.p)))) := by
  have e1 : (addN m [z]).nodes.length = m.nodes.length + 1 := by rw [addN_len]; rfl
  have hg := hb.go μ h1 h2 h3 hA hk (m := addN m [z]) (by rw [e1]; omega)
  rw [e1, addN_addN] at hg
  refine T.eq hg (T.brF rfl (T.asd ⟨by omega, ?_⟩ ?_))
  · dsimp only
    rw [addN_len]; simp only [List.length_append, List.length_cons]; omega
  · have e2 : (addN m ([z] ++ ns (m.nodes.length + 1))).nodes = m.nodes ++ z :: ns (m.nodes.length + 1) := rfl
    dsimp only
    rw [Int.toNat_natCast, e2, get_at, set_at]
    exact T.some rfl
theorem typ_un {h : Nat} {k0 : Int} {t0 : List UInt8} {bts : KS} {sz : Nat} {ns : Nat → List GNode} {f : GMark → Nat → GNode} (hb : BaseK h ((k0, t0) :: bts) sz ns f) (hg : Beg k0 t0) (hn : isK k0 t0 [91] = false) :
    TypK (h + 1) ((k0, t0) :: bts) (sz + 1) (fun i => f noM (i + 1) :: ns (i + 1)) := by
  refine ⟨fun i => by rw [List.length_cons, hb.len], ?_⟩
  intro n d L a m k t ks h1 h2 h3 hA hk hm
  obtain ⟨n, rfl⟩ : ∃ n', n = n' + 1 := ⟨n - 1, by omega⟩
  rw [typ_unf]
  obtain ⟨y, e1, e2, e3⟩ := now_at (m := m) (p := 0) (e := 0) hA
  refine T.fin ?_
  unfold r05_parser_typ_F
  refine T.brF rfl (T.eq e1 (T.eq (hg y e2 e3) (T.brF rfl ?_)))
  refine T.jp (fun b => b = false) (fun J hJ => T.brF (decide_eq_false (by omega)) (hJ _ (decide_eq_false (by dsimp only; omega)))) fun b hb' => T.brF hb' ?_
  refine T.abl (by dsimp only; simp only [List.length_singleton]; omega) (T.eq (is_no hA hn) (T.jp0 (T.brF rfl ?_)))
  exact typ_end hb noM (by omega) h2 (by omega) hA hk (by omega) _
theorem typ_mk {h : Nat} {k0 : Int} {t0 ds : List UInt8} {v : Int} {bts : KS} {sz : Nat} {ns : Nat → List GNode} {f : GMark → Nat → GNode} (hb : BaseK h ((k0, t0) :: bts) sz ns f) (hv : Num ds v) (h0 : 0 ≤ v) (h9 : v ≤ 268435456)
    (hn : isK k0 t0 [69, 88, 80, 76, 73, 67, 73, 84] = false) (hn2 : isK k0 t0 [73, 77, 80, 76, 73, 67, 73, 84] = false) :
    TypK (h + 1) ((6, [91]) :: (3, ds) :: (6, [93]) :: (k0, t0) :: bts) (sz + 1) (fun i => f ⟨true, v, 0⟩ (i + 1) :: ns (i + 1)) := by
  refine ⟨fun i => by rw [List.length_cons, hb.len], ?_⟩
  intro n d L a m k t ks h1 h2 h3 hA hk hm
  obtain ⟨n, rfl⟩ : ∃ n', n = n' + 1 := ⟨n - 1, by omega⟩
  rw [typ_unf]
  obtain ⟨y, e1, e2, e3⟩ := now_at (m := m) (p := 0) (e := 0) hA
  have hbg : Beg 6 [91] := fun ⟨_, _, _⟩ h1 h2 => by
    dsimp only at h1 h2; subst h1; subst h2; kernel_rfl
  have a1 := Sg.tl hA
  have a2 := Sg.tl a1
  have a3 : Sg L (a + 1 + 1 + 1) (((k0, t0) :: bts) ++ (k, t) :: ks) := Sg.tl a2
  refine T.fin ?_
  unfold r05_parser_typ_F
  refine T.brF rfl (T.eq e1 (T.eq (hbg y e2 e3) (T.brF rfl ?_)))
  refine T.jp (fun b => b = false) (fun J hJ => T.brF (decide_eq_false (by omega)) (hJ _ (decide_eq_false (by dsimp only; omega)))) fun b hb' => T.brF hb' ?_
  have hz : ∃ z : GNode, z = (GNode.mk (0 : Int) (Str.mk []) (GMark.mk false (0 : Int) (0 : Int)) (GCon.mk false false false false (0 : Int) (0 : Int)) ([] : (List GItem)) ([] : (List GFld)) (0 : Int) false (0 : Int)) := ⟨_, rfl⟩
  obtain ⟨z, hz⟩ := hz
  rw [← hz]
  refine T.abl (by dsimp only; simp only [List.length_singleton]; omega) (T.eq (is_yes hA rfl) (T.jp0 (T.brT rfl ?_)))
  obtain ⟨y2, f1, f2, f3⟩ := now_at (m := addN m [z]) (p := 0) (e := 0) a1
  refine T.eq f1 (T.eq (number_yes a1 hv.ne hv.val) ?_)
  refine T.jp (fun b => b = false) (fun J hJ => T.brT rfl (T.jp (fun b => b = false) (fun J2 hJ2 => T.brF (decide_eq_false (by dsimp only; omega)) (hJ2 _ (decide_eq_false (by dsimp only; omega)))) fun b hb => hJ _ hb)) fun b hb' => ?_
  refine T.jp0 (T.brF hb' (T.eq (must_yes a2 rfl) (T.eq (is_no a3 hn) (T.brF rfl (T.eq (is_no a3 hn2) (T.brF rfl ?_))))))
  have := typ_end hb ⟨true, v, 0⟩ (n := n) (d := d) (m := m) (by omega) h2 (by omega) a3 hk (by omega) z
  have e : a + (((6, [91]) :: (3, ds) :: (6, [93]) :: (k0, t0) :: bts : KS).length : Int) = a + 1 + 1 + 1 + (((k0, t0) :: bts : KS).length : Int) := by
    simp only [List.length_cons]; omega
  rw [e]
  exact this

/-! ### Bases -/
section bases
variable {n : Nat}
theorem base_unf (n : Nat) : r05_parser_base (n + 1) = r05_parser_base_F (r05_parser_field n) (r05_parser_typ n) (r05_parser_base n) (r05_parser_fields n) := rfl
theorem base_bool : BaseK 0 [(5, [66, 79, 79, 76, 69, 65, 78])] 0 (fun _ => []) (fun μ _ => { zm μ with kind := 1 }) := by
  refine ⟨fun _ => rfl, ?_⟩
  intro n d L a m k t ks μ h1 h2 h3 hA hk hm
  obtain ⟨n, rfl⟩ : ∃ n', n = n' + 1 := ⟨n - 1, by omega⟩
  rw [base_unf, addN_nil]
  obtain ⟨y, e1, e2, e3⟩ := now_at (m := m) (p := 0) (e := 0) hA
  refine T.fin ?_
  unfold r05_parser_base_F
  exact T.eq e1 (T.brF rfl (T.eq (is_yes hA rfl) (T.brT rfl (T.some rfl))))
theorem base_null : BaseK 0 [(5, [78, 85, 76, 76])] 0 (fun _ => []) (fun μ _ => { zm μ with kind := 4 }) := by
  refine ⟨fun _ => rfl, ?_⟩
  intro n d L a m k t ks μ h1 h2 h3 hA hk hm
  obtain ⟨n, rfl⟩ : ∃ n', n = n' + 1 := ⟨n - 1, by omega⟩
  rw [base_unf, addN_nil]
  obtain ⟨y, e1, e2, e3⟩ := now_at (m := m) (p := 0) (e := 0) hA
  refine T.fin ?_
  unfold r05_parser_base_F
  exact T.eq e1 (T.brF rfl (T.eq (is_no hA rfl) (T.brF rfl (T.eq (is_yes hA rfl) (T.brT rfl (T.some rfl))))))
end bases
end Go.Proofs.YtiibmpdjkdjbiaaGreatDoor


namespace Go.Proofs.YtiibmpdjkdjbiaaGreatDoor
open Go.Sy
set_option linter.unusedVariables false
set_option maxRecDepth 4000

theorem add_at {l : List GTyp} {t : GTyp} {m : GMod} (h : l.length ≤ 300) : table_types_add ⟨⟨l⟩, m⟩ t = some ((l.length : Int), ⟨⟨l ++ [t]⟩, m⟩) := by
  refine T.fin ?_
  unfold table_types_add
  have e : (l ++ [t]).length = l.length + 1 := by rw [List.length_append, List.length_singleton]
  refine T.jp (ι := GTmk) (fun q => q = ⟨⟨l ++ [t]⟩, m⟩) (fun J hJ => T.abl (by simp only [List.length_singleton]; omega) (hJ _ rfl)) fun q hq => ?_
  subst hq
  dsimp only
  have e2 : (((l ++ [t]).length : Nat) : Int) - 1 = l.length := by omega
  rw [e2]
  exact T.ck (by omega) (T.some rfl)
theorem soft_at {l0 r : List GTyp} {t : GTyp} {m : GMod} : table_maker_soft ⟨⟨l0 ++ t :: r⟩, m⟩ (l0.length : Int) = some (if t.tags = [] then 0 else 1, ⟨⟨l0 ++ t :: r⟩, m⟩) := by
  refine T.fin ?_
  unfold table_maker_soft
  refine T.asd ⟨Int.natCast_nonneg _, by simp only [List.length_append, List.length_cons]; omega⟩ (T.eq (y := t) (by rw [Int.toNat_natCast]; exact get_at l0 t r) (T.br (fun h => T.some ?_) fun h => T.some ?_))
  · have h := of_decide_eq_true h
    rw [if_neg (fun e => by rw [e] at h; exact absurd h (by decide))]
  · have h := of_decide_eq_false h
    rw [if_pos (List.eq_nil_of_length_eq_zero (by omega))]
theorem wrap_at {l0 r : List GTyp} {t : GTyp} {m : GMod} {n mode : Int} {tg : List Tag} (h : tags_Wrap t.tags n mode = some (tg, 0)) : table_maker_wrap ⟨⟨l0 ++ t :: r⟩, m⟩ (l0.length : Int) n mode = some (0, ⟨⟨l0 ++ { t with tags := tg } :: r⟩, m⟩) := by
  refine T.fin ?_
  unfold table_maker_wrap
  have hg : (l0 ++ t :: r)[((l0.length : Nat) : Int).toNat]? = some t := by rw [Int.toNat_natCast]; exact get_at l0 t r
  have hb : (0 : Int) ≤ (l0.length : Nat) ∧ ((l0.length : Nat) : Int) < (((l0 ++ t :: r).length : Nat) : Int) := ⟨Int.natCast_nonneg _, by simp only [List.length_append, List.length_cons]; omega⟩
  refine T.asd hb (T.eq hg (T.eq h ?_))
  refine T.jp (ι := GTmk) (fun q => q = ⟨⟨l0 ++ { t with tags := tg } :: r⟩, m⟩) (fun J hJ => T.brT rfl (T.asd hb (T.eq hg (hJ _ ?_)))) fun q hq => T.some (by rw [hq])
  dsimp only
  rw [Int.toNat_natCast, set_at]
theorem wrap_impl {u n : Int} (h0 : 0 ≤ n) (h1 : n ≤ 268435456) : tags_Wrap [⟨0, u⟩] n 1 = some ([⟨2, n⟩], 0) := by
  refine T.fin ?_
  unfold tags_Wrap
  refine T.jp (fun b => b = false) (fun J hJ => T.brF (decide_eq_false (by omega)) (hJ _ (decide_eq_false (by omega)))) fun b hb => T.jp (fun b => b = false) (fun J hJ => T.brF hb (T.jp0 (T.brT rfl (hJ _ rfl)))) fun b hb => T.brF hb ?_
  refine T.jp (ι := List Tag) (fun l => l = []) (fun J hJ => T.brT rfl (T.asr rfl (hJ _ rfl))) fun l hl => ?_
  subst hl
  exact T.eq (y := [⟨2, n⟩]) (by kernel_rfl) (T.some rfl)
theorem wrap_expl {n : Int} (h0 : 0 ≤ n) (h1 : n ≤ 268435456) : tags_Wrap [] n 0 = some ([⟨2, n⟩], 0) := by
  refine T.fin ?_
  unfold tags_Wrap
  refine T.jp (fun b => b = false) (fun J hJ => T.brF (decide_eq_false (by omega)) (hJ _ (decide_eq_false (by omega)))) fun b hb => T.jp (fun b => b = false) (fun J hJ => T.brF hb (T.jp0 (T.brF rfl (hJ _ rfl)))) fun b hb => T.brF hb ?_
  refine T.jp (ι := List Tag) (fun l => l = []) (fun J hJ => T.brF rfl (hJ _ rfl)) fun l hl => ?_
  subst hl
  exact T.eq (y := [⟨2, n⟩]) (by kernel_rfl) (T.some rfl)
theorem nodeP_unf (n : Nat) : table_maker_node (n + 1) = table_maker_node_F (table_maker_field n) (table_maker_node n) (table_maker_made n) (table_maker_fields n) := rfl
theorem madeP_unf (n : Nat) : table_maker_made (n + 1) = table_maker_made_F (table_maker_field n) (table_maker_node n) (table_maker_made n) (table_maker_fields n) := rfl
structure MT (m : GMod) (nd : GNode) (h sz : Nat) (tt : Nat → List GTyp) : Prop where
  len : ∀ i, (tt i).length = sz
  go : ∀ {n : Nat} {d : Int} {l : List GTyp}, 4 * h + 1 ≤ n → 0 ≤ d → d + h ≤ 16 → l.length + sz ≤ 300 → table_maker_made n ⟨⟨l⟩, m⟩ nd d = some ((l.length : Int), 0, ⟨⟨l ++ tt l.length⟩, m⟩)
structure NT (m : GMod) (k : Int) (h sz : Nat) (tt : Nat → List GTyp) : Prop where
  len : ∀ i, (tt i).length = sz
  go : ∀ {n : Nat} {d : Int} {l : List GTyp}, 4 * h + 2 ≤ n → 0 ≤ d → d + h ≤ 16 → l.length + sz ≤ 300 → table_maker_node n ⟨⟨l⟩, m⟩ k d = some ((l.length : Int), 0, ⟨⟨l ++ tt l.length⟩, m⟩)
theorem nt_un {m : GMod} {k : Nat} {nd : GNode} (hk : m.nodes[k]? = some nd) (h11 : nd.kind ≠ 11) (hm : nd.mark.has = false) {h sz : Nat} {tt : Nat → List GTyp} (hM : MT m nd h sz tt) : NT m (k : Int) h sz tt := by
  refine ⟨hM.len, ?_⟩
  intro n d l h1 h2 h3 h4
  obtain ⟨n, rfl⟩ : ∃ n', n = n' + 1 := ⟨n - 1, by omega⟩
  have hkl := (List.getElem?_eq_some_iff.1 hk).1
  rw [nodeP_unf]
  refine T.fin ?_
  unfold table_maker_node_F
  refine T.jp (fun b => b = false) (fun J hJ => T.brF (decide_eq_false (by omega)) (hJ _ (decide_eq_false (by dsimp only; omega)))) fun b hb => T.brF hb (T.eq (getI_at (Int.natCast_nonneg _) (by rw [Int.toNat_natCast]; exact hk)) ?_)
  refine T.jp (ι := Int × Int × GTmk) (fun q => q = ((l.length : Int), 0, ⟨⟨l ++ tt l.length⟩, m⟩)) (fun J hJ => T.brF (decide_eq_false h11) (T.eq (hM.go (by omega) h2 h3 h4) (hJ _ rfl))) fun q hq => ?_
  subst hq
  refine T.brF rfl (T.eq (y := (0, ⟨⟨l ++ tt l.length⟩, m⟩)) ?_ (T.some rfl))
  unfold table_maker_marked
  rw [hm]; rfl
theorem nt_mk {m : GMod} {k : Nat} {nd : GNode} (hk : m.nodes[k]? = some nd) (h11 : nd.kind ≠ 11) {v : Int} (hm : nd.mark = ⟨true, v, 0⟩) (ht : m.tagging ≠ 0) (h0 : 0 ≤ v) (h9 : v ≤ 268435456) {h sz : Nat} {t : Nat → GTyp} {tt : Nat → List GTyp} (hM : MT m nd h (sz + 1) (fun i => t i :: tt i)) (hw : ∀ i, tags_Wrap (t i).tags v (if (t i).tags = [] then 0 else 1) = some ([⟨2, v⟩], 0)) :
    NT m (k : Int) h (sz + 1) (fun i => { t i with tags := [⟨2, v⟩] } :: tt i) := by
  refine ⟨fun i => hM.len i, ?_⟩
  intro n d l h1 h2 h3 h4
  obtain ⟨n, rfl⟩ : ∃ n', n = n' + 1 := ⟨n - 1, by omega⟩
  have hkl := (List.getElem?_eq_some_iff.1 hk).1
  rw [nodeP_unf]
  refine T.fin ?_
  unfold table_maker_node_F
  refine T.jp (fun b => b = false) (fun J hJ => T.brF (decide_eq_false (by omega)) (hJ _ (decide_eq_false (by dsimp only; omega)))) fun b hb => T.brF hb (T.eq (getI_at (Int.natCast_nonneg _) (by rw [Int.toNat_natCast]; exact hk)) ?_)
  refine T.jp (ι := Int × Int × GTmk) (fun q => q = ((l.length : Int), 0, ⟨⟨l ++ t l.length :: tt l.length⟩, m⟩)) (fun J hJ => T.brF (decide_eq_false h11) (T.eq (hM.go (by omega) h2 h3 h4) (hJ _ rfl))) fun q hq => ?_
  subst hq
  refine T.brF rfl (T.eq (y := (0, ⟨⟨l ++ { t l.length with tags := [⟨2, v⟩] } :: tt l.length⟩, m⟩)) ?_ (T.some rfl))
  rw [hm]
  refine T.fin ?_
  unfold table_maker_marked
  refine T.brF rfl (T.jp (ι := Int × GTmk) (fun q => q = (if (t l.length).tags = [] then 0 else 1, ⟨⟨l ++ t l.length :: tt l.length⟩, m⟩)) (fun J hJ => T.brF rfl (T.jp (fun b => b = true) (fun J2 h2 => T.brT rfl (h2 _ (by rw [decide_eq_false ht]; rfl))) fun b hb => T.brT hb (T.eq soft_at (hJ _ rfl)))) fun q hq => ?_)
  subst hq
  exact T.eq (wrap_at (hw _)) (T.some rfl)
end Go.Proofs.YtiibmpdjkdjbiaaGreatDoor


namespace Go.Proofs.YtiibmpdjkdjbiaaGreatDoor
open Go.Sy
set_option linter.unusedVariables false
set_option maxRecDepth 4000

def leafP (nd : GNode) (u : Int) : GTyp := ⟨nd.kind, [⟨0, u⟩], nd.con, [], [], nd.root, nd.more, 0⟩
theorem mt_leaf {m : GMod} {nd : GNode} {u : Int} (hk : nd.kind = 1 ∨ nd.kind = 4) (hu : tags_Universal nd.kind = some ⟨0, u⟩) : MT m nd 0 1 (fun _ => [leafP nd u]) := by
  refine ⟨fun _ => rfl, ?_⟩
  intro n d l h1 h2 h3 h4
  obtain ⟨n, rfl⟩ : ∃ n', n = n' + 1 := ⟨n - 1, by omega⟩
  rw [madeP_unf]
  refine T.fin ?_
  unfold table_maker_made_F
  refine T.jp (fun b => b = false) (fun J hJ => T.brF (decide_eq_false (by omega)) (hJ _ (decide_eq_false (by dsimp only; omega)))) fun b hb => T.brF hb ?_
  refine T.jp (ι := GTyp) (fun t => t = leafP nd u) (fun J hJ => T.brT (by rw [decide_eq_false (show ¬ nd.kind = 9 by omega)]; rfl) (T.eq hu (hJ _ rfl))) fun t ht => ?_
  subst ht
  refine T.eq (add_at (by omega)) ?_
  refine T.jp (ι := Int × GTmk) (fun q => q = (0, ⟨⟨l ++ [leafP nd u]⟩, m⟩)) (fun J hJ => ?_) fun q hq => T.some (by rw [hq])
  refine T.brF (decide_eq_false (by omega)) (T.jp (fun b => b = false) (fun J2 h2 => T.brF (decide_eq_false (by omega)) (h2 _ (decide_eq_false (by omega)))) fun b hb => T.brF hb (T.brF (decide_eq_false (by omega)) (T.brF (decide_eq_false (by omega)) (T.jp (fun b => b = false) (fun J2 h2 => T.brF (decide_eq_false (by omega)) (T.brF (decide_eq_false (by omega)) (h2 _ (decide_eq_false (by omega))))) fun b hb => T.brF hb (hJ _ rfl)))))
theorem mt_int {m : GMod} {nd : GNode} (hk : nd.kind = 2) (hc : bounds_Check nd.con false = some 0) : MT m nd 0 1 (fun _ => [leafP nd 2]) := by
  refine ⟨fun _ => rfl, ?_⟩
  intro n d l h1 h2 h3 h4
  obtain ⟨n, rfl⟩ : ∃ n', n = n' + 1 := ⟨n - 1, by omega⟩
  rw [madeP_unf]
  refine T.fin ?_
  unfold table_maker_made_F
  refine T.jp (fun b => b = false) (fun J hJ => T.brF (decide_eq_false (by omega)) (hJ _ (decide_eq_false (by dsimp only; omega)))) fun b hb => T.brF hb ?_
  refine T.jp (ι := GTyp) (fun t => t = leafP nd 2) (fun J hJ => T.brT (by rw [decide_eq_false (show ¬ nd.kind = 9 by omega)]; rfl) (T.eq (y := ⟨0, 2⟩) (by rw [hk]; kernel_rfl) (hJ _ rfl))) fun t ht => ?_
  subst ht
  refine T.eq (add_at (by omega)) ?_
  exact T.jp (ι := Int × GTmk) (fun q => q = (0, ⟨⟨l ++ [leafP nd 2]⟩, m⟩)) (fun J hJ => T.brT (decide_eq_true hk) (T.eq hc (hJ _ rfl))) fun q hq => T.some (by rw [hq])
theorem innerP_unf (n : Nat) : table_types_inner (n + 1) = table_types_inner_F (table_types_inner n) := rfl
theorem innerP1_unf (n : Nat) : table_types_inner_1 (n + 1) = table_types_inner_1_F (table_types_inner_1 n) := rfl
theorem wildP_tag {l : List GTyp} {m : GMod} {i : Nat} {t : GTyp} {x : Tag} {xs : List Tag} (ht : l[i]? = some t) (hx : t.tags = x :: xs) : table_types_wild ⟨⟨l⟩, m⟩ (i : Int) = some (false, ⟨⟨l⟩, m⟩) := by
  refine T.fin ?_
  unfold table_types_wild
  have hi := (List.getElem?_eq_some_iff.1 ht).1
  have e : fuel = (fuel - 1) + 1 := by unfold fuel; rfl
  have hin : table_types_inner fuel ⟨⟨l⟩, m⟩ (i : Int) 300 false = some (⟨⟨l⟩, m⟩, 299, false) := by
    rw [e, innerP_unf]
    refine T.fin ?_
    unfold table_types_inner_F
    have hc : table_types_wild_c1 t false = some false := by
      refine T.fin ?_
      unfold table_types_wild_c1
      refine T.jp (fun b => b = false) (fun J hJ => T.brF rfl (T.jp (fun b => b = false) (fun J2 h2 => T.br (fun _ => h2 _ (by rw [hx]; exact decide_eq_false (by simp only [List.length_cons]; omega))) fun _ => h2 _ rfl) fun b hb => T.jp (fun b => b = false) (fun J2 h2 => T.brF hb (h2 _ rfl)) fun b hb => hJ _ hb)) fun b hb => T.some hb
    refine T.jp (fun b => b = false) (fun J hJ => T.brF (decide_eq_false (by omega)) (hJ _ (decide_eq_false (by dsimp only; omega)))) fun b hb => T.jp (fun b => b = false) (fun J hJ => T.brF hb (hJ _ rfl)) fun b hb => T.brF hb (T.ck (by omega) (T.asd ⟨by omega, by dsimp only; omega⟩ (T.eq (y := t) (by rw [Int.toNat_natCast]; exact ht) (T.eq hc (T.brT (by rw [hx]; exact decide_eq_true (by simp only [List.length_cons]; omega)) (T.some rfl))))))
  exact T.eq hin (T.some rfl)
theorem beginsP_tag {l : List GTyp} {m : GMod} {i : Nat} {t : GTyp} {x : Tag} {xs : List Tag} (ht : l[i]? = some t) (hx : t.tags = x :: xs) : table_types_begins ⟨⟨l⟩, m⟩ (i : Int) = some ([x], ⟨⟨l⟩, m⟩) := by
  refine T.fin ?_
  unfold table_types_begins
  have hi := (List.getElem?_eq_some_iff.1 ht).1
  have e : fuel = (fuel - 1) + 1 := by unfold fuel; rfl
  have hin : table_types_inner_1 fuel ⟨⟨l⟩, m⟩ (i : Int) 300 [] = some (⟨⟨l⟩, m⟩, 299, [x]) := by
    rw [e, innerP1_unf]
    refine T.fin ?_
    unfold table_types_inner_1_F
    have hp : decide ((0 : Int) < (t.tags.length : Int)) = true := by rw [hx]; exact decide_eq_true (by simp only [List.length_cons]; omega)
    have hc : table_types_begins_c1 t [] = some [x] := by
      refine T.fin ?_
      unfold table_types_begins_c1
      exact T.brT hp (T.eq (y := x) (by rw [hx]; rfl) (T.asr rfl (T.some rfl)))
    refine T.jp (fun b => b = false) (fun J hJ => T.brF (decide_eq_false (by omega)) (hJ _ (decide_eq_false (by dsimp only; omega)))) fun b hb => T.jp (fun b => b = false) (fun J hJ => T.brF hb (hJ _ rfl)) fun b hb => T.brF hb (T.ck (by omega) (T.asd ⟨by omega, by dsimp only; omega⟩ (T.eq (y := t) (by rw [Int.toNat_natCast]; exact ht) (T.eq hc (T.brT hp (T.some rfl))))))
  exact T.eq hin (T.some rfl)
theorem toldP {l : List GTyp} {m : GMod} {fs : List GFld} {tg : List Tag} {o : Bool} (hl : fs.length ≤ 1000) (hlen : tg.length = fs.length) (h : ∀ (k : Nat) (f : GFld) (x : Tag), fs[k]? = some f → tg[k]? = some x → ∃ (i : Nat) (t : GTyp) (xs : List Tag), f.ty = (i : Int) ∧ l[i]? = some t ∧ t.tags = x :: xs) : table_types_told ⟨⟨l⟩, m⟩ fs o = some (decide tg.Nodup, ⟨⟨l⟩, m⟩) := by
  refine T.fin ?_
  unfold table_types_told
  refine T.lp (ι := List (List Tag) × Int × GTmk) (fun q => 0 ≤ q.2.1 ∧ q.2.1 ≤ fs.length ∧ q.1.flatten = tg.take q.2.1.toNat ∧ q.1.length ≤ 2000 ∧ (q.1.length : Int) = q.2.1 ∧ q.2.2 = ⟨⟨l⟩, m⟩) (fun q => ((fs.length : Int) - q.2.1).toNat) ⟨Int.le_refl _, by dsimp only; omega, rfl, Nat.zero_le _, rfl, rfl⟩ (by dsimp only; omega) fun L q ⟨q1, q2, q3, q4, q5, q6⟩ hL => ?_
  obtain ⟨s, k, y⟩ := q
  dsimp only at q1 q2 q3 q4 q5 q6 hL ⊢
  subst q6
  refine T.br (fun hb => ?_) fun hb => ?_
  · have hb := of_decide_eq_true hb
    have hk1 : (k + 1).toNat = k.toNat + 1 := by omega
    obtain ⟨x, hx⟩ : ∃ x, tg[k.toNat]? = some x := ⟨_, List.getElem?_eq_getElem (by omega)⟩
    refine T.get q1 hb fun f hf => ?_
    obtain ⟨i, t, xs, e1, e2, e3⟩ := h k.toNat f x hf hx
    rw [e1]
    refine T.eq (wildP_tag e2 e3) (T.jp (fun b => b = false) (fun J hJ => T.brF rfl (hJ _ rfl)) fun b hb2 => T.brF hb2 (T.eq (beginsP_tag e2 e3) (T.abl (by simp only [List.length_singleton]; omega) (T.ck (by omega) (hL _ ⟨by dsimp only; omega, by dsimp only; omega, ?_, ?_, ?_, rfl⟩ (by dsimp only; omega))))))
    · dsimp only
      rw [hk1, List.take_add_one, hx, List.flatten_append, q3]; rfl
    · dsimp only
      rw [List.length_append, List.length_singleton]; omega
    · dsimp only
      rw [List.length_append, List.length_singleton]; omega
  · have hb := of_decide_eq_false hb
    have hk : k.toNat = tg.length := by omega
    rw [hk, List.take_length] at q3
    exact T.eq (y := decide tg.Nodup) (by show some (decide s.flatten.Nodup) = _; rw [q3]) (T.some rfl)
end Go.Proofs.YtiibmpdjkdjbiaaGreatDoor


namespace Go.Proofs.YtiibmpdjkdjbiaaGreatDoor
open Go.Sy
set_option linter.unusedVariables false
set_option maxRecDepth 4000

theorem fieldP_unf (n : Nat) : table_maker_field (n + 1) = table_maker_field_F (table_maker_field n) (table_maker_node n) (table_maker_made n) (table_maker_fields n) := rfl
theorem fieldsP_unf (n : Nat) : table_maker_fields (n + 1) = table_maker_fields_F (table_maker_field n) (table_maker_node n) (table_maker_made n) (table_maker_fields n) := rfl
theorem names_no {l : List GFld} {f : GFld} (hl : l.length ≤ 1000) (h : ∀ g ∈ l, g.name ≠ f.name) : slices_ContainsFunc_Lapi_Field_api_Field_1 l f = some (false, f) := by
  refine T.fin ?_
  unfold slices_ContainsFunc_Lapi_Field_api_Field_1
  refine T.cal (Q := fun r => r = (-1, f)) ?_ fun r _ hr => T.some (by rw [hr]; rfl)
  unfold slices_IndexFunc_Lapi_Field_api_Field_1
  refine T.lp (ι := Int × GFld) (fun q => 0 ≤ q.1 ∧ q.1 ≤ l.length ∧ q.2 = f) (fun q => ((l.length : Int) - q.1).toNat) ⟨Int.le_refl _, by dsimp only; omega, rfl⟩ (by dsimp only; omega) fun L q ⟨k1, k2, k3⟩ hL => ?_
  obtain ⟨k, g⟩ := q
  dsimp only at k1 k2 k3 hL ⊢
  subst k3
  refine T.br (fun hb => ?_) fun _ => T.some rfl
  have hb := of_decide_eq_true hb
  refine T.get k1 hb fun z hz => ?_
  have hz1 := h z (List.mem_of_getElem? hz)
  exact T.eq (y := (false, g)) (by show some (decide (z.name = g.name), g) = _; rw [decide_eq_false hz1]) (T.brF rfl (T.ck (by omega) (hL _ ⟨by dsimp only; omega, by dsimp only; omega, rfl⟩ (by dsimp only; omega))))
def AutP (auto : Bool) (k : Int) (tt tt' : Nat → List GTyp) : Prop :=
  (auto = false ∧ tt' = tt) ∨ (auto = true ∧ ∃ (t : Nat → GTyp) (r : Nat → List GTyp), (∀ i, tt i = t i :: r i) ∧ (∀ i, tt' i = { t i with tags := [⟨2, k⟩] } :: r i) ∧ ∀ i, tags_Wrap (t i).tags k (if (t i).tags = [] then 0 else 1) = some ([⟨2, k⟩], 0))
theorem AutP.len {auto : Bool} {k : Int} {tt tt' : Nat → List GTyp} (h : AutP auto k tt tt') (i : Nat) : (tt' i).length = (tt i).length := by
  rcases h with ⟨_, rfl⟩ | ⟨_, t, r, h1, h2, _⟩
  · rfl
  · rw [h1, h2]; rfl
theorem field_at {m : GMod} {nd : GNode} {k : Nat} {f : GFld} {h sz : Nat} {tt tt' : Nat → List GTyp} {auto : Bool} (hf : nd.fields[k]? = some f) (hl : nd.fields.length ≤ 1000) (hn : ∀ g ∈ nd.fields.take k, g.name ≠ f.name) (hh : f.has = false) (hN : NT m f.ty h sz tt) (hA : AutP auto k tt tt') {n : Nat} {d : Int} {l : List GTyp} (h1 : 4 * h + 3 ≤ n) (h2 : 0 ≤ d) (h3 : d + h ≤ 15) (h4 : l.length + sz ≤ 300) :
    table_maker_field n ⟨⟨l⟩, m⟩ nd (k : Int) d auto = some ({ f with ty := (l.length : Int) }, 0, ⟨⟨l ++ tt' l.length⟩, m⟩) := by
  obtain ⟨n, rfl⟩ : ∃ n', n = n' + 1 := ⟨n - 1, by omega⟩
  have hk := (List.getElem?_eq_some_iff.1 hf).1
  rw [fieldP_unf]
  refine T.fin ?_
  unfold table_maker_field_F
  refine T.eq (getI_at (Int.natCast_nonneg _) (by rw [Int.toNat_natCast]; exact hf)) (T.asd ⟨Int.le_refl _, Int.natCast_nonneg _, by omega⟩ ?_)
  rw [Int.toNat_natCast]
  refine T.eq (names_no (by rw [List.length_drop, List.length_take]; omega) hn) (T.brF rfl (T.ck (by omega) (T.eq (hN.go (by omega) (by omega) (by omega) h4) (T.brF rfl ?_))))
  refine T.jp (ι := GFld × GTmk) (fun q => q = ({ f with ty := (l.length : Int) }, ⟨⟨l ++ tt l.length⟩, m⟩)) (fun J hJ => T.brF hh (hJ _ rfl)) fun q hq => ?_
  subst hq
  refine T.jp (ι := Int × GTmk) (fun q => q = (0, ⟨⟨l ++ tt' l.length⟩, m⟩)) (fun J hJ => ?_) fun q hq => T.some (by rw [hq])
  rcases hA with ⟨ha, rfl⟩ | ⟨ha, t, r, e1, e2, e3⟩
  · exact T.brF ha (hJ _ rfl)
  · rw [e1]
    exact T.brT ha (T.eq soft_at (T.eq (wrap_at (e3 _)) (hJ _ (by rw [e2]))))
end Go.Proofs.YtiibmpdjkdjbiaaGreatDoor


namespace Go.Proofs.YtiibmpdjkdjbiaaGreatDoor
open Go.Sy
set_option linter.unusedVariables false
set_option maxRecDepth 4000

def cntF : List Bool → Nat
  | [] => 0
  | b :: r => (if b then 0 else 1) + cntF r
theorem cntF_set : ∀ {s : List Bool} {k : Nat}, s[k]? = some false → cntF (s.set k true) + 1 = cntF s
  | [], _, h => by cases h
  | b :: r, 0, h => by cases h; show 0 + cntF r + 1 = 1 + cntF r; omega
  | b :: r, k + 1, h => by
    have := cntF_set (s := r) (k := k) h
    show (if b then 0 else 1) + cntF (r.set k true) + 1 = (if b then 0 else 1) + cntF r
    omega
theorem cntF_le : ∀ s : List Bool, cntF s ≤ s.length
  | [] => Nat.le_refl _
  | b :: r => by
    have := cntF_le r
    show (if b then 0 else 1) + cntF r ≤ r.length + 1
    split <;> omega
theorem walkP_unf (n : Nat) : refs_walk (n + 1) = refs_walk_F (refs_walk n) := rfl
def NoRef (m : GMod) : Prop := m.nodes.length ≤ 1000 ∧ ∀ n ∈ m.nodes, n.kind ≠ 11 ∧ n.fields.length ≤ 1000
theorem walk_no {m : GMod} (h : NoRef m) : ∀ (n : Nat) (i : Int) (seen : List Bool) (acc : List Str), seen.length = m.nodes.length → cntF seen < n → T (fun r => r.2 = acc ∧ r.1.length = m.nodes.length ∧ cntF r.1 ≤ cntF seen) (refs_walk n m i seen acc)
  | 0, _, _, _, _, hc => absurd hc (Nat.not_lt_zero _)
  | n + 1, i, seen, acc, hl, hc => by
    rw [walkP_unf]
    unfold refs_walk_F
    refine T.jp (fun b => b = false → 0 ≤ i ∧ i < m.nodes.length) (fun J hJ => T.br (fun _ => hJ _ fun e => by cases e) fun h1 => hJ _ fun h2 => ⟨by have := of_decide_eq_false h1; omega, by have := of_decide_eq_false h2; omega⟩) fun b hb => ?_
    refine T.jp (fun c => c = false → 0 ≤ i ∧ i < m.nodes.length ∧ seen[i.toNat]? = some false) (fun J hJ => T.br (fun _ => hJ _ fun e => by cases e) fun h1 => ?_) fun c hcc => ?_
    · obtain ⟨i0, i1⟩ := hb h1
      refine T.asd ⟨i0, by omega⟩ ?_
      obtain ⟨y, hy⟩ : ∃ y, seen[i.toNat]? = some y := ⟨_, List.getElem?_eq_getElem (by omega)⟩
      exact T.eq hy (hJ _ fun e => ⟨i0, i1, by rw [hy, e]⟩)
    refine T.br (fun _ => T.some ⟨rfl, hl, Nat.le_refl _⟩) fun h1 => ?_
    obtain ⟨i0, i1, hs⟩ := hcc h1
    refine T.asd ⟨i0, by omega⟩ (T.eq hs (T.get i0 i1 fun nd hnd => ?_))
    obtain ⟨n1, n2⟩ := h.2 nd (List.mem_of_getElem? hnd)
    refine T.eq (y := acc) (by show br (decide (nd.kind = 11)) _ _ = _; rw [decide_eq_false n1]; rfl) (T.brF (decide_eq_false n1) ?_)
    have hset := cntF_set hs
    have hsl : (seen.set i.toNat true).length = m.nodes.length := by rw [List.length_set, hl]
    refine T.lp (ι := List Bool × Int × List Str) (fun q => 0 ≤ q.2.1 ∧ q.2.1 ≤ nd.fields.length ∧ q.2.2 = acc ∧ q.1.length = m.nodes.length ∧ cntF q.1 ≤ cntF (seen.set i.toNat true)) (fun q => ((nd.fields.length : Int) - q.2.1).toNat) ⟨Int.le_refl _, by dsimp only; omega, rfl, hsl, Nat.le_refl _⟩ (by dsimp only; omega) fun L q ⟨q1, q2, q3, q4, q5⟩ hL => ?_
    obtain ⟨s, k, a⟩ := q
    dsimp only at q1 q2 q3 q4 q5 hL ⊢
    subst q3
    refine T.br (fun hb => ?_) fun _ => T.br (fun hb => ?_) fun _ => T.some ⟨rfl, q4, by dsimp only; omega⟩
    · have hb := of_decide_eq_true hb
      refine T.get q1 hb fun f _ => T.cal (walk_no h n f.ty s a q4 (by omega)) fun r _ ⟨r1, r2, r3⟩ => T.asd (by omega) (T.ck (by omega) (hL _ ⟨by dsimp only; omega, by dsimp only; omega, r1, r2, by dsimp only; omega⟩ (by dsimp only; omega)))
    · exact T.cal (walk_no h n nd.of s a q4 (by omega)) fun r _ ⟨r1, r2, r3⟩ => T.asd (by omega) (T.some ⟨r1, r2, by dsimp only; omega⟩)
theorem refers_no {m : GMod} (h : NoRef m) (i : Int) : refs_refers m i = some [] := by
  refine T.fin ?_
  unfold refs_refers
  have hl := h.1
  have e : ((m.nodes.length : Nat) : Int).toNat = m.nodes.length := Int.toNat_natCast _
  rw [e]
  refine T.asd ⟨by omega, by omega⟩ (T.cal (walk_no h fuel i (List.replicate m.nodes.length false) [] (List.length_replicate ..) ?_) fun r _ ⟨r1, r2, _⟩ => T.asd (by rw [r2, List.length_replicate]) (T.some r1))
  have := cntF_le (List.replicate m.nodes.length false)
  rw [List.length_replicate] at this
  unfold fuel; omega
theorem uses_no {m : GMod} (h : NoRef m) (i : Int) : refs_Uses m i = some [] := by
  unfold refs_Uses
  rw [refers_no h]; kernel_rfl
theorem lost_no {m : GMod} (h : NoRef m) (i : Int) : refs_lost m i = some false := by
  unfold refs_lost
  rw [refers_no h]; kernel_rfl
theorem order_one {m : GMod} (h : NoRef m) {s : Str} {t : Int} (hn : m.names = [s]) (ht : m.types = [t]) : refs_Order m = some ([0], 0, 0) := by
  have hof : refs_of m 0 = some t := by
    refine T.fin ?_
    unfold refs_of
    rw [ht]
    exact T.brF rfl (T.some rfl)
  have hfd : refs_Find m s = some 0 := by
    refine T.fin ?_
    unfold refs_Find
    rw [hn]
    refine T.eq (y := 0) ?_ (T.some rfl)
    refine T.fin ?_
    unfold slices_Index_Lstring_string
    refine T.lp (fun (k : Int) => k = 0) (fun _ => 0) rfl (by omega) fun L k hk _ => ?_
    subst hk
    exact T.brT rfl (T.eq (y := s) rfl (T.brT (decide_eq_true rfl) (T.some rfl)))
  have hwr : refs_wrong m [[]] = some (0, 0) := by
    refine T.fin ?_
    unfold refs_wrong
    rw [hn]
    refine T.lp (fun (k : Int) => k = 0 ∨ k = 1) (fun k => (1 - k).toNat) (.inl rfl) (by omega) fun L k hk hL => ?_
    rcases hk with rfl | rfl
    · exact T.brT rfl (T.eq (y := s) rfl (T.eq hfd (T.brF rfl (T.ck (by omega) (hL _ (.inr rfl) (by omega))))))
    refine T.brF rfl ?_
    refine T.lp (fun (k : Int) => k = 0 ∨ k = 1) (fun k => (1 - k).toNat) (.inl rfl) (by omega) fun L k hk hL => ?_
    rcases hk with rfl | rfl
    · exact T.brT rfl (T.eq hof (T.eq (lost_no h t) (T.brF rfl (T.ck (by omega) (hL _ (.inr rfl) (by omega))))))
    refine T.brF rfl ?_
    refine T.lp (fun (k : Int) => k = 0 ∨ k = 1) (fun k => (1 - k).toNat) (.inl rfl) (by omega) fun L k hk hL => ?_
    rcases hk with rfl | rfl
    · exact T.brT rfl (T.asr rfl (T.eq (y := [false]) (by kernel_rfl) (T.asr rfl (T.asr rfl (T.eq (y := false) rfl (T.brF rfl (T.ck (by omega) (hL _ (.inr rfl) (by omega)))))))))
    exact T.brF rfl (T.some rfl)
  refine T.fin ?_
  unfold refs_Order
  rw [hn]
  refine T.lp (ι := List (List Int) × Int) (fun q => q = ([], 0) ∨ q = ([[]], 1)) (fun q => (1 - q.2).toNat) (.inl rfl) (by dsimp only; omega) fun L q hq hL => ?_
  rcases hq with rfl | rfl
  · exact T.brT rfl (T.eq hof (T.eq (uses_no h t) (T.asr rfl (T.ck (by dsimp only; omega) (hL _ (.inr rfl) (by dsimp only; omega))))))
  refine T.brF rfl (T.eq hwr (T.brF rfl ?_))
  refine T.lp (ι := List Int) (fun q => q = [] ∨ q = [0]) (fun q => 1 - q.length) (.inl rfl) (by simp) fun L q hq hL => ?_
  rcases hq with rfl | rfl
  · refine T.brT rfl ?_
    refine T.lp (ι := Int × List Int) (fun q => q = (0, [])) (fun _ => 0) rfl (by omega) fun L2 q hq _ => ?_
    subst hq
    refine T.brT rfl (T.eq (y := false) (by kernel_rfl) (T.jp (ι := Bool × List Int) (fun q => q = (true, [])) (fun J hJ => T.brT rfl (T.eq (y := []) rfl (T.eq (y := (false, [])) (by kernel_rfl) (hJ _ rfl)))) fun q hq => ?_))
    subst hq
    exact T.brT rfl (T.asr rfl (hL _ (.inr rfl) (by simp)))
  · exact T.brF rfl (T.some rfl)
end Go.Proofs.YtiibmpdjkdjbiaaGreatDoor


namespace Go.Proofs.YtiibmpdjkdjbiaaGreatDoor
open Go.Sy
set_option linter.unusedVariables false
set_option maxRecDepth 4000

structure Cp where
  f : GFld
  sz : Nat
  tt : Nat → List GTyp
def tsP : List Cp → Nat → List GTyp
  | [], _ => []
  | c :: r, i => c.tt i ++ tsP r (i + c.sz)
def flP : List Cp → Nat → List GFld
  | [], _ => []
  | c :: r, i => { c.f with ty := (i : Int) } :: flP r (i + c.sz)
def szP (l : List Cp) : Nat := (l.map Cp.sz).sum
theorem szP_cons (c : Cp) (r : List Cp) : szP (c :: r) = c.sz + szP r := by unfold szP; simp
theorem szP_app (a b : List Cp) : szP (a ++ b) = szP a + szP b := by unfold szP; simp
theorem tsP_snoc : ∀ {a : List Cp} {x : Cp} {i : Nat}, tsP (a ++ [x]) i = tsP a i ++ x.tt (i + szP a)
  | [], x, i => by show x.tt i ++ [] = [] ++ x.tt (i + 0); rw [List.append_nil]; rfl
  | y :: r, x, i => by
    show y.tt i ++ tsP (r ++ [x]) (i + y.sz) = y.tt i ++ tsP r (i + y.sz) ++ _
    rw [tsP_snoc, szP_cons, Nat.add_assoc, List.append_assoc]
theorem flP_snoc : ∀ {a : List Cp} {x : Cp} {i : Nat}, flP (a ++ [x]) i = flP a i ++ [{ x.f with ty := ((i + szP a : Nat) : Int) }]
  | [], x, i => rfl
  | y :: r, x, i => by
    show _ :: flP (r ++ [x]) (i + y.sz) = _ :: (flP r (i + y.sz) ++ _)
    rw [flP_snoc, szP_cons, Nat.add_assoc]
theorem flP_len : ∀ {a : List Cp} {i : Nat}, (flP a i).length = a.length
  | [], _ => rfl
  | y :: r, i => by show (flP r (i + y.sz)).length + 1 = _; rw [flP_len]; rfl
structure CpK (m : GMod) (h : Nat) (auto : Bool) (k : Nat) (c : Cp) : Prop where
  n : ∃ tt0, NT m c.f.ty h c.sz tt0 ∧ AutP auto (k : Int) tt0 c.tt
  has : c.f.has = false
theorem CpK.len {m : GMod} {h : Nat} {auto : Bool} {k : Nat} {c : Cp} (x : CpK m h auto k c) (i : Nat) : (c.tt i).length = c.sz := by
  obtain ⟨tt0, h1, h2⟩ := x.n
  rw [h2.len, h1.len]
theorem tsP_len : ∀ {a : List Cp} {i : Nat}, (∀ c ∈ a, ∀ i, (c.tt i).length = c.sz) → (tsP a i).length = szP a
  | [], _, _ => rfl
  | y :: r, i, hc => by
    have := tsP_len (a := r) (i := i + y.sz) fun x hx => hc x (List.mem_cons_of_mem _ hx)
    show (y.tt i ++ tsP r (i + y.sz)).length = _
    rw [List.length_append, this, hc y (List.mem_cons_self ..), szP_cons]
def AutIs (m : GMod) (nd : GNode) (auto : Bool) : Prop := ∀ l : List GTyp, table_maker_automatic ⟨⟨l⟩, m⟩ nd = some (auto, ⟨⟨l⟩, m⟩)
theorem aut_on {m : GMod} {nd : GNode} (h : m.tagging = 2) (hl : nd.fields.length ≤ 1000) {b : Bool} (hb : (∃ f ∈ nd.fields, ∃ z, 0 ≤ f.ty ∧ m.nodes[f.ty.toNat]? = some z ∧ z.mark.has = true) ↔ b = true) : AutIs m nd (!b) := fun l => by
  have hc : slices_ContainsFunc_Lapi_Field_api_Field nd.fields ⟨⟨l⟩, m⟩ = some (b, ⟨⟨l⟩, m⟩) := by
    refine T.fin ?_
    unfold slices_ContainsFunc_Lapi_Field_api_Field
    refine T.cal (Q := fun r => r.2 = ⟨⟨l⟩, m⟩ ∧ decide ((0 : Int) ≤ r.1) = b) ?_ fun r _ ⟨r1, r2⟩ => T.some (by rw [r1, r2])
    unfold slices_IndexFunc_Lapi_Field_api_Field
    refine T.lp (ι := Int × GTmk) (fun q => 0 ≤ q.1 ∧ q.1 ≤ nd.fields.length ∧ q.2 = ⟨⟨l⟩, m⟩ ∧ ∀ j : Nat, j < q.1 → ∀ f, nd.fields[j]? = some f → ¬ ∃ z, 0 ≤ f.ty ∧ m.nodes[f.ty.toNat]? = some z ∧ z.mark.has = true) (fun q => ((nd.fields.length : Int) - q.1).toNat) ⟨Int.le_refl _, by dsimp only; omega, rfl, fun j hj => by dsimp only at hj; omega⟩ (by dsimp only; omega) fun L q ⟨q1, q2, q3, q4⟩ hL => ?_
    obtain ⟨k, x⟩ := q
    dsimp only at q1 q2 q3 q4 hL ⊢
    subst q3
    refine T.br (fun hb1 => ?_) fun hb1 => T.some ⟨rfl, ?_⟩
    · have hb1 := of_decide_eq_true hb1
      refine T.get q1 hb1 fun f hf => ?_
      refine T.cal (Q := fun r => r.2 = ⟨⟨l⟩, m⟩ ∧ (r.1 = true ↔ ∃ z, 0 ≤ f.ty ∧ m.nodes[f.ty.toNat]? = some z ∧ z.mark.has = true)) ?_ fun r _ ⟨r1, r2⟩ => ?_
      · unfold table_maker_automatic_c1
        refine T.jp (fun c => c = true ↔ 0 ≤ f.ty ∧ f.ty < m.nodes.length) (fun J hJ => T.br (fun h0 => hJ _ ?_) fun h0 => hJ _ ?_) fun c hc => T.jp (fun c => c = true ↔ ∃ z, 0 ≤ f.ty ∧ m.nodes[f.ty.toNat]? = some z ∧ z.mark.has = true) (fun J hJ => T.br (fun h0 => ?_) fun h0 => hJ _ ?_) fun c hc => T.some ⟨rfl, hc⟩
        · have h0 := of_decide_eq_true h0
          exact ⟨fun e => ⟨h0, of_decide_eq_true e⟩, fun e => decide_eq_true e.2⟩
        · have h0 := of_decide_eq_false h0
          exact ⟨fun e => (by cases e), fun e => absurd e.1 h0⟩
        · obtain ⟨h1, h2⟩ := hc.1 h0
          exact T.get h1 h2 fun z hz => hJ _ ⟨fun e => ⟨z, h1, hz, e⟩, fun ⟨z', _, e1, e2⟩ => by rw [hz] at e1; cases e1; exact e2⟩
        · refine ⟨fun e => (by cases e), fun ⟨z, e0, e1, _⟩ => ?_⟩
          have := (List.getElem?_eq_some_iff.1 e1).1
          rw [h0] at hc
          exact absurd (hc.2 ⟨e0, by omega⟩) (by simp)
      · refine T.br (fun h2 => T.some ⟨r1, ?_⟩) fun h2 => T.ck (by omega) (hL _ ⟨by dsimp only; omega, by dsimp only; omega, r1, fun j hj g hg => ?_⟩ (by dsimp only; omega))
        · rw [decide_eq_true q1]
          exact (hb.1 ⟨f, List.mem_of_getElem? hf, r2.1 h2⟩).symm
        · dsimp only at hj
          by_cases e : (j : Int) = k
          · have : k.toNat = j := by omega
            rw [this, hg] at hf
            cases hf
            exact fun h3 => by rw [r2.2 h3] at h2; cases h2
          · exact q4 j (by omega) g hg
    · have hb1 := of_decide_eq_false hb1
      cases hbb : b with
      | false => rfl
      | true =>
        obtain ⟨f, hf, hz⟩ := hb.2 hbb
        obtain ⟨j, hj⟩ := List.getElem?_of_mem hf
        have := (List.getElem?_eq_some_iff.1 hj).1
        exact absurd hz (q4 j (by omega) f hj)
  refine T.fin ?_
  unfold table_maker_automatic
  exact T.jp (ι := Bool × GTmk) (fun q => q = (!b, ⟨⟨l⟩, m⟩)) (fun J hJ => T.brT (decide_eq_true h) (T.eq hc (hJ _ rfl))) fun q hq => T.some (by rw [hq])

theorem fieldsP {m : GMod} {nd : GNode} {h : Nat} {cs : List Cp} {auto : Bool} (hf : nd.fields = cs.map Cp.f) (hc : ∀ (k : Nat) c, cs[k]? = some c → CpK m h auto k c) (ha : AutIs m nd auto) (h9 : nd.kind = 9 → cs ≠ []) (hnm : (cs.map fun c => c.f.name).Nodup) (hcl : cs.length ≤ 1000) {n : Nat} {d : Int} {l : List GTyp} {t0 : GTyp} (h1 : 4 * h + 4 ≤ n) (h2 : 0 ≤ d) (h3 : d + h ≤ 15) (h4 : l.length + (szP cs + 1) ≤ 300) {r : Bool}
    (hap : table_types_apart ⟨⟨l ++ { t0 with fields := flP cs (l.length + 1) } :: tsP cs (l.length + 1)⟩, m⟩ { t0 with fields := flP cs (l.length + 1) } = some (r, ⟨⟨l ++ { t0 with fields := flP cs (l.length + 1) } :: tsP cs (l.length + 1)⟩, m⟩)) :
    table_maker_fields n ⟨⟨l ++ [t0]⟩, m⟩ (l.length : Int) nd d = some (if r then 0 else 12, ⟨⟨l ++ { t0 with fields := flP cs (l.length + 1) } :: tsP cs (l.length + 1)⟩, m⟩) := by
  obtain ⟨n, rfl⟩ : ∃ n', n = n' + 1 := ⟨n - 1, by omega⟩
  rw [fieldsP_unf]
  have hfl : nd.fields.length = cs.length := by rw [hf, List.length_map]
  have hlen : ∀ c ∈ cs, ∀ i, (c.tt i).length = c.sz := fun c hm i => by
    obtain ⟨k, hk⟩ := List.getElem?_of_mem hm
    exact (hc k c hk).len i
  refine T.fin ?_
  unfold table_maker_fields_F
  refine T.jp (fun b => b = false) (fun J hJ => T.br (fun e => hJ _ (decide_eq_false fun e2 => ?_)) fun _ => hJ _ rfl) fun b hb => T.jp (fun b => b = false) (fun J hJ => T.brF hb (hJ _ rfl)) fun b hb => T.brF hb (T.eq (ha _) ?_)
  · have := h9 (of_decide_eq_true e)
    exact this (List.length_eq_zero_iff.1 (by omega))
  refine T.lp (ι := List GFld × Int × GTmk) (fun q => ∃ a b : List Cp, cs = a ++ b ∧ q = (flP a (l.length + 1), (a.length : Int), ⟨⟨l ++ t0 :: tsP a (l.length + 1)⟩, m⟩)) (fun q => ((nd.fields.length : Int) - q.2.1).toNat) ⟨[], cs, rfl, rfl⟩ (by dsimp only; omega) fun L q hq hL => ?_
  obtain ⟨a, b, hab, rfl⟩ := hq
  dsimp only at hL ⊢
  have hlab : cs.length = a.length + b.length := by rw [hab, List.length_append]
  cases b with
  | nil =>
    rw [List.append_nil] at hab
    subst hab
    have hl2 : ((l ++ t0 :: tsP cs (l.length + 1)).length : Int) = l.length + 1 + (tsP cs (l.length + 1)).length := by rw [List.length_append, List.length_cons]; omega
    refine T.brF (decide_eq_false (by omega)) (T.asd ⟨by omega, by omega⟩ (T.eq (y := t0) (by rw [Int.toNat_natCast]; exact get_at _ _ _) ?_))
    rw [Int.toNat_natCast, set_at]
    refine T.asd ⟨by omega, by rw [List.length_append, List.length_cons]; omega⟩ (T.eq (get_at _ _ _) (T.eq hap ?_))
    cases r with
    | true => exact T.brF rfl (T.some rfl)
    | false => exact T.brT rfl (T.some rfl)
  | cons c b =>
    have hca : cs[a.length]? = some c := by rw [hab]; exact get_at _ _ _
    have hck := hc a.length c hca
    rw [List.length_cons] at hlab
    obtain ⟨tt0, n1, n2⟩ := hck.n
    have hsz : szP cs = szP a + (c.sz + szP b) := by rw [hab, szP_app, szP_cons]
    have hta : (tsP a (l.length + 1)).length = szP a := tsP_len fun x hx => hlen x (by rw [hab]; exact List.mem_append_left _ hx)
    have hl3 : (l ++ t0 :: tsP a (l.length + 1)).length = l.length + 1 + szP a := by rw [List.length_append, List.length_cons, hta]; omega
    have hgo := field_at (m := m) (nd := nd) (k := a.length) (f := c.f) (auto := auto) (n := n) (d := d) (l := l ++ t0 :: tsP a (l.length + 1)) (by rw [hf, List.getElem?_map, hca]; rfl) (by omega) (fun g hg e => by
      rw [hf, hab, ← List.map_take] at hg
      rw [List.take_left'] at hg
      · obtain ⟨x, hx, rfl⟩ := List.mem_map.1 hg
        rw [hab, List.map_append, List.nodup_append] at hnm
        exact hnm.2.2 _ (List.mem_map.2 ⟨x, hx, rfl⟩) _ (List.mem_cons_self ..) e
      · rfl) hck.has n1 n2 (by omega) h2 h3 (by omega)
    rw [hl3] at hgo
    refine T.brT (decide_eq_true (by omega)) (T.eq hgo (T.brF rfl (T.abl (by rw [flP_len]; simp only [List.length_singleton]; omega) (T.ck (by omega) (hL _ ⟨a ++ [c], b, by rw [hab, List.append_assoc]; rfl, ?_⟩ (by dsimp only; omega))))))
    rw [flP_snoc, tsP_snoc, List.length_append]
    simp only [List.append_assoc, List.cons_append, List.length_singleton]
    rfl
def tgP (k : Int) : List Tag := if k = 9 then [] else if k = 7 then [⟨0, 16⟩] else [⟨0, 17⟩]
def conP (nd : GNode) (fs : List GFld) : GTyp := ⟨nd.kind, tgP nd.kind, nd.con, [], fs, nd.root, nd.more, 0⟩
theorem made_conP {m : GMod} {nd : GNode} {h : Nat} {cs : List Cp} {auto : Bool} (hk : nd.kind = 7 ∨ nd.kind = 8 ∨ nd.kind = 9) (hf : nd.fields = cs.map Cp.f) (hc : ∀ (k : Nat) c, cs[k]? = some c → CpK m h auto k c) (ha : AutIs m nd auto) (h9 : nd.kind = 9 → cs ≠ []) (hnm : (cs.map fun c => c.f.name).Nodup) (hcl : cs.length ≤ 1000) {n : Nat} {d : Int} {l : List GTyp} (h1 : 4 * h + 5 ≤ n) (h2 : 0 ≤ d) (h3 : d + h ≤ 15) (h4 : l.length + (szP cs + 1) ≤ 300) {r : Bool}
    (hap : table_types_apart ⟨⟨l ++ conP nd (flP cs (l.length + 1)) :: tsP cs (l.length + 1)⟩, m⟩ (conP nd (flP cs (l.length + 1))) = some (r, ⟨⟨l ++ conP nd (flP cs (l.length + 1)) :: tsP cs (l.length + 1)⟩, m⟩)) :
    table_maker_made n ⟨⟨l⟩, m⟩ nd d = some ((l.length : Int), if r then 0 else 12, ⟨⟨l ++ conP nd (flP cs (l.length + 1)) :: tsP cs (l.length + 1)⟩, m⟩) := by
  obtain ⟨n, rfl⟩ : ∃ n', n = n' + 1 := ⟨n - 1, by omega⟩
  rw [madeP_unf]
  refine T.fin ?_
  unfold table_maker_made_F
  refine T.jp (fun b => b = false) (fun J hJ => T.brF (decide_eq_false (by omega)) (hJ _ (decide_eq_false (by dsimp only; omega)))) fun b hb => T.brF hb ?_
  refine T.jp (ι := GTyp) (fun t => t = conP nd []) (fun J hJ => ?_) fun t ht => ?_
  · rcases hk with e | e | e
    · exact T.brT (by rw [e]; rfl) (T.eq (y := ⟨0, 16⟩) (by rw [e]; kernel_rfl) (hJ _ (by unfold conP tgP; rw [e]; rfl)))
    · exact T.brT (by rw [e]; rfl) (T.eq (y := ⟨0, 17⟩) (by rw [e]; kernel_rfl) (hJ _ (by unfold conP tgP; rw [e]; rfl)))
    · exact T.brF (by rw [e]; rfl) (hJ _ (by unfold conP tgP; rw [e]; rfl))
  subst ht
  refine T.eq (add_at (by omega)) ?_
  refine T.jp (ι := Int × GTmk) (fun q => q = (if r then 0 else 12, ⟨⟨l ++ conP nd (flP cs (l.length + 1)) :: tsP cs (l.length + 1)⟩, m⟩)) (fun J hJ => ?_) fun q hq => T.some (by rw [hq])
  have hgo := fieldsP (t0 := conP nd []) (n := n) hf hc ha h9 hnm hcl (by omega) h2 h3 h4 hap
  refine T.brF (decide_eq_false (by omega)) (T.jp (fun b => b = false) (fun J2 h2 => T.brF (decide_eq_false (by omega)) (h2 _ (decide_eq_false (by omega)))) fun b hb => T.brF hb (T.brF (decide_eq_false (by omega)) (T.brF (decide_eq_false (by omega)) (T.jp (fun b => b = true) (fun J2 h2 => T.br (fun e => h2 _ e) fun e => T.br (fun e => h2 _ e) fun e' => h2 _ (decide_eq_true (by have := of_decide_eq_false e; have := of_decide_eq_false e'; omega))) fun b hb => T.brT hb (T.eq hgo (hJ _ rfl))))))
theorem make_one {m : GMod} {s : Str} (hm : m.names = [s]) (ht : m.types = [0]) (hn : NoRef m) {nd : GNode} {e : Int} {i : Int} {ts : List GTyp} (h0 : m.nodes[0]? = some nd) (hk : nd.kind ≠ 11) (hmk : nd.mark.has = false) (hgo : table_maker_made (fuel - 1) ⟨⟨[]⟩, m⟩ nd 0 = some (0, e, ⟨⟨ts⟩, m⟩)) :
    table_Make m = some (if e = 0 then (⟨m.name, [s], [0], ts⟩, 0, 0) else (⟨⟨[]⟩, [], [], []⟩, 0, e)) := by
  have hnode : table_maker_node fuel ⟨⟨[]⟩, m⟩ 0 0 = some (0, e, ⟨⟨ts⟩, m⟩) := by
    have ef : fuel = (fuel - 1) + 1 := by unfold fuel; rfl
    rw [ef, nodeP_unf]
    refine T.fin ?_
    have hkl := (List.getElem?_eq_some_iff.1 h0).1
    unfold table_maker_node_F
    refine T.jp (fun b => b = false) (fun J hJ => T.brF rfl (hJ _ (decide_eq_false (by dsimp only; omega)))) fun b hb => T.brF hb (T.eq (getI_at (Int.le_refl _) h0) ?_)
    refine T.jp (ι := Int × Int × GTmk) (fun q => q = (0, e, ⟨⟨ts⟩, m⟩)) (fun J hJ => T.brF (decide_eq_false hk) (T.eq hgo (hJ _ rfl))) fun q hq => ?_
    subst hq
    refine T.br (fun _ => T.some rfl) fun he => ?_
    have he : e = 0 := by
      have := he
      simpa using this
    refine T.eq (y := (0, ⟨⟨ts⟩, m⟩)) ?_ (T.some (by rw [he]))
    unfold table_maker_marked
    rw [hmk]; rfl
  refine T.fin ?_
  unfold table_Make
  refine T.eq (order_one hn hm ht) (T.brF rfl (T.brF (by rw [hm, ht]; rfl) ?_))
  refine T.jp (ι := GTab) (fun t => t = ⟨m.name, [s], [], []⟩) (fun J hJ => T.eq (y := [s]) (by rw [hm]; kernel_rfl) (hJ _ rfl)) fun t htt => ?_
  subst htt
  refine T.lp (ι := Int × GTab × GTmk) (fun q => q = (0, ⟨m.name, [s], [], []⟩, ⟨⟨[]⟩, m⟩) ∨ (e = 0 ∧ q = (1, ⟨m.name, [s], [0], []⟩, ⟨⟨ts⟩, m⟩))) (fun q => (1 - q.1).toNat) (.inl rfl) (by dsimp only; omega) fun L q hq hL => ?_
  rcases hq with rfl | ⟨he, rfl⟩
  · refine T.brT (by rw [hm]; rfl) (T.eq (y := 0) (by rw [ht]; rfl) (T.eq hnode (T.br (fun he => T.some ?_) fun he => T.asr rfl (T.ck (by dsimp only; omega) (hL _ (.inr ⟨?_, rfl⟩) (by dsimp only; omega))))))
    · have he : ¬ e = 0 := by simpa using he
      rw [if_neg he]
    · simpa using he
  · refine T.brF (by rw [hm]; rfl) (T.some ?_)
    rw [if_pos he]
end Go.Proofs.YtiibmpdjkdjbiaaGreatDoor


namespace Go.Proofs.YtiibmpdjkdjbiaaGreatDoor
open Go.Sy
set_option linter.unusedVariables false

structure Fl where
  name : List UInt8
  ts : KS
  sz : Nat
  ns : Nat → List GNode
  tail : KS
  opt : Bool
  has : Bool
  df : Val
def Fl.toks (f : Fl) : KS := (2, f.name) :: (f.ts ++ f.tail)
def Fl.fl (f : Fl) (g : Int) (i : Nat) : GFld := ⟨⟨f.name⟩, (i : Int), f.opt, f.has, f.df, g⟩
@[reducible] def zv : Val := Val.mk 0 0 [] [] 0 []
def addF (n : GNode) (f : GFld) : GNode := ⟨n.kind, n.name, n.mark, n.con, n.items, n.fields ++ [f], n.root, n.more, n.of⟩
structure Sep (k : Int) (t : List UInt8) : Prop where
  par : isK k t [40] = false
  opt : isK k t [79, 80, 84, 73, 79, 78, 65, 76] = false
  dft : isK k t [68, 69, 70, 65, 85, 76, 84] = false
theorem sep_comma : Sep 6 [44] := ⟨rfl, rfl, rfl⟩
theorem sep_brace : Sep 6 [125] := ⟨rfl, rfl, rfl⟩
theorem sep_brack : Sep 6 [93, 93] := ⟨rfl, rfl, rfl⟩
structure FldK (h : Nat) (kind : Int) (f : Fl) : Prop where
  len : ∀ i, (f.ns i).length = f.sz
  go : ∀ {n : Nat} {d : Int} {L : List GTok} {a : Int} {m : GMod} {k : Int} {t : List UInt8} {ks : KS} {nd : GNode} {g : Int}, 4 * h + 1 ≤ n → 0 ≤ d → d + h ≤ 16 → Sg L a (f.toks ++ (k, t) :: ks) → Sep k t → m.nodes.length + f.sz ≤ 300 → nd.kind = kind → nd.fields.length ≤ 1000 →
    r05_parser_field n ⟨L, a, m, 0, 0⟩ nd d g = some (⟨L, a + f.toks.length, addN m (f.ns m.nodes.length), 0, 0⟩, addF nd (f.fl g m.nodes.length))
theorem field_unf (n : Nat) : r05_parser_field (n + 1) = r05_parser_field_F (r05_parser_field n) (r05_parser_typ n) (r05_parser_base n) (r05_parser_fields n) := rfl
theorem fields_unf (n : Nat) : r05_parser_fields (n + 1) = r05_parser_fields_F (r05_parser_field n) (r05_parser_typ n) (r05_parser_base n) (r05_parser_fields n) := rfl
theorem fld_plain {h sz : Nat} {ts : KS} {ns : Nat → List GNode} (hT : TypK h ts sz ns) (kind : Int) (nm : List UInt8) : FldK h kind ⟨nm, ts, sz, ns, [], false, false, zv⟩ := by
  refine ⟨hT.len, ?_⟩
  intro n d L a m k t ks nd g h1 h2 h3 hA hs hm hk hf
  obtain ⟨n, rfl⟩ : ∃ n', n = n' + 1 := ⟨n - 1, by omega⟩
  have a1 : Sg L (a + 1) (ts ++ (k, t) :: ks) := by
    have := Sg.tl hA
    simpa using this
  have a2 := a1.app
  rw [field_unf]
  refine T.fin ?_
  unfold r05_parser_field_F
  refine T.eq (kind_yes hA) (T.ck (by omega) (T.eq (hT.go (by omega) (by omega) (by omega) a1 hs.par hm) ?_))
  refine T.jp (fun q => q = ((⟨⟨nm⟩, (m.nodes.length : Int), false, false, zv, g⟩ : GFld), (⟨L, a + 1 + ts.length, addN m (ns m.nodes.length), 0, 0⟩ : GPar))) (fun J hJ => T.br (fun _ => hJ _ rfl) fun _ => T.eq (is_no a2 hs.opt) (T.brF rfl (T.eq (is_no a2 hs.dft) (T.brF rfl (hJ _ rfl))))) fun q hq => ?_
  subst hq
  refine T.abl (by simp only [List.length_singleton]; omega) (T.some ?_)
  have e : a + ((Fl.toks ⟨nm, ts, sz, ns, [], false, false, zv⟩).length : Int) = a + 1 + (ts.length : Int) := by
    unfold Fl.toks; simp only [List.length_cons, List.length_append, List.length_nil]; omega
  rw [e]; rfl
/-! ### Some of them, with commas -/
def sepK : List KS → KS
  | [] => []
  | [x] => x
  | x :: y :: r => x ++ (6, [44]) :: sepK (y :: r)
def Fl.stp (g : Int) (s : GMod × GNode) (f : Fl) : GMod × GNode := (addN s.1 (f.ns s.1.nodes.length), addF s.2 (f.fl g s.1.nodes.length))
def szL (l : List Fl) : Nat := (l.map Fl.sz).sum
theorem grp_T {h : Nat} {kind : Int} {n : Nat} {d g : Int} {L : List GTok} {k : Int} {t : List UInt8} {ks : KS} {β : Type} {R : β → Prop} {J : GPar × GNode → Option β}
    (hn : 4 * h + 1 ≤ n) (hd : 0 ≤ d) (hdh : d + h ≤ 16) (hs : Sep k t) (hc : isK k t [44] = false) {fls : List Fl} {a : Int} {m : GMod} {nd : GNode} (hne : fls ≠ [])
    (hA : Sg L a (sepK (fls.map Fl.toks) ++ (k, t) :: ks)) (hm : m.nodes.length + szL fls ≤ 300) (hk : nd.kind = kind) (hf : nd.fields.length + fls.length ≤ 1000) (hF : ∀ f ∈ fls, FldK h kind f)
    (hJ : T R (J (⟨L, a + (sepK (fls.map Fl.toks)).length, (fls.foldl (Fl.stp g) (m, nd)).1, 0, 0⟩, (fls.foldl (Fl.stp g) (m, nd)).2))) :
    T R (lp (ι := GPar × GNode) (fun L81 q80 => br (decide (q80.1.e = (0 : Int))) (cal (r05_parser_field n q80.1 q80.2 d g) fun y91 => cal (r05_parser_is y91.1 (Str.mk [44])) fun y97 => br (!y97.1) (J (y97.2, y91.2)) (L81 (y97.2, y91.2))) (J (q80.1, q80.2))) ((⟨L, a, m, 0, 0⟩, nd))) := by
  let I : GPar × GNode → Prop := fun q => ∃ (rest : List Fl) (a1 : Int) (m1 : GMod) (nd1 : GNode), q = (⟨L, a1, m1, 0, 0⟩, nd1) ∧ rest ≠ [] ∧ Sg L a1 (sepK (rest.map Fl.toks) ++ (k, t) :: ks) ∧ a1 + (sepK (rest.map Fl.toks)).length = a + (sepK (fls.map Fl.toks)).length ∧ rest.foldl (Fl.stp g) (m1, nd1) = fls.foldl (Fl.stp g) (m, nd) ∧ m1.nodes.length + szL rest ≤ 300 ∧ nd1.kind = kind ∧ nd1.fields.length + rest.length ≤ 1000 ∧ (∀ f ∈ rest, FldK h kind f)
  have hI0 : I (⟨L, a, m, 0, 0⟩, nd) := ⟨fls, a, m, nd, rfl, hne, hA, rfl, rfl, hm, hk, hf, hF⟩
  refine T.lp I (fun q => ((L.length : Int) - q.1.at_).toNat) hI0 (by have := hA.a0; have := hA.len; dsimp only; omega) fun L2 q hq hL => ?_
  obtain ⟨rest, a1, m1, nd1, rfl, hne1, hA1, ha1, hfo, hm1, hk1, hf1, hF1⟩ := hq
  dsimp only at hL ⊢
  refine T.brT rfl ?_
  cases rest with
  | nil => exact absurd rfl hne1
  | cons f r =>
    have hfk := hF1 f (List.mem_cons_self ..)
    have hsz : szL (f :: r) = f.sz + szL r := by unfold szL; simp
    rw [List.length_cons] at hf1
    cases r with
    | nil =>
      have hA2 : Sg L a1 (f.toks ++ (k, t) :: ks) := hA1
      refine T.eq (hfk.go hn hd hdh hA2 hs (by omega) hk1 (by omega)) (T.eq (is_no hA2.app hc) (T.brT rfl ?_))
      have e1 : a1 + (f.toks.length : Int) = a + (sepK (fls.map Fl.toks)).length := ha1
      have e2 : (addN m1 (f.ns m1.nodes.length), addF nd1 (f.fl g m1.nodes.length)) = fls.foldl (Fl.stp g) (m, nd) := hfo
      rw [← e1, ← e2] at hJ
      exact hJ
    | cons f2 r =>
      have hA2 : Sg L a1 (f.toks ++ (6, [44]) :: (sepK ((f2 :: r).map Fl.toks) ++ (k, t) :: ks)) := by
        have e : sepK ((f :: f2 :: r).map Fl.toks) ++ (k, t) :: ks = f.toks ++ (6, [44]) :: (sepK ((f2 :: r).map Fl.toks) ++ (k, t) :: ks) := by
          show (f.toks ++ (6, [44]) :: sepK ((f2 :: r).map Fl.toks)) ++ (k, t) :: ks = _
          rw [List.append_assoc]; rfl
        rw [e] at hA1; exact hA1
      have hA3 := hA2.app
      refine T.eq (hfk.go hn hd hdh hA2 sep_comma (by omega) hk1 (by omega)) (T.eq (is_yes hA3 rfl) (T.brF rfl (hL _ ⟨f2 :: r, _, _, _, rfl, by simp, hA3.tl, ?_, hfo, ?_, hk1, ?_, fun x hx => hF1 x (List.mem_cons_of_mem _ hx)⟩ ?_)))
      · have e : (sepK ((f :: f2 :: r).map Fl.toks)).length = f.toks.length + ((sepK ((f2 :: r).map Fl.toks)).length + 1) := by
          show (f.toks ++ (6, [44]) :: sepK ((f2 :: r).map Fl.toks)).length = _
          rw [List.length_append, List.length_cons]
        rw [e] at ha1
        omega
      · rw [addN_len, hfk.len]; omega
      · unfold addF; dsimp only; rw [List.length_append, List.length_singleton]; rw [List.length_cons] at hf1 ⊢; omega
      · have := hA3.size
        have := hA3.a0
        have := hA1.a0
        dsimp only
        omega

/-! ### What stands within a bracket -/
inductive FI where
  | one (x : Fl)
  | dots
  | grp (l : List Fl)
def FI.toks : FI → KS
  | .one x => x.toks
  | .dots => [(6, [46, 46, 46])]
  | .grp l => (6, [91, 91]) :: (sepK (l.map Fl.toks) ++ [(6, [93, 93])])
def FI.stp (s : Int × GMod × GNode) : FI → Int × GMod × GNode
  | .one x => (s.1, Fl.stp 0 s.2 x)
  | .dots => (s.1, s.2.1, ⟨s.2.2.kind, s.2.2.name, s.2.2.mark, s.2.2.con, s.2.2.items, s.2.2.fields, (s.2.2.fields.length : Int), true, s.2.2.of⟩)
  | .grp l => (s.1 + 1, l.foldl (Fl.stp (s.1 + 1)) s.2)
def FI.fls : FI → List Fl
  | .one x => [x]
  | .dots => []
  | .grp l => l
def szI (l : List FI) : Nat := szL (l.flatMap FI.fls)
def okI (h : Nat) (kind : Int) : Bool → List FI → Prop
  | _, [] => True
  | b, .one x :: r => FldK h kind x ∧ okI h kind b r
  | b, .dots :: r => b = false ∧ okI h kind true r
  | b, .grp l :: r => b = true ∧ l ≠ [] ∧ (∀ f ∈ l, FldK h kind f) ∧ okI h kind true r
theorem fold_facts {h : Nat} {kind : Int} {g : Int} : ∀ {l : List Fl} {m : GMod} {nd : GNode}, (∀ f ∈ l, FldK h kind f) →
    (l.foldl (Fl.stp g) (m, nd)).1.nodes.length = m.nodes.length + szL l ∧ (l.foldl (Fl.stp g) (m, nd)).2.kind = nd.kind ∧ (l.foldl (Fl.stp g) (m, nd)).2.more = nd.more ∧ (l.foldl (Fl.stp g) (m, nd)).2.fields.length = nd.fields.length + l.length
  | [], m, nd, _ => ⟨rfl, rfl, rfl, rfl⟩
  | f :: r, m, nd, hF => by
    obtain ⟨h1, h2, h3, h4⟩ := fold_facts (g := g) (l := r) (m := addN m (f.ns m.nodes.length)) (nd := addF nd (f.fl g m.nodes.length)) fun x hx => hF x (List.mem_cons_of_mem _ hx)
    have e : (f :: r).foldl (Fl.stp g) (m, nd) = r.foldl (Fl.stp g) (addN m (f.ns m.nodes.length), addF nd (f.fl g m.nodes.length)) := rfl
    rw [e, h1, h2, h3, h4]
    refine ⟨?_, rfl, rfl, ?_⟩
    · rw [addN_len, (hF f (List.mem_cons_self ..)).len]; unfold szL; simp; omega
    · unfold addF; dsimp only; simp; omega
def endN (nd : GNode) : GNode := if nd.more then nd else ⟨nd.kind, nd.name, nd.mark, nd.con, nd.items, nd.fields, (nd.fields.length : Int), nd.more, nd.of⟩
theorem fi_first {x : FI} : ∃ k t r, x.toks = (k, t) :: r ∧ isK k t [125] = false ∧ (∀ f, x = .one f → k = 2) := by
  cases x with
  | one x => exact ⟨_, _, _, rfl, rfl, fun _ _ => rfl⟩
  | dots => exact ⟨_, _, _, rfl, rfl, fun _ h => by cases h⟩
  | grp l => exact ⟨_, _, _, rfl, rfl, fun _ h => by cases h⟩
theorem fields_T {h : Nat} {kind : Int} {n : Nat} {d : Int} {L : List GTok} {ks : KS} (hn : 4 * h + 2 ≤ n) (hd : 0 ≤ d) (hdh : d + h ≤ 16) {l : List FI} {a : Int} {m : GMod} {nd : GNode} (hne : l ≠ [])
    (hA : Sg L a (sepK (l.map FI.toks) ++ (6, [125]) :: ks)) (hm : m.nodes.length + szI l ≤ 300) (hk : nd.kind = kind) (hf : nd.fields.length + (l.flatMap FI.fls).length ≤ 1000) (hmo : nd.more = false) (hF : okI h kind false l) :
    r05_parser_fields n ⟨L, a, m, 0, 0⟩ nd d = some (⟨L, a + (sepK (l.map FI.toks)).length + 1, (l.foldl FI.stp (0, m, nd)).2.1, 0, 0⟩, endN (l.foldl FI.stp (0, m, nd)).2.2) := by
  obtain ⟨n, rfl⟩ : ∃ n', n = n' + 1 := ⟨n - 1, by omega⟩
  rw [fields_unf]
  have hfst : ∃ k t r, sepK (l.map FI.toks) ++ (6, [125]) :: ks = (k, t) :: r ∧ isK k t [125] = false := by
    cases l with
    | nil => exact absurd rfl hne
    | cons x r =>
      obtain ⟨k, t, r', e, h1, _⟩ := fi_first (x := x)
      cases r with
      | nil => exact ⟨k, t, r' ++ (6, [125]) :: ks, by show x.toks ++ _ = _; rw [e]; rfl, h1⟩
      | cons y r => exact ⟨k, t, _, by show (x.toks ++ (6, [44]) :: sepK ((y :: r).map FI.toks)) ++ _ = _; rw [e]; rfl, h1⟩
  obtain ⟨k0, t0, r0, e0, hno⟩ := hfst
  have hA0 := hA
  rw [e0] at hA0
  refine T.fin ?_
  unfold r05_parser_fields_F
  refine T.eq (is_no hA0 hno) (T.brF rfl ?_)
  refine T.jp (fun q => q = ((⟨L, a + (sepK (l.map FI.toks)).length, (l.foldl FI.stp (0, m, nd)).2.1, 0, 0⟩ : GPar), (l.foldl FI.stp (0, m, nd)).2.2)) (fun J hJ => ?_) fun q hq => ?_
  · let I : Int × GPar × GNode → Prop := fun q => ∃ (rest : List FI) (g1 a1 : Int) (m1 : GMod) (nd1 : GNode), q = (g1, ⟨L, a1, m1, 0, 0⟩, nd1) ∧ rest ≠ [] ∧ 0 ≤ g1 ∧ g1 ≤ a1 ∧ Sg L a1 (sepK (rest.map FI.toks) ++ (6, [125]) :: ks) ∧ a1 + (sepK (rest.map FI.toks)).length = a + (sepK (l.map FI.toks)).length ∧ rest.foldl FI.stp (g1, m1, nd1) = l.foldl FI.stp (0, m, nd) ∧ m1.nodes.length + szI rest ≤ 300 ∧ nd1.kind = kind ∧ nd1.fields.length + (rest.flatMap FI.fls).length ≤ 1000 ∧ okI h kind nd1.more rest
    have hI0 : I (0, ⟨L, a, m, 0, 0⟩, nd) := ⟨l, 0, a, m, nd, rfl, hne, Int.le_refl _, hA.a0, hA, rfl, rfl, hm, hk, hf, by rw [hmo]; exact hF⟩
    refine T.lp I (fun q => ((L.length : Int) - q.2.1.at_).toNat) hI0 (by have := hA.a0; have := hA.len; dsimp only; omega) fun L2 q hq hL => ?_
    obtain ⟨rest, g1, a1, m1, nd1, rfl, hne1, hg0, hg1, hA1, ha1, hfo, hm1, hk1, hf1, hF1⟩ := hq
    dsimp only at hL ⊢
    refine T.brT rfl ?_
    cases rest with
    | nil => exact absurd rfl hne1
    | cons x r =>
      -- behind the first one
      have hsz : szI (x :: r) = szL x.fls + szI r := by unfold szI szL; simp
      have hfl : ((x :: r).flatMap FI.fls).length = x.fls.length + (r.flatMap FI.fls).length := by simp
      rw [hsz] at hm1
      rw [hfl] at hf1
      have hnext : ∃ k t ks', sepK ((x :: r).map FI.toks) ++ (6, [125]) :: ks = x.toks ++ (k, t) :: ks' ∧ Sep k t ∧ ((r = [] ∧ k = 6 ∧ t = [125] ∧ ks' = ks) ∨ (r ≠ [] ∧ k = 6 ∧ t = [44] ∧ ks' = sepK (r.map FI.toks) ++ (6, [125]) :: ks)) := by
        cases r with
        | nil => exact ⟨6, [125], ks, rfl, sep_brace, .inl ⟨rfl, rfl, rfl, rfl⟩⟩
        | cons y r => exact ⟨6, [44], _, by show (x.toks ++ (6, [44]) :: sepK ((y :: r).map FI.toks)) ++ _ = _; rw [List.append_assoc]; rfl, sep_comma, .inr ⟨by simp, rfl, rfl, rfl⟩⟩
      obtain ⟨k, t, ks', ek, hsep, hcase⟩ := hnext
      rw [ek] at hA1
      have hA2 := hA1.app
      have hA2s := hA2.size
      have hA20 := hA2.a0
      have hA10 := hA1.a0
      have hAl := hA1.len
      have hpos : 1 ≤ x.toks.length := by obtain ⟨k, t, r, e, _⟩ := fi_first (x := x); rw [e]; simp
      have hstep : ∀ q : Int × GPar × GNode, q = ((FI.stp (g1, m1, nd1) x).1, ⟨L, a1 + x.toks.length, (FI.stp (g1, m1, nd1) x).2.1, 0, 0⟩, (FI.stp (g1, m1, nd1) x).2.2) → okI h kind (FI.stp (g1, m1, nd1) x).2.2.more r → (FI.stp (g1, m1, nd1) x).2.1.nodes.length = m1.nodes.length + szL x.fls → (FI.stp (g1, m1, nd1) x).2.2.kind = kind → (FI.stp (g1, m1, nd1) x).2.2.fields.length = nd1.fields.length + x.fls.length → 0 ≤ (FI.stp (g1, m1, nd1) x).1 → (FI.stp (g1, m1, nd1) x).1 ≤ a1 + x.toks.length → T (fun r => r = ((⟨L, a + (sepK (l.map FI.toks)).length + 1, (l.foldl FI.stp (0, m, nd)).2.1, 0, 0⟩ : GPar), endN (l.foldl FI.stp (0, m, nd)).2.2)) (cal (r05_parser_is q.2.1 (Str.mk [44])) fun y110 => br (!y110.1) (J (y110.2, q.2.2)) (L2 (q.1, y110.2, q.2.2))) := by
        intro q hq hok hn1 hk2 hf2 hg2 hg3
        subst hq
        rcases hcase with ⟨hr, hk', ht', hks⟩ | ⟨hr, hk', ht', hks⟩
        · subst hr; subst hk'; subst ht'; subst hks
          refine T.eq (is_no hA2 rfl) (T.brT rfl (hJ _ ?_))
          have e1 : a1 + (x.toks.length : Int) = a + (sepK (l.map FI.toks)).length := ha1
          have e2 : FI.stp (g1, m1, nd1) x = l.foldl FI.stp (0, m, nd) := hfo
          rw [← e1, ← e2]
        · subst hk'; subst ht'; subst hks
          refine T.eq (is_yes hA2 rfl) (T.brF rfl (hL _ ⟨r, _, _, _, _, rfl, hr, hg2, by omega, hA2.tl, ?_, hfo, by omega, hk2, by dsimp only; omega, hok⟩ (by dsimp only; omega)))
          have e : (sepK ((x :: r).map FI.toks)).length = x.toks.length + ((sepK (r.map FI.toks)).length + 1) := by
            cases r with
            | nil => exact absurd rfl hr
            | cons y r =>
              show (x.toks ++ (6, [44]) :: sepK ((y :: r).map FI.toks)).length = _
              rw [List.length_append, List.length_cons]
          rw [e] at ha1
          omega
      cases x with
      | one f =>
        obtain ⟨hfk, hF2⟩ := hF1
        have hs1 : szL (FI.fls (.one f)) = f.sz := by unfold szL FI.fls; simp
        have hgo := hfk.go (n := n) (g := 0) (m := m1) (nd := nd1) (by omega) hd hdh hA1 hsep (by rw [hs1] at hm1; omega) hk1 (by omega)
        refine T.jp (fun q => q = ((FI.stp (g1, m1, nd1) (.one f)).1, ⟨L, a1 + (FI.toks (.one f)).length, (FI.stp (g1, m1, nd1) (.one f)).2.1, 0, 0⟩, (FI.stp (g1, m1, nd1) (.one f)).2.2)) (fun J2 hJ2 => ?_) fun q hq => hstep q hq (by show okI h kind nd1.more r; exact hF2) (by show (addN m1 (f.ns m1.nodes.length)).nodes.length = _; rw [addN_len, hfk.len]; unfold FI.fls szL; simp) hk1 (by show (addF nd1 _).fields.length = _; unfold addF FI.fls; simp) hg0 (by show g1 ≤ _; omega)
        have hA1' : Sg L a1 ((2, f.name) :: (f.ts ++ f.tail ++ (k, t) :: ks')) := hA1
        refine T.jp (fun q => q = (false, (⟨L, a1, m1, 0, 0⟩ : GPar))) (fun J3 hJ3 => T.br (fun _ => T.eq (is_no hA1' rfl) (hJ3 _ rfl)) fun _ => hJ3 _ rfl) fun q hq => ?_
        subst hq
        refine T.brF rfl (T.jp (fun q => q = (false, (⟨L, a1, m1, 0, 0⟩ : GPar))) (fun J3 hJ3 => T.br (fun _ => T.eq (is_no hA1' rfl) (hJ3 _ rfl)) fun _ => hJ3 _ rfl) fun q hq => ?_)
        subst hq
        exact T.brF rfl (T.eq hgo (hJ2 _ rfl))
      | dots =>
        obtain ⟨hmo1, hF2⟩ := hF1
        refine T.jp (fun q => q = ((FI.stp (g1, m1, nd1) .dots).1, ⟨L, a1 + (FI.toks .dots).length, (FI.stp (g1, m1, nd1) .dots).2.1, 0, 0⟩, (FI.stp (g1, m1, nd1) .dots).2.2)) (fun J2 hJ2 => ?_) fun q hq => hstep q hq hF2 rfl hk1 rfl hg0 (by show g1 ≤ _; omega)
        have hA1' : Sg L a1 ((6, [46, 46, 46]) :: (k, t) :: ks') := hA1
        refine T.jp0 (T.brT (by rw [hmo1]; rfl) (T.eq (is_yes hA1' rfl) (T.brT rfl (hJ2 _ rfl))))
      | grp fl =>
        obtain ⟨hmo1, hfl0, hFl, hF2⟩ := hF1
        obtain ⟨f1, f2, f3, f4⟩ := fold_facts (g := g1 + 1) (m := m1) (nd := nd1) hFl
        refine T.jp (fun q => q = ((FI.stp (g1, m1, nd1) (.grp fl)).1, ⟨L, a1 + (FI.toks (.grp fl)).length, (FI.stp (g1, m1, nd1) (.grp fl)).2.1, 0, 0⟩, (FI.stp (g1, m1, nd1) (.grp fl)).2.2)) (fun J2 hJ2 => ?_) fun q hq => hstep q hq (by show okI h kind (fl.foldl (Fl.stp (g1 + 1)) (m1, nd1)).2.more r; rw [f3, hmo1]; exact hF2) (by show (fl.foldl (Fl.stp (g1 + 1)) (m1, nd1)).1.nodes.length = _; rw [f1]; rfl) (by show (fl.foldl (Fl.stp (g1 + 1)) (m1, nd1)).2.kind = _; rw [f2]; exact hk1) (by show (fl.foldl (Fl.stp (g1 + 1)) (m1, nd1)).2.fields.length = _; rw [f4]; rfl) (by show 0 ≤ g1 + 1; omega) (by show g1 + 1 ≤ _; omega)
        have hA1' : Sg L a1 ((6, [91, 91]) :: (sepK (fl.map Fl.toks) ++ (6, [93, 93]) :: (k, t) :: ks')) := by
          have e : FI.toks (.grp fl) ++ (k, t) :: ks' = (6, [91, 91]) :: (sepK (fl.map Fl.toks) ++ (6, [93, 93]) :: (k, t) :: ks') := by
            show ((6, [91, 91]) :: (sepK (fl.map Fl.toks) ++ [(6, [93, 93])])) ++ (k, t) :: ks' = _
            simp
          rw [← e]; exact hA1
        have hA3 := hA1'.tl
        have hA4 := hA3.app
        refine T.jp (fun q => q = (false, (⟨L, a1, m1, 0, 0⟩ : GPar))) (fun J3 hJ3 => T.br (fun _ => T.eq (is_no hA1' rfl) (hJ3 _ rfl)) fun _ => hJ3 _ rfl) fun q hq => ?_
        subst hq
        refine T.brF rfl (T.jp0 (T.brT hmo1 (T.eq (is_yes hA1' rfl) (T.brT rfl (T.ck (by omega) ?_)))))
        refine T.jp (fun q => q = ((⟨L, a1 + 1 + (sepK (fl.map Fl.toks)).length, (fl.foldl (Fl.stp (g1 + 1)) (m1, nd1)).1, 0, 0⟩ : GPar), (fl.foldl (Fl.stp (g1 + 1)) (m1, nd1)).2)) (fun J3 hJ3 => ?_) fun q hq => ?_
        · have hsl : szL (FI.fls (.grp fl)) = szL fl := rfl
          have hll : (FI.fls (.grp fl)).length = fl.length := rfl
          exact grp_T (h := h) (kind := kind) (by omega) hd hdh sep_brack rfl hfl0 hA3 (by omega) hk1 (by omega) hFl (hJ3 _ rfl)
        · subst hq
          refine T.eq (must_yes hA4 rfl) (hJ2 _ ?_)
          have e : a1 + ((FI.toks (.grp fl)).length : Int) = a1 + 1 + (sepK (fl.map Fl.toks)).length + 1 := by
            unfold FI.toks; simp only [List.length_cons, List.length_append, List.length_nil]; omega
          rw [e]; rfl
  · subst hq
    refine T.eq (must_yes hA.app rfl) ?_
    unfold endN
    cases hmf : (l.foldl FI.stp (0, m, nd)).2.2.more with
    | true => exact T.brF rfl (T.some (by rw [if_pos rfl]))
    | false => exact T.brT rfl (T.some (by rw [if_neg (by decide)]))
end Go.Proofs.YtiibmpdjkdjbiaaGreatDoor


namespace Go.Proofs.YtiibmpdjkdjbiaaGreatDoor
open Go.Sy
set_option linter.unusedVariables false

def nsF : List Fl → Nat → List GNode
  | [], _ => []
  | x :: r, i => x.ns i ++ nsF r (i + x.sz)
def ndF (g : Int) : List Fl → Nat → GNode → GNode
  | [], _, nd => nd
  | x :: r, i, nd => ndF g r (i + x.sz) (addF nd (x.fl g i))
def nsI (l : List FI) (i : Nat) : List GNode := nsF (l.flatMap FI.fls) i
def ndI : Int → List FI → Nat → GNode → GNode
  | _, [], _, nd => nd
  | g, .one x :: r, i, nd => ndI g r (i + x.sz) (addF nd (x.fl 0 i))
  | g, .dots :: r, i, nd => ndI g r i ⟨nd.kind, nd.name, nd.mark, nd.con, nd.items, nd.fields, (nd.fields.length : Int), true, nd.of⟩
  | g, .grp l :: r, i, nd => ndI (g + 1) r (i + szL l) (ndF (g + 1) l i nd)
theorem szL_cons (x : Fl) (r : List Fl) : szL (x :: r) = x.sz + szL r := by unfold szL; simp
theorem nsF_len {h : Nat} {kind : Int} : ∀ {l : List Fl} {i : Nat}, (∀ f ∈ l, FldK h kind f) → (nsF l i).length = szL l
  | [], _, _ => rfl
  | x :: r, i, hF => by
    have := nsF_len (l := r) (i := i + x.sz) fun y hy => hF y (List.mem_cons_of_mem _ hy)
    show (x.ns i ++ nsF r (i + x.sz)).length = _
    rw [List.length_append, this, (hF x (List.mem_cons_self ..)).len, szL_cons]
theorem nsF_app : ∀ {a b : List Fl} {i : Nat}, nsF (a ++ b) i = nsF a i ++ nsF b (i + szL a)
  | [], b, i => by show nsF b i = [] ++ nsF b (i + 0); rw [List.nil_append]; rfl
  | x :: r, b, i => by
    show x.ns i ++ nsF (r ++ b) (i + x.sz) = x.ns i ++ nsF r (i + x.sz) ++ _
    rw [nsF_app, szL_cons, List.append_assoc, Nat.add_assoc]
theorem fold_F {h : Nat} {kind g : Int} : ∀ {l : List Fl} {m : GMod} {nd : GNode}, (∀ f ∈ l, FldK h kind f) → l.foldl (Fl.stp g) (m, nd) = (addN m (nsF l m.nodes.length), ndF g l m.nodes.length nd)
  | [], m, nd, _ => by rw [nsF, addN_nil]; rfl
  | x :: r, m, nd, hF => by
    have hx := hF x (List.mem_cons_self ..)
    have := fold_F (g := g) (l := r) (m := addN m (x.ns m.nodes.length)) (nd := addF nd (x.fl g m.nodes.length)) fun y hy => hF y (List.mem_cons_of_mem _ hy)
    show r.foldl (Fl.stp g) (addN m (x.ns m.nodes.length), addF nd (x.fl g m.nodes.length)) = _
    rw [this, addN_len, hx.len, addN_addN]; rfl
theorem fold_I {h : Nat} {kind : Int} : ∀ {l : List FI} {b : Bool} {g : Int} {m : GMod} {nd : GNode}, okI h kind b l → (l.foldl FI.stp (g, m, nd)).2 = (addN m (nsI l m.nodes.length), ndI g l m.nodes.length nd)
  | [], _, g, m, nd, _ => by
    show (m, nd) = (addN m [], nd)
    rw [addN_nil]
  | .one x :: r, b, g, m, nd, hF => by
    obtain ⟨hx, hr⟩ := hF
    have := fold_I (l := r) (b := b) (g := g) (m := addN m (x.ns m.nodes.length)) (nd := addF nd (x.fl 0 m.nodes.length)) hr
    show (r.foldl FI.stp (g, addN m (x.ns m.nodes.length), addF nd (x.fl 0 m.nodes.length))).2 = _
    rw [this, addN_len, hx.len, addN_addN]; rfl
  | .dots :: r, b, g, m, nd, hF => fold_I (l := r) (b := true) (g := g) (m := m) hF.2
  | .grp l :: r, b, g, m, nd, hF => by
    obtain ⟨_, _, hl, hr⟩ := hF
    have hf := fold_F (g := g + 1) (m := m) (nd := nd) hl
    have := fold_I (l := r) (b := true) (g := g + 1) (m := addN m (nsF l m.nodes.length)) (nd := ndF (g + 1) l m.nodes.length nd) hr
    show (r.foldl FI.stp (g + 1, l.foldl (Fl.stp (g + 1)) (m, nd))).2 = _
    rw [hf, this, addN_len, nsF_len hl, addN_addN]
    unfold nsI
    rw [show (FI.grp l :: r).flatMap FI.fls = l ++ r.flatMap FI.fls from rfl, nsF_app]; rfl
theorem okI_all {h : Nat} {kind : Int} : ∀ {l : List FI} {b : Bool}, okI h kind b l → ∀ f ∈ l.flatMap FI.fls, FldK h kind f
  | [], _, _, f, hf => by cases hf
  | .one x :: r, b, ⟨hx, hr⟩, f, hf => by
    rcases List.mem_cons.1 (show f ∈ x :: r.flatMap FI.fls from hf) with e | e
    · rw [e]; exact hx
    · exact okI_all hr f e
  | .dots :: r, b, hF, f, hf => okI_all hF.2 f hf
  | .grp l :: r, b, ⟨_, _, hl, hr⟩, f, hf => by
    rcases List.mem_append.1 (show f ∈ l ++ r.flatMap FI.fls from hf) with e | e
    · exact hl f e
    · exact okI_all hr f e
def kwF (kind : Int) : List UInt8 := if kind = 7 then [83, 69, 81, 85, 69, 78, 67, 69] else if kind = 8 then [83, 69, 84] else [67, 72, 79, 73, 67, 69]
def fldsT (kind : Int) (l : List FI) : KS := (5, kwF kind) :: (6, [123]) :: (sepK (l.map FI.toks) ++ [(6, [125])])
theorem base_fields {h : Nat} {kind : Int} (hk : kind = 7 ∨ kind = 8 ∨ kind = 9) {l : List FI} (hne : l ≠ []) (hF : okI h kind false l) (hs : szI l ≤ 300) (hl : (l.flatMap FI.fls).length ≤ 1000) :
    BaseK h (fldsT kind l) (szI l) (nsI l) (fun μ i => endN (ndI 0 l i { zm μ with kind := kind })) := by
  refine ⟨fun i => nsF_len (okI_all hF), ?_⟩
  intro n d L a m k t ks μ h1 h2 h3 hA hkt hm
  obtain ⟨n, rfl⟩ : ∃ n', n = n' + 1 := ⟨n - 1, by omega⟩
  rw [base_unf]
  obtain ⟨y, e1, e2, e3⟩ := now_at (m := m) (p := 0) (e := 0) hA
  have a1 := Sg.tl hA
  have a2 : Sg L (a + 1 + 1) (sepK (l.map FI.toks) ++ (6, [125]) :: (k, t) :: ks) := by
    have := Sg.tl a1
    simpa using this
  have hgo := fields_T (h := h) (kind := kind) (n := n) (d := d) (m := m) (nd := { zm μ with kind := kind }) (by omega) h2 (by omega) hne a2 (by omega) rfl (by show 0 + _ ≤ _; omega) rfl hF
  rw [fold_I hF] at hgo
  have e : a + ((fldsT kind l).length : Int) = a + 1 + 1 + ((sepK (l.map FI.toks)).length : Int) + 1 := by
    unfold fldsT; simp only [List.length_cons, List.length_append, List.length_nil]; omega
  rw [e]
  have no : ∀ s : List UInt8, isK 5 (kwF kind) s = false → r05_parser_is ⟨L, a, m, 0, 0⟩ ⟨s⟩ = some (false, ⟨L, a, m, 0, 0⟩) := fun s hs => is_no hA hs
  refine T.fin ?_
  unfold r05_parser_base_F
  rcases hk with rfl | rfl | rfl
  · exact T.eq e1 (T.brF rfl (T.eq (no _ rfl) (T.brF rfl (T.eq (no _ rfl) (T.brF rfl (T.eq (no _ rfl) (T.brF rfl (T.eq (no _ rfl) (T.brF rfl (T.eq (no _ rfl) (T.brF rfl (T.eq (no _ rfl) (T.brF rfl (T.eq (no _ rfl) (T.brF rfl (T.eq (no _ rfl) (T.brF rfl (T.eq (is_yes hA rfl) (T.brT rfl (T.eq (is_yes a1 rfl) (T.brT rfl (T.eq hgo (T.some rfl)))))))))))))))))))))))
  · exact T.eq e1 (T.brF rfl (T.eq (no _ rfl) (T.brF rfl (T.eq (no _ rfl) (T.brF rfl (T.eq (no _ rfl) (T.brF rfl (T.eq (no _ rfl) (T.brF rfl (T.eq (no _ rfl) (T.brF rfl (T.eq (no _ rfl) (T.brF rfl (T.eq (is_yes hA rfl) (T.brT rfl (T.eq (must_yes a1 rfl) (T.eq hgo (T.some rfl))))))))))))))))))
  · exact T.eq e1 (T.brF rfl (T.eq (no _ rfl) (T.brF rfl (T.eq (no _ rfl) (T.brF rfl (T.eq (no _ rfl) (T.brF rfl (T.eq (no _ rfl) (T.brF rfl (T.eq (no _ rfl) (T.brF rfl (T.eq (no _ rfl) (T.brF rfl (T.eq (no _ rfl) (T.brF rfl (T.eq (is_yes hA rfl) (T.brT rfl (T.eq (must_yes a1 rfl) (T.eq hgo (T.some rfl))))))))))))))))))))

/-! ### Modules -/
structure As where
  name : List UInt8
  ts : KS
  sz : Nat
  ns : Nat → List GNode
  h : Nat
structure AsK (x : As) : Prop where
  t : TypK x.h x.ts x.sz x.ns
  h : x.h ≤ 17
def As.toks (x : As) : KS := (1, x.name) :: (6, [58, 58, 61]) :: x.ts
def typesA : List As → Nat → List Int
  | [], _ => []
  | x :: r, i => (i : Int) :: typesA r (i + x.sz)
def nodesA : List As → Nat → List GNode
  | [], _ => []
  | x :: r, i => x.ns i ++ nodesA r (i + x.sz)
def szA (l : List As) : Nat := (l.map As.sz).sum
def tagT (g : Int) : KS := if g = 1 then [(5, [73, 77, 80, 76, 73, 67, 73, 84]), (5, [84, 65, 71, 83])] else if g = 2 then [(5, [65, 85, 84, 79, 77, 65, 84, 73, 67]), (5, [84, 65, 71, 83])] else if g = 3 then [(5, [69, 88, 80, 76, 73, 67, 73, 84]), (5, [84, 65, 71, 83])] else []
def tagOf (g : Int) : Int := if g = 1 then 1 else if g = 2 then 2 else 0
def modT (nm : List UInt8) (g : Int) (l : List As) : KS := (1, nm) :: (5, [68, 69, 70, 73, 78, 73, 84, 73, 79, 78, 83]) :: (tagT g ++ (6, [58, 58, 61]) :: (5, [66, 69, 71, 73, 78]) :: (l.flatMap As.toks ++ [(5, [69, 78, 68])]))
def modM (nm : List UInt8) (g : Int) (l : List As) : GMod := ⟨⟨nm⟩, tagOf g, l.map fun x => ⟨x.name⟩, typesA l 0, nodesA l 0⟩
theorem typesA_snoc : ∀ {a : List As} {x : As} {i : Nat}, typesA (a ++ [x]) i = typesA a i ++ [((i + szA a : Nat) : Int)]
  | [], x, i => by show [(i : Int)] = [] ++ [((i + 0 : Nat) : Int)]; rfl
  | y :: r, x, i => by
    show (i : Int) :: typesA (r ++ [x]) (i + y.sz) = (i : Int) :: (typesA r (i + y.sz) ++ _)
    rw [typesA_snoc]
    have : szA (y :: r) = y.sz + szA r := by unfold szA; simp
    rw [this, Nat.add_assoc]
theorem nodesA_snoc : ∀ {a : List As} {x : As} {i : Nat}, nodesA (a ++ [x]) i = nodesA a i ++ x.ns (i + szA a)
  | [], x, i => by show x.ns i ++ [] = [] ++ x.ns (i + 0); rw [List.append_nil]; rfl
  | y :: r, x, i => by
    show y.ns i ++ nodesA (r ++ [x]) (i + y.sz) = y.ns i ++ nodesA r (i + y.sz) ++ _
    rw [nodesA_snoc]
    have : szA (y :: r) = y.sz + szA r := by unfold szA; simp
    rw [this, Nat.add_assoc, List.append_assoc]
theorem nodesA_len : ∀ {a : List As} {i : Nat}, (∀ x ∈ a, AsK x) → (nodesA a i).length = szA a
  | [], _, _ => rfl
  | y :: r, i, h => by
    have := nodesA_len (a := r) (i := i + y.sz) fun x hx => h x (List.mem_cons_of_mem _ hx)
    show (y.ns i ++ nodesA r (i + y.sz)).length = _
    rw [List.length_append, this, (h y (List.mem_cons_self ..)).t.len]; unfold szA; simp
theorem parse_mod {s : Str} {nm : List UInt8} {g : Int} (hg : 0 ≤ g ∧ g ≤ 3) {l : List As} (hk : KT s.b (modT nm g l)) (hs : s.b.length ≤ 8000) (hl : l.length ≤ 40) (hz : szA l ≤ 300) (hF : ∀ x ∈ l, AsK x) :
    r05_Parse s = some (modM nm g l, 0, 0) := by
  obtain ⟨ts, e1, e2⟩ := toks_KT hk hs
  have htk := (tokens_tot s).get? (tokens_eq s) (by rw [e1])
  rw [e1] at htk
  have hlen : ts.length ≤ 8001 := htk.len
  have hA : Sg ts 0 (modT nm g l) := ⟨Int.le_refl _, by omega, by rw [show (0 : Int).toNat = 0 from rfl, List.drop_zero]; exact e2⟩
  refine T.fin ?_
  unfold r05_Parse
  refine T.eq (tokens_eq s) ?_
  rw [e1]
  have a1 := Sg.tl hA
  have a2 := Sg.tl a1
  refine T.brF rfl (T.eq (kind_yes hA) (T.eq (must_yes a1 rfl) ?_))
  have a3 := Sg.app (L := ts) (xs := tagT g) a2
  refine T.jp (fun x => x = (⟨ts, 0 + 1 + 1 + (tagT g).length, ⟨⟨nm⟩, tagOf g, [], [], []⟩, 0, 0⟩ : GPar)) (fun J hJ => ?_) fun x hx => ?_
  · have hc : g = 0 ∨ g = 1 ∨ g = 2 ∨ g = 3 := by omega
    rcases hc with rfl | rfl | rfl | rfl
    · have b : Sg ts (0 + 1 + 1) ((6, [58, 58, 61]) :: (5, [66, 69, 71, 73, 78]) :: (l.flatMap As.toks ++ [(5, [69, 78, 68])])) := a2
      exact T.eq (is_no b rfl) (T.brF rfl (T.eq (is_no b rfl) (T.brF rfl (T.eq (is_no b rfl) (T.brF rfl (hJ _ rfl))))))
    · have b : Sg ts (0 + 1 + 1) ((5, [73, 77, 80, 76, 73, 67, 73, 84]) :: (5, [84, 65, 71, 83]) :: (6, [58, 58, 61]) :: (5, [66, 69, 71, 73, 78]) :: (l.flatMap As.toks ++ [(5, [69, 78, 68])])) := a2
      exact T.eq (is_no b rfl) (T.brF rfl (T.eq (is_yes b rfl) (T.brT rfl (T.eq (must_yes b.tl rfl) (hJ _ rfl)))))
    · have b : Sg ts (0 + 1 + 1) ((5, [65, 85, 84, 79, 77, 65, 84, 73, 67]) :: (5, [84, 65, 71, 83]) :: (6, [58, 58, 61]) :: (5, [66, 69, 71, 73, 78]) :: (l.flatMap As.toks ++ [(5, [69, 78, 68])])) := a2
      exact T.eq (is_no b rfl) (T.brF rfl (T.eq (is_no b rfl) (T.brF rfl (T.eq (is_yes b rfl) (T.brT rfl (T.eq (must_yes b.tl rfl) (hJ _ rfl)))))))
    · have b : Sg ts (0 + 1 + 1) ((5, [69, 88, 80, 76, 73, 67, 73, 84]) :: (5, [84, 65, 71, 83]) :: (6, [58, 58, 61]) :: (5, [66, 69, 71, 73, 78]) :: (l.flatMap As.toks ++ [(5, [69, 78, 68])])) := a2
      exact T.eq (is_yes b rfl) (T.brT rfl (T.eq (must_yes b.tl rfl) (hJ _ rfl)))
  subst hx
  have a4 := Sg.tl a3
  have a5 := Sg.tl a4
  refine T.eq (must_yes a3 rfl) (T.eq (must_yes a4 rfl) ?_)
  generalize hb : (0 : Int) + 1 + 1 + ((tagT g).length : Int) + 1 + 1 = b at a5
  have hb0 := a5.a0
  have hbz := a5.size
  refine T.lp (ι := GPar) (fun x => ∃ (dn rest : List As) (a : Int), l = dn ++ rest ∧ x = ⟨ts, a, ⟨⟨nm⟩, tagOf g, dn.map fun x => ⟨x.name⟩, typesA dn 0, nodesA dn 0⟩, 0, 0⟩ ∧ Sg ts a (rest.flatMap As.toks ++ [(5, [69, 78, 68])])) (fun x => ((ts.length : Int) - x.at_).toNat) ⟨[], l, b, rfl, rfl, a5⟩ (by dsimp only; omega) fun L x hx hL => ?_
  obtain ⟨dn, rest, a, hdr, rfl, ha⟩ := hx
  dsimp only at hL ⊢
  cases rest with
  | nil =>
    rw [List.append_nil] at hdr
    subst hdr
    have ha' : Sg ts a [(5, [69, 78, 68])] := ha
    refine T.jp0 (T.brT rfl (T.eq (is_yes ha' rfl) (T.brF rfl ?_)))
    obtain ⟨y, y1, y2⟩ := ha'.tl.end_
    refine T.jp0 (T.brT rfl (T.eq (y := (y, (⟨ts, a + 1, ⟨⟨nm⟩, tagOf g, l.map fun x => ⟨x.name⟩, typesA l 0, nodesA l 0⟩, 0, 0⟩ : GPar))) (by unfold r05_parser_now; dsimp only; rw [getI_at ha'.tl.a0 y1]; rfl) ?_))
    refine T.jp0 (T.brF (by dsimp only; rw [y2]; rfl) (T.brF rfl (T.some rfl)))
  | cons x rest =>
    have hx := hF x (by rw [hdr]; exact List.mem_append_right _ (List.mem_cons_self ..))
    have hll : dn.length + (rest.length + 1) ≤ 40 := by rw [hdr, List.length_append, List.length_cons] at hl; exact hl
    have hzz : szA dn + x.sz ≤ 300 := by
      have : szA l = szA dn + (x.sz + szA rest) := by rw [hdr]; unfold szA; simp
      omega
    have hdk : ∀ y ∈ dn, AsK y := fun y hy => hF y (by rw [hdr]; exact List.mem_append_left _ hy)
    have hnl : (nodesA dn 0).length = szA dn := nodesA_len hdk
    have htl : (typesA dn 0).length = dn.length := by
      have : ∀ (a : List As) (i : Nat), (typesA a i).length = a.length := fun a => by
        induction a with
        | nil => intro i; rfl
        | cons y r ih => intro i; show (typesA r (i + y.sz)).length + 1 = _; rw [ih]; rfl
      exact this _ _
    have ha1 : Sg ts a ((1, x.name) :: (6, [58, 58, 61]) :: (x.ts ++ (rest.flatMap As.toks ++ [(5, [69, 78, 68])]))) := by
      have e : (x :: rest).flatMap As.toks ++ [(5, [69, 78, 68])] = (1, x.name) :: (6, [58, 58, 61]) :: (x.ts ++ (rest.flatMap As.toks ++ [(5, [69, 78, 68])])) := by
        show As.toks x ++ rest.flatMap As.toks ++ _ = _
        unfold As.toks; simp
      rw [e] at ha; exact ha
    have ha2 := Sg.tl ha1
    have ha3 := Sg.tl ha2
    have hnx : ∃ k t ks', rest.flatMap As.toks ++ [(5, [69, 78, 68])] = (k, t) :: ks' ∧ isK k t [40] = false := by
      cases rest with
      | nil => exact ⟨5, [69, 78, 68], [], rfl, rfl⟩
      | cons y r => exact ⟨1, y.name, _, rfl, rfl⟩
    obtain ⟨k, t, ks', ek, hkt⟩ := hnx
    have ha3' := ha3
    rw [ek] at ha3'
    obtain ⟨y, f1, f2, f3⟩ := now_at (m := ⟨⟨nm⟩, tagOf g, dn.map fun x => ⟨x.name⟩, typesA dn 0, nodesA dn 0⟩) (p := 0) (e := 0) ha1
    have hty := hx.t.go (n := fuel) (d := 0) (m := ⟨⟨nm⟩, tagOf g, dn.map fun x => ⟨x.name⟩, typesA dn 0, nodesA dn 0⟩) (by have := hx.h; unfold fuel; omega) (Int.le_refl _) (by have := hx.h; omega) ha3' hkt (by dsimp only; rw [hnl]; exact hzz)
    dsimp only at hty
    rw [hnl] at hty
    have hsz := ha3.size
    have hal := ha3.app.size
    have ha0 := ha1.a0
    refine T.jp0 (T.brT rfl (T.eq (is_no ha1 rfl) (T.brT rfl (T.eq f1 (T.eq (kind_yes ha1) ?_)))))
    refine T.jp (fun b => b = false) (fun J hJ => T.brT rfl (hJ _ (decide_eq_false (by dsimp only; rw [List.length_map]; omega)))) fun b hb2 => ?_
    subst hb2
    refine T.jp0 (T.brF rfl (T.eq (must_yes ha2 rfl) (T.eq hty (T.abl ?_ (T.abl ?_ (hL _ ⟨dn ++ [x], rest, a + 1 + 1 + (x.ts.length : Int), by rw [hdr, List.append_assoc]; rfl, ?_, ha3.app⟩ ?_))))))
    · show (dn.map fun x => (⟨x.name⟩ : Str)).length + 1 ≤ _; rw [List.length_map]; omega
    · show (typesA dn 0).length + 1 ≤ _; rw [htl]; omega
    · dsimp only
      rw [List.map_append, typesA_snoc, nodesA_snoc, Nat.zero_add]; rfl
    · dsimp only; omega
end Go.Proofs.YtiibmpdjkdjbiaaGreatDoor


namespace Go.Proofs.YtiibmpdjkdjbiaaGreatDoor
open Go.Sy
set_option maxRecDepth 4000
def table_Find (a_t : GTab) (a_name : Str) : Option (Int) :=
  cal (slices_Index_Lstring_string a_t.names a_name) fun y1 => jp (ι := Bool) (fun J3 => br (decide (y1 < (0 : Int))) (J3 (true)) (J3 ((decide ((a_t.roots.length : Int) ≤ y1))))) (fun q2 => br q2 (some ((-1 : Int))) (cal (getI a_t.roots y1) fun y5 => some (y5)))

def law10_awake  : Option (Bool) :=
  cal (r05_Parse (Str.mk [77, 32, 68, 69, 70, 73, 78, 73, 84, 73, 79, 78, 83, 32, 58, 58, 61, 32, 66, 69, 71, 73, 78, 32, 65, 32, 58, 58, 61, 32, 83, 69, 81, 85, 69, 78, 67, 69, 32, 123, 32, 120, 32, 73, 78, 84, 69, 71, 69, 82, 32, 40, 48, 46, 46, 55, 41, 44, 32, 46, 46, 46, 32, 125, 32, 69, 78, 68])) fun y1 => cal (table_Make y1.1) fun y3 => jp (ι := Bool) (fun J6 => br (decide (y3.2.2 = (0 : Int))) (J6 ((decide ((y3.1.types.length : Int) = (2 : Int))))) (J6 (false))) (fun q5 => jp (ι := Bool) (fun J9 => br q5 (cal (table_Find y3.1 (Str.mk [65])) fun y11 => J9 ((decide (y11 = (0 : Int))))) (J9 (false))) (fun q8 => jp (ι := Bool) (fun J13 => br q8 (cal (getI y3.1.types (1 : Int)) fun y15 => J13 ((decide ((y15.tags.length : Int) = (1 : Int))))) (J13 (false))) (fun q12 => some (q12))))
end Go.Proofs.YtiibmpdjkdjbiaaGreatDoor


namespace Go.Proofs.YtiibmpdjkdjbiaaGreatDoor
open Go.Sy
set_option maxRecDepth 4000
def h_Digits_F (h_Digits' : UInt64 → Option (Str)) (a_v : UInt64) : Option (Str) :=
  br (decide (a_v < (10 : UInt64))) (some ((Str.mk ([((48 : UInt64) + a_v).toUInt8] : (List UInt8))))) (jp (ι := Str) (fun J3 => asr (!decide ((10 : UInt64) = 0)) <| asr (!decide ((10 : UInt64) = 0)) <| cal (h_Digits' (a_v / (10 : UInt64))) fun y6 => asr (Nat.ble (y6.b.length + (Str.mk ([((48 : UInt64) + (a_v % (10 : UInt64))).toUInt8] : (List UInt8))).b.length) 4611686018427387904) <| J3 ((Str.mk (y6.b ++ (Str.mk ([((48 : UInt64) + (a_v % (10 : UInt64))).toUInt8] : (List UInt8))).b)))) (fun q2 => some (q2)))
def h_Digits_grp : Nat → (UInt64 → Option (Str))
  | 0 => (fun _ => none)
  | n + 1 => let p := h_Digits_grp n; (h_Digits_F p)
def h_Digits (n : Nat) : UInt64 → Option (Str) := (h_Digits_grp n)

def h_Plain_api_Tag_c1 (a_x : Tag) (a_y : Tag) : Option (Bool) :=
  some ((decide (a_x = a_y)))

def h_Same_api_Tag (a_a : (List Tag)) (a_b : (List Tag)) : Option (Bool) :=
  br (!decide ((a_a.length : Int) = (a_b.length : Int))) (some (false)) (lp (ι := Int) (fun L2 q1 => br (decide (q1 < (a_a.length : Int))) (cal (getI a_a q1) fun y7 => cal (getI a_b q1) fun y8 => cal (h_Plain_api_Tag_c1 y7 y8) fun y9 => br (!y9) (some (false)) (ck ((q1 + (1 : Int))) <| L2 ((q1 + (1 : Int))))) (some (true))) (((0 : Int))))

def h_Plain_api_Tag (a_a : (List Tag)) (a_b : (List Tag)) : Option (Bool) :=
  cal (h_Same_api_Tag a_a a_b) fun y1 => some (y1)

end Go.Proofs.YtiibmpdjkdjbiaaGreatDoor


namespace Go.Proofs.YtiibmpdjkdjbiaaGreatDoor
open Go.Sy
set_option linter.unusedVariables false
set_option maxRecDepth 4000

def dgl (v : Nat) : List UInt8 := match h_Digits 20 (UInt64.ofNat v) with
  | some s => s.b
  | none => []
def nameOk (w : List UInt8) (k : Int) : Bool := isLetter (hd w) && nmAll w 32 && !decide (w.getLast? = some 45) && decide (w.length ≤ 60) && decide (kindN w = k)
def dgOk (v : Nat) : Bool := (match h_Digits 20 (UInt64.ofNat v) with
  | some s => decide (s.b = dgl v)
  | none => false) && numOk false (dgl v) && decide (r05_Whole ⟨dgl v⟩ = some (v : Int)) && decide ((dgl v).length ≤ 3) && nameOk (102 :: dgl v) 2 && nameOk (84 :: dgl v) 1 && nameOk (105 :: dgl v) 2 && nameOk (97 :: dgl v) 2 && decide (dval (dgl v) = v)
theorem dg_all : (List.range 256).all dgOk = true := by kernel_rfl
structure Dg (v : Nat) : Prop where
  eq : h_Digits fuel (UInt64.ofNat v) = some ⟨dgl v⟩
  num : numOk false (dgl v) = true
  val : Num (dgl v) v
  len : (dgl v).length ≤ 3
  f : nameOk (102 :: dgl v) 2 = true
  t : nameOk (84 :: dgl v) 1 = true
  i : nameOk (105 :: dgl v) 2 = true
  a : nameOk (97 :: dgl v) 2 = true
  inj : dval (dgl v) = v
theorem digits_mono : ∀ {n m : Nat} {v : UInt64} {s : Str}, h_Digits n v = some s → n ≤ m → h_Digits m v = some s
  | 0, _, _, _, h, _ => by cases h
  | n + 1, m, v, s, h, hm => by
    obtain ⟨m, rfl⟩ : ∃ m', m = m' + 1 := ⟨m - 1, by omega⟩
    have h : h_Digits_F (h_Digits n) v = some s := h
    show h_Digits_F (h_Digits m) v = some s
    unfold h_Digits_F at h ⊢
    cases hb : decide (v < (10 : UInt64)) with
    | true => rw [hb] at h; exact h
    | false =>
      rw [hb] at h
      have h : jp (ι := Str) (fun J3 => asr (!decide ((10 : UInt64) = 0)) <| asr (!decide ((10 : UInt64) = 0)) <| cal (h_Digits n (v / (10 : UInt64))) fun y6 => asr (Nat.ble (y6.b.length + (Str.mk ([((48 : UInt64) + (v % (10 : UInt64))).toUInt8] : (List UInt8))).b.length) 4611686018427387904) <| J3 ((Str.mk (y6.b ++ (Str.mk ([((48 : UInt64) + (v % (10 : UInt64))).toUInt8] : (List UInt8))).b)))) (fun q2 => some (q2)) = some s := h
      refine jp_inv h fun J hJ h => asr_inv h fun h1 h => asr_inv h fun h2 h => cal_inv h fun y hy h => ?_
      subst hJ
      have := digits_mono hy (by omega : n ≤ m)
      show asr (!decide ((10 : UInt64) = 0)) (asr (!decide ((10 : UInt64) = 0)) (cal (h_Digits m (v / (10 : UInt64))) _)) = _
      rw [this]
      exact h
theorem dgs (v : Nat) (hv : v < 256) : Dg v := by
  have h := List.all_eq_true.1 dg_all v (List.mem_range.2 hv)
  unfold dgOk at h
  simp only [Bool.and_eq_true, decide_eq_true_eq] at h
  obtain ⟨⟨⟨⟨⟨⟨⟨⟨h1, h2⟩, h3⟩, h4⟩, h5⟩, h6⟩, h7⟩, h8⟩, h9⟩ := h
  have he : h_Digits 20 (UInt64.ofNat v) = some ⟨dgl v⟩ := by
    cases hd : h_Digits 20 (UInt64.ofNat v) with
    | none => rw [hd] at h1; cases h1
    | some s =>
      rw [hd] at h1
      have : s.b = dgl v := of_decide_eq_true h1
      rw [← this]
  exact ⟨digits_mono he (by unfold fuel; omega), h2, ⟨numOk_ne h2, h3⟩, h4, h5, h6, h7, h8, h9⟩
theorem dgl_inj {v w : Nat} (hv : v < 256) (hw : w < 256) (h : dgl v = dgl w) : v = w := by
  rw [← (dgs v hv).inj, ← (dgs w hw).inj, h]

theorem KT.word {w x : List UInt8} {k : Int} {ks : KS} (h : nameOk w k = true) (hx : KT (32 :: x) ks) : KT (w ++ 32 :: x) ((k, w) :: ks) := by
  unfold nameOk at h
  simp only [Bool.and_eq_true, decide_eq_true_eq, Bool.not_eq_true', decide_eq_false_iff_not] at h
  obtain ⟨⟨⟨⟨h1, h2⟩, h3⟩, h4⟩, h5⟩ := h
  have := KT.name (x := 32 :: x) h1 h2 rfl h3 h4 hx
  rw [h5] at this
  exact this
theorem KT.dgt {v : Nat} {x : List UInt8} {ks : KS} (hv : v < 256) (h1 : isDigit (hd x) = false) (h2 : isLetter (hd x) = false) (hx : KT x ks) : KT (dgl v ++ x) ((3, dgl v) :: ks) := KT.num (dgs v hv).num h1 h2 hx
end Go.Proofs.YtiibmpdjkdjbiaaGreatDoor


namespace Go.Proofs.YtiibmpdjkdjbiaaGreatDoor
open Go.Sy
set_option linter.unusedVariables false

@[reducible] def nullT : KS := [(5, [78, 85, 76, 76])]
@[reducible] def optT : KS := [(5, [79, 80, 84, 73, 79, 78, 65, 76])]
def nodeV (v : Nat) : GNode := { zm ⟨true, (v : Int), 0⟩ with kind := 4 }
def markT (v : Nat) : KS := (6, [91]) :: (3, dgl v) :: (6, [93]) :: nullT
def nullF (nm : List UInt8) (v : Nat) (o : Bool) : Fl := ⟨nm, markT v, 1, fun _ => [nodeV v], if o then optT else [], o, false, zv⟩
end Go.Proofs.YtiibmpdjkdjbiaaGreatDoor


namespace Go.Proofs.YtiibmpdjkdjbiaaGreatDoor
open Go.Sy
set_option linter.unusedVariables false
set_option maxRecDepth 4000

def fTxt (o : Bool) (i v : Nat) : List UInt8 := 102 :: (dgl i ++ ([32, 91] ++ (dgl v ++ ([93, 32, 78, 85, 76, 76] ++ (if o then [32, 79, 80, 84, 73, 79, 78, 65, 76] else [])))))
theorem digit_sg {c : UInt8} (h : isDigit c = true) : sgN [91] c = true := by
  have : c ≠ 91 := fun e => by subst e; cases h
  unfold sgN
  rw [decide_eq_false this]
  simp
theorem fTxt_KT {o : Bool} {i v : Nat} (hi : i < 256) (hv : v < 256) {x : List UInt8} {ks : KS} (hx : KT x ks) (h0 : (∃ r, x = 44 :: r) ∨ ∃ r, x = 32 :: r) : KT (fTxt o i v ++ x) ((nullF (102 :: dgl i) v o).toks ++ ks) := by
  have hd2 : isDigit (hd (dgl v)) = true := numOk_hd (dgs v hv).num
  have e : fTxt o i v ++ x = (102 :: dgl i) ++ 32 :: ([91] ++ (dgl v ++ ([93, 32, 78, 85, 76, 76] ++ ((if o then [32, 79, 80, 84, 73, 79, 78, 65, 76] else []) ++ x)))) := by
    unfold fTxt; simp
  have et : (nullF (102 :: dgl i) v o).toks ++ ks = (2, 102 :: dgl i) :: (6, [91]) :: (3, dgl v) :: (6, [93]) :: (5, [78, 85, 76, 76]) :: ((if o then optT else []) ++ ks) := by
    unfold nullF Fl.toks markT; simp
  rw [e, et]
  have h2 : KT ([93, 32, 78, 85, 76, 76] ++ ((if o then [32, 79, 80, 84, 73, 79, 78, 65, 76] else []) ++ x)) ((6, [93]) :: (5, [78, 85, 76, 76]) :: ((if o then optT else []) ++ ks)) := by
    cases o with
    | true =>
      rcases h0 with ⟨r, rfl⟩ | ⟨r, rfl⟩
      · exact .tok rfl rfl (.tok rfl rfl (.tok rfl rfl hx))
      · exact .tok rfl rfl (.tok rfl rfl (.tok rfl rfl hx))
    | false =>
      rcases h0 with ⟨r, rfl⟩ | ⟨r, rfl⟩
      · exact .tok rfl rfl (.tok rfl rfl hx)
      · exact .tok rfl rfl (.tok rfl rfl hx)
  refine KT.word (dgs i hi).f (KT.sp (KT.sign (s := [91]) (by decide) ?_ (KT.dgt hv rfl rfl h2)))
  rw [hd_appl (numOk_ne (dgs v hv).num)]
  exact digit_sg hd2
theorem one_fls {fls : List Fl} : (fls.map FI.one).flatMap FI.fls = fls := by
  induction fls with
  | nil => rfl
  | cons f r ih => show f :: (r.map FI.one).flatMap FI.fls = _; rw [ih]
theorem ok_ones {h : Nat} {kind : Int} : ∀ {fls : List Fl} {b : Bool}, (∀ f ∈ fls, FldK h kind f) → okI h kind b (fls.map FI.one)
  | [], _, _ => trivial
  | f :: r, b, hf => ⟨hf f (List.mem_cons_self ..), ok_ones fun x hx => hf x (List.mem_cons_of_mem _ hx)⟩
end Go.Proofs.YtiibmpdjkdjbiaaGreatDoor


namespace Go.Proofs.YtiibmpdjkdjbiaaGreatDoor
open Go.Sy
set_option linter.unusedVariables false
set_option maxRecDepth 4000

structure LexP (b : List UInt8) (t : KS) : Prop where
  go : ∀ {c : UInt8} {y : List UInt8} {ks : KS}, c = 44 ∨ c = 32 → KT (c :: y) ks → KT (b ++ c :: y) (t ++ ks)
def joinB : List (List UInt8) → List UInt8
  | [] => []
  | [x] => x
  | x :: y :: r => x ++ (44 :: 32 :: joinB (y :: r))
theorem joinB_KT : ∀ {l : List (List UInt8 × KS)}, l ≠ [] → (∀ p ∈ l, LexP p.1 p.2) → ∀ {y : List UInt8} {ks : KS}, KT (32 :: y) ks → KT (joinB (l.map Prod.fst) ++ 32 :: y) (sepK (l.map Prod.snd) ++ ks)
  | [], hne, _, _, _, _ => absurd rfl hne
  | [x], _, hl, y, ks, h => (hl x (List.mem_singleton.2 rfl)).go (.inr rfl) h
  | x :: z :: r, _, hl, y, ks, h => by
    have ih := joinB_KT (l := z :: r) (by simp) (fun w hw => hl w (List.mem_cons_of_mem _ hw)) h
    have h2 : KT (44 :: 32 :: (joinB ((z :: r).map Prod.fst) ++ 32 :: y)) ((6, [44]) :: (sepK ((z :: r).map Prod.snd) ++ ks)) := .tok rfl rfl (KT.sp ih)
    have h3 := (hl x (List.mem_cons_self ..)).go (.inl rfl) h2
    have e1 : joinB ((x :: z :: r).map Prod.fst) ++ 32 :: y = x.1 ++ 44 :: 32 :: (joinB ((z :: r).map Prod.fst) ++ 32 :: y) := by
      show (x.1 ++ (44 :: 32 :: joinB ((z :: r).map Prod.fst))) ++ 32 :: y = _
      rw [List.append_assoc]; rfl
    have e2 : sepK ((x :: z :: r).map Prod.snd) ++ ks = x.2 ++ ((6, [44]) :: (sepK ((z :: r).map Prod.snd) ++ ks)) := by
      show (x.2 ++ (6, [44]) :: sepK ((z :: r).map Prod.snd)) ++ ks = _
      rw [List.append_assoc]; rfl
    rw [e1, e2]
    exact h3
theorem joinB_snoc : ∀ {l : List (List UInt8)} (x : List UInt8), l ≠ [] → joinB (l ++ [x]) = joinB l ++ (44 :: 32 :: x)
  | [], _, h => absurd rfl h
  | [y], x, _ => rfl
  | y :: z :: r, x, _ => by
    have ih := joinB_snoc (l := z :: r) x (by simp)
    show y ++ (44 :: 32 :: joinB ((z :: r) ++ [x])) = (y ++ (44 :: 32 :: joinB (z :: r))) ++ _
    rw [ih, List.append_assoc]; rfl
theorem joinB_len {n : Nat} : ∀ {l : List (List UInt8)}, (∀ x ∈ l, x.length ≤ n) → (joinB l).length ≤ (n + 2) * l.length
  | [], _ => Nat.zero_le _
  | [x], h => by have := h x (List.mem_singleton.2 rfl); show x.length ≤ (n + 2) * 1; omega
  | x :: z :: r, h => by
    have := h x (List.mem_cons_self ..)
    have ih := joinB_len (l := z :: r) fun w hw => h w (List.mem_cons_of_mem _ hw)
    show (x ++ (44 :: 32 :: joinB (z :: r))).length ≤ (n + 2) * ((z :: r).length + 1)
    rw [Nat.mul_succ]
    simp only [List.length_append, List.length_cons] at ih ⊢
    omega
theorem LexP.clash {o : Bool} {i v : Nat} (hi : i < 256) (hv : v < 256) : LexP (fTxt o i v) (nullF (102 :: dgl i) v o).toks :=
  ⟨fun {c y ks} hc h => fTxt_KT hi hv h (by rcases hc with rfl | rfl; exact .inl ⟨_, rfl⟩; exact .inr ⟨_, rfl⟩)⟩
/-! ### Fields of an automatic module -/
theorem base_int0 : BaseK 0 [(5, [73, 78, 84, 69, 71, 69, 82])] 0 (fun _ => []) (fun μ _ => { zm μ with kind := 2 }) := by
  refine ⟨fun _ => rfl, ?_⟩
  intro n d L a m k t ks μ h1 h2 h3 hA hk hm
  obtain ⟨n, rfl⟩ : ∃ n', n = n' + 1 := ⟨n - 1, by omega⟩
  rw [base_unf, addN_nil]
  obtain ⟨y, e1, e2, e3⟩ := now_at (m := m) (p := 0) (e := 0) hA
  refine T.fin ?_
  unfold r05_parser_base_F
  exact T.eq e1 (T.brF rfl (T.eq (is_no hA rfl) (T.brF rfl (T.eq (is_no hA rfl) (T.brF rfl (T.eq (is_no hA rfl) (T.brF rfl (T.eq (is_yes hA rfl) (T.brT rfl (T.eq (is_no hA.tl hk) (T.brF rfl (T.some rfl))))))))))))
def kwA (k : Nat) : List UInt8 := if k = 0 then [78, 85, 76, 76] else if k = 1 then [66, 79, 79, 76, 69, 65, 78] else [67, 72, 79, 73, 67, 69, 32, 123, 32, 120, 32, 73, 78, 84, 69, 71, 69, 82, 44, 32, 121, 32, 78, 85, 76, 76, 32, 125]
def xyF : List FI := [.one ⟨[120], [(5, [73, 78, 84, 69, 71, 69, 82])], 1, fun _ => [{ zm noM with kind := 2 }], [], false, false, zv⟩, .one ⟨[121], nullT, 1, fun _ => [{ zm noM with kind := 4 }], [], false, false, zv⟩]
def kwT (k : Nat) : KS := if k = 0 then nullT else if k = 1 then [(5, [66, 79, 79, 76, 69, 65, 78])] else fldsT 9 xyF
def ndsA (k : Nat) (μ : GMark) (i : Nat) : List GNode := if k = 0 then [{ zm μ with kind := 4 }] else if k = 1 then [{ zm μ with kind := 1 }] else endN (ndI 0 xyF (i + 1) { zm μ with kind := 9 }) :: nsI xyF (i + 1)
def szA' (k : Nat) : Nat := if k < 2 then 1 else 3
def autT (m : Option Nat) (k : Nat) : KS := match m with
  | some v => (6, [91]) :: (3, dgl v) :: (6, [93]) :: kwT k
  | none => kwT k
def autF (nm : List UInt8) (m : Option Nat) (k : Nat) : Fl := ⟨nm, autT m k, szA' k, ndsA k (match m with | some v => ⟨true, (v : Int), 0⟩ | none => noM), [], false, false, zv⟩
theorem beg_null : Beg 5 [78, 85, 76, 76] := fun ⟨_, _, _⟩ h1 h2 => by dsimp only at h1 h2; subst h1; subst h2; kernel_rfl
theorem beg_bool : Beg 5 [66, 79, 79, 76, 69, 65, 78] := fun ⟨_, _, _⟩ h1 h2 => by dsimp only at h1 h2; subst h1; subst h2; kernel_rfl
theorem beg_int : Beg 5 [73, 78, 84, 69, 71, 69, 82] := fun ⟨_, _, _⟩ h1 h2 => by dsimp only at h1 h2; subst h1; subst h2; kernel_rfl
theorem beg_choice : Beg 5 [67, 72, 79, 73, 67, 69] := fun ⟨_, _, _⟩ h1 h2 => by dsimp only at h1 h2; subst h1; subst h2; kernel_rfl
theorem xy_ok : okI 1 9 false xyF := ⟨fld_plain (typ_un base_int0 beg_int rfl) 9 _, fld_plain (typ_un base_null beg_null rfl) 9 _, trivial⟩
theorem xy_base : BaseK 1 (fldsT 9 xyF) 2 (nsI xyF) (fun μ i => endN (ndI 0 xyF i { zm μ with kind := 9 })) := base_fields (.inr (.inr rfl)) (by unfold xyF; simp) xy_ok (by decide) (by decide)
theorem aut_typ (m : Option Nat) (hm : ∀ v, m = some v → v < 256) (k : Nat) : ∃ h, h ≤ 2 ∧ TypK h (autT m k) (szA' k) (ndsA k (match m with | some v => ⟨true, (v : Int), 0⟩ | none => noM)) := by
  by_cases h0 : k = 0
  · subst h0
    cases m with
    | none => exact ⟨1, by omega, typ_un base_null beg_null rfl⟩
    | some v => exact ⟨1, by omega, typ_mk base_null (dgs v (hm v rfl)).val (by omega) (by have := hm v rfl; omega) rfl rfl⟩
  · by_cases h1 : k = 1
    · subst h1
      cases m with
      | none => exact ⟨1, by omega, typ_un base_bool beg_bool rfl⟩
      | some v => exact ⟨1, by omega, typ_mk base_bool (dgs v (hm v rfl)).val (by omega) (by have := hm v rfl; omega) rfl rfl⟩
    · have e1 : kwT k = fldsT 9 xyF := by unfold kwT; rw [if_neg h0, if_neg h1]
      have e2 : szA' k = 3 := by unfold szA'; rw [if_neg (by omega)]
      have e3 : ∀ μ, ndsA k μ = fun i => endN (ndI 0 xyF (i + 1) { zm μ with kind := 9 }) :: nsI xyF (i + 1) := fun μ => by funext i; unfold ndsA; rw [if_neg h0, if_neg h1]
      rw [e2, e3]
      cases m with
      | none => exact ⟨2, by omega, by show TypK 2 (kwT k) _ _; rw [e1]; exact typ_un xy_base beg_choice rfl⟩
      | some v => exact ⟨2, by omega, by show TypK 2 ((6, [91]) :: (3, dgl v) :: (6, [93]) :: kwT k) _ _; rw [e1]; exact typ_mk xy_base (dgs v (hm v rfl)).val (by omega) (by have := hm v rfl; omega) rfl rfl⟩
theorem kw_lex (k : Nat) : LexP (kwA k) (kwT k) := by
  refine ⟨fun {c y ks} hc h => ?_⟩
  unfold kwA kwT
  split
  · rcases hc with rfl | rfl
    · exact .tok rfl rfl h
    · exact .tok rfl rfl h
  · split
    · rcases hc with rfl | rfl
      · exact .tok rfl rfl h
      · exact .tok rfl rfl h
    · rcases hc with rfl | rfl
      · exact .tok rfl rfl (.tok rfl rfl (.tok rfl rfl (.tok rfl rfl (.tok rfl rfl (.tok rfl rfl (.tok rfl rfl (.tok rfl rfl h)))))))
      · exact .tok rfl rfl (.tok rfl rfl (.tok rfl rfl (.tok rfl rfl (.tok rfl rfl (.tok rfl rfl (.tok rfl rfl (.tok rfl rfl h)))))))
def autB (i : Nat) (m : Option Nat) (k : Nat) : List UInt8 := (102 :: dgl i) ++ (32 :: ((match m with
  | some v => 91 :: (dgl v ++ [93, 32])
  | none => []) ++ kwA k))
theorem aut_lex {i : Nat} (hi : i < 256) (m : Option Nat) (hm : ∀ v, m = some v → v < 256) (k : Nat) : LexP (autB i m k) (autF (102 :: dgl i) m k).toks := by
  refine ⟨fun {c y ks} hc h => ?_⟩
  have h1 := (kw_lex k).go hc h
  cases m with
  | none =>
    have e1 : autB i none k ++ c :: y = (102 :: dgl i) ++ 32 :: (kwA k ++ c :: y) := by unfold autB; simp
    have e2 : (autF (102 :: dgl i) none k).toks ++ ks = (2, 102 :: dgl i) :: (kwT k ++ ks) := by unfold autF Fl.toks autT; simp
    rw [e1, e2]
    exact KT.word (dgs i hi).f (KT.sp h1)
  | some v =>
    have hv := hm v rfl
    have hd2 : isDigit (hd (dgl v)) = true := numOk_hd (dgs v hv).num
    have e1 : autB i (some v) k ++ c :: y = (102 :: dgl i) ++ 32 :: ([91] ++ (dgl v ++ (93 :: 32 :: (kwA k ++ c :: y)))) := by unfold autB; simp
    have e2 : (autF (102 :: dgl i) (some v) k).toks ++ ks = (2, 102 :: dgl i) :: (6, [91]) :: (3, dgl v) :: (6, [93]) :: (kwT k ++ ks) := by unfold autF Fl.toks autT; simp
    rw [e1, e2]
    refine KT.word (dgs i hi).f (KT.sp (KT.sign (s := [91]) (by decide) ?_ (KT.dgt hv rfl rfl (.tok rfl rfl (KT.sp h1)))))
    rw [hd_appl (numOk_ne (dgs v hv).num)]
    exact digit_sg hd2
end Go.Proofs.YtiibmpdjkdjbiaaGreatDoor


namespace Go.Proofs.YtiibmpdjkdjbiaaGreatDoor
open Go.Sy
set_option linter.unusedVariables false
set_option maxRecDepth 4000

theorem flP_get : ∀ {cs : List Cp} {i k : Nat} {f : GFld}, (flP cs i)[k]? = some f → ∃ a c b, cs = a ++ c :: b ∧ a.length = k ∧ f = { c.f with ty := ((i + szP a : Nat) : Int) }
  | [], _, _, _, h => by cases h
  | c :: r, i, 0, f, h => ⟨[], c, r, rfl, rfl, by cases h; rfl⟩
  | c :: r, i, k + 1, f, h => by
    obtain ⟨a, x, b, e1, e2, e3⟩ := flP_get (cs := r) (k := k) h
    exact ⟨c :: a, x, b, by rw [e1]; rfl, by rw [List.length_cons, e2], by rw [e3, szP_cons, Nat.add_assoc]⟩
theorem tsP_app : ∀ {a b : List Cp} {i : Nat}, tsP (a ++ b) i = tsP a i ++ tsP b (i + szP a)
  | [], b, i => rfl
  | c :: r, b, i => by
    show c.tt i ++ tsP (r ++ b) (i + c.sz) = c.tt i ++ tsP r (i + c.sz) ++ _
    rw [tsP_app, szP_cons, List.append_assoc, Nat.add_assoc]
theorem tsP_get {cs a b : List Cp} {c : Cp} {l : List GTyp} {t : GTyp} (h : ∀ c ∈ cs, ∀ i, (c.tt i).length = c.sz) (e : cs = a ++ c :: b) {j : Nat} (hj : j < c.sz) : (l ++ t :: tsP cs (l.length + 1))[l.length + 1 + szP a + j]? = (c.tt (l.length + 1 + szP a))[j]? := by
  have hl := tsP_len (a := a) (i := l.length + 1) fun x hx => h x (by rw [e]; exact List.mem_append_left _ hx)
  have hc := h c (by rw [e]; exact List.mem_append_right _ (List.mem_cons_self ..)) (l.length + 1 + szP a)
  rw [List.getElem?_append_right (by omega), show l.length + 1 + szP a + j - l.length = (szP a + j) + 1 by omega, List.getElem?_cons_succ, e, tsP_app, List.getElem?_append_right (by omega), hl, Nat.add_sub_cancel_left]
  show (c.tt (l.length + 1 + szP a) ++ tsP b _)[j]? = _
  rw [List.getElem?_append_left (by omega)]

/-! ### Parsed fields, and their nodes -/
def glF : List Fl → Nat → List GFld
  | [], _ => []
  | x :: r, i => x.fl 0 i :: glF r (i + x.sz)
theorem ndI_gl : ∀ {l : List Fl} {i : Nat} {nd : GNode}, ndI 0 (l.map FI.one) i nd = ⟨nd.kind, nd.name, nd.mark, nd.con, nd.items, nd.fields ++ glF l i, nd.root, nd.more, nd.of⟩
  | [], i, nd => by show nd = _; simp only [glF, List.append_nil]
  | x :: r, i, nd => by
    show ndI 0 (r.map FI.one) (i + x.sz) (addF nd _) = _
    rw [ndI_gl]
    unfold addF
    simp only [List.append_assoc, List.singleton_append]; rfl
theorem glF_len : ∀ {l : List Fl} {i : Nat}, (glF l i).length = l.length
  | [], _ => rfl
  | x :: r, i => by show (glF r (i + x.sz)).length + 1 = _; rw [glF_len]; rfl
def cpL : List (Fl × (Nat → List GTyp)) → Nat → List Cp
  | [], _ => []
  | p :: r, i => ⟨p.1.fl 0 i, p.1.sz, p.2⟩ :: cpL r (i + p.1.sz)
theorem cpL_f : ∀ {L : List (Fl × (Nat → List GTyp))} {i : Nat}, (cpL L i).map Cp.f = glF (L.map Prod.fst) i
  | [], _ => rfl
  | p :: r, i => by show p.1.fl 0 i :: (cpL r (i + p.1.sz)).map Cp.f = _; rw [cpL_f]; rfl
theorem cpL_len : ∀ {L : List (Fl × (Nat → List GTyp))} {i : Nat}, (cpL L i).length = L.length
  | [], _ => rfl
  | p :: r, i => by show (cpL r (i + p.1.sz)).length + 1 = _; rw [cpL_len]; rfl
theorem cpL_sz : ∀ {L : List (Fl × (Nat → List GTyp))} {i : Nat}, szP (cpL L i) = szL (L.map Prod.fst)
  | [], _ => rfl
  | p :: r, i => by
    show szP (_ :: cpL r (i + p.1.sz)) = szL (p.1 :: r.map Prod.fst)
    rw [szP_cons, cpL_sz, szL_cons]
theorem cpL_get : ∀ {L : List (Fl × (Nat → List GTyp))} {i k : Nat} {c : Cp}, (cpL L i)[k]? = some c → ∃ a p b, L = a ++ p :: b ∧ a.length = k ∧ c = ⟨p.1.fl 0 (i + szL (a.map Prod.fst)), p.1.sz, p.2⟩
  | [], _, _, _, h => by cases h
  | p :: r, i, 0, c, h => ⟨[], p, r, rfl, rfl, by cases h; rfl⟩
  | p :: r, i, k + 1, c, h => by
    obtain ⟨a, x, b, e1, e2, e3⟩ := cpL_get (L := r) (k := k) h
    exact ⟨p :: a, x, b, by rw [e1]; rfl, by rw [List.length_cons, e2], by rw [e3, List.map_cons, szL_cons, Nat.add_assoc]⟩
theorem nsF_get {h : Nat} {kind : Int} {fs a b : List Fl} {x : Fl} {pre : List GNode} (hK : ∀ f ∈ fs, FldK h kind f) (e : fs = a ++ x :: b) {j : Nat} (hj : j < x.sz) : (pre ++ nsF fs pre.length)[pre.length + szL a + j]? = (x.ns (pre.length + szL a))[j]? := by
  have hl := nsF_len (l := a) (i := pre.length) fun f hf => hK f (by rw [e]; exact List.mem_append_left _ hf)
  have hx := (hK x (by rw [e]; exact List.mem_append_right _ (List.mem_cons_self ..))).len (pre.length + szL a)
  rw [List.getElem?_append_right (by omega), show pre.length + szL a + j - pre.length = szL a + j by omega, e, nsF_app, List.getElem?_append_right (by omega), hl, Nat.add_sub_cancel_left]
  show (x.ns (pre.length + szL a) ++ nsF b _)[j]? = _
  rw [List.getElem?_append_left (by omega)]

/-! ### Apart -/
theorem loose_at {t : GTyp} {k : Nat} {f : GFld} (hf : t.fields[k]? = some f) (hh : f.has = false) (hr : (k : Int) < t.root) : table_Loose t (k : Int) = some f.optional := by
  refine T.fin ?_
  have hg : getI t.fields (k : Int) = some f := getI_at (Int.natCast_nonneg _) (by rw [Int.toNat_natCast]; exact hf)
  unfold table_Loose
  refine T.eq hg (T.jp (fun b => b = f.optional) (fun J hJ => T.br (fun h => hJ _ h.symm) fun h => T.eq hg (hJ _ (by rw [hh, h]))) fun b hb => T.jp (fun b => b = f.optional) (fun J hJ => T.br (fun h => hJ _ (by rw [← hb, h])) fun h => hJ _ (by rw [← hb, h]; exact decide_eq_false (by omega))) fun b hb => T.some hb)
theorem apart_seq {l : List GTyp} {m : GMod} {t : GTyp} (hk : t.kind = 7) (hl : t.fields.length ≤ 1000) (hr : t.root = t.fields.length) (hm : t.more = false) (hf : ∀ f ∈ t.fields, f.optional = false ∧ f.has = false) : table_types_apart ⟨⟨l⟩, m⟩ t = some (true, ⟨⟨l⟩, m⟩) := by
  refine T.fin ?_
  unfold table_types_apart
  refine T.brF (by rw [hk]; rfl) ?_
  refine T.lp (ι := Int × GTmk) (fun q => 0 ≤ q.1 ∧ q.1 ≤ t.fields.length ∧ q.2 = ⟨⟨l⟩, m⟩) (fun q => ((t.fields.length : Int) - q.1).toNat) ⟨Int.le_refl _, by dsimp only; omega, rfl⟩ (by dsimp only; omega) fun L q ⟨q1, q2, q3⟩ hL => ?_
  obtain ⟨k, x⟩ := q
  dsimp only at q1 q2 q3 hL ⊢
  subst q3
  refine T.br (fun hb => ?_) fun hb => ?_
  · have hb := of_decide_eq_true hb
    obtain ⟨k, rfl⟩ : ∃ k' : Nat, k = k' := ⟨k.toNat, by omega⟩
    obtain ⟨f, hf1⟩ : ∃ f, t.fields[k]? = some f := ⟨_, List.getElem?_eq_getElem (by omega)⟩
    obtain ⟨f1, f2⟩ := hf f (List.mem_of_getElem? hf1)
    refine T.jp (ι := GTmk) (fun z => z = ⟨⟨l⟩, m⟩) (fun J hJ => T.eq (loose_at hf1 f2 (by omega)) (T.brT (by rw [f1]; rfl) (hJ _ rfl))) fun z hz => T.ck (by omega) (hL _ ⟨by dsimp only; omega, by dsimp only; omega, hz⟩ (by dsimp only; omega))
  · exact T.jp (ι := Bool × GTmk) (fun z => z = (true, ⟨⟨l⟩, m⟩)) (fun J hJ => T.brT (by rw [hm]; rfl) (hJ _ rfl)) fun z hz => T.some (by rw [hz])
theorem told_sub {l : List GTyp} {m : GMod} {fs : List GFld} {V : Nat → Nat} {N : Nat} (hN : fs.length = N) (hN' : N ≤ 1000) (hf : ∀ (k : Nat) f, fs[k]? = some f → ∃ (i : Nat) (u : GTyp), f.ty = (i : Int) ∧ l[i]? = some u ∧ u.tags = [⟨2, (V k : Int)⟩]) {c e : Nat} (hc : c ≤ e) (he : e ≤ N) (o : Bool) :
    ∃ r, table_types_told ⟨⟨l⟩, m⟩ ((fs.take e).drop c) o = some (r, ⟨⟨l⟩, m⟩) ∧ (r = true ↔ ∀ a b, c ≤ a → a < b → b < e → V a ≠ V b) := by
  have hlen : ((fs.take e).drop c).length = e - c := by rw [List.length_drop, List.length_take]; omega
  have h := toldP (l := l) (m := m) (fs := (fs.take e).drop c) (tg := (List.range (e - c)).map fun k => (⟨2, (V (c + k) : Int)⟩ : Tag)) (o := o) (by omega) (by rw [List.length_map, List.length_range, hlen]) fun k f x hk hx => by
    have hkl := (List.getElem?_eq_some_iff.1 hk).1
    rw [hlen] at hkl
    rw [List.getElem?_drop, List.getElem?_take, if_pos (by omega)] at hk
    rw [List.getElem?_map, List.getElem?_range hkl] at hx
    obtain ⟨i, u, h1, h2, h3⟩ := hf _ f hk
    cases hx
    exact ⟨i, u, [], h1, h2, h3⟩
  refine ⟨_, h, ?_⟩
  rw [decide_eq_true_iff]
  unfold List.Nodup
  rw [List.pairwise_map, List.pairwise_iff_getElem]
  simp only [List.length_range, List.getElem_range]
  constructor
  · intro H a b h1 h2 h3 e1
    have := H (a - c) (b - c) (by omega) (by omega) (by omega)
    rw [show c + (a - c) = a by omega, show c + (b - c) = b by omega, e1] at this
    exact this rfl
  · intro H i j hi hj hij e1
    refine H (c + i) (c + j) (by omega) (by omega) (by omega) ?_
    injection e1 with _ e1
    omega
def Cl (s : Bool) (V : Nat → Nat) (W : Nat → Bool) (n a b : Nat) : Prop := a < b ∧ b < n ∧ V a = V b ∧ (s = true → ∀ j, a ≤ j → j < b → W j = true)
theorem flat_apart {l : List GTyp} {m : GMod} {t : GTyp} {V : Nat → Nat} {W : Nat → Bool} {N : Nat} (hN : t.fields.length = N) (hN' : N ≤ 100) (hr : t.root = N) (hm : t.more = false)
    (hW : ∀ (k : Nat) f, t.fields[k]? = some f → f.optional = W k ∧ f.has = false) (hf : ∀ (k : Nat) f, t.fields[k]? = some f → ∃ (i : Nat) (u : GTyp), f.ty = (i : Int) ∧ l[i]? = some u ∧ u.tags = [⟨2, (V k : Int)⟩]) :
    ∃ r, table_types_apart ⟨⟨l⟩, m⟩ t = some (r, ⟨⟨l⟩, m⟩) ∧ (r = false ↔ ∃ a b, Cl (decide (t.kind = 7)) V W N a b) := by
  have key : T (fun z => z.2 = ⟨⟨l⟩, m⟩ ∧ (z.1 = false ↔ ∃ a b, Cl (decide (t.kind = 7)) V W N a b)) (table_types_apart ⟨⟨l⟩, m⟩ t) := by
    unfold table_types_apart
    refine T.br (fun hk => ?_) fun hk => ?_
    · have hk : decide (t.kind = 7) = false := by simpa using hk
      obtain ⟨r, h1, h2⟩ := told_sub (m := m) hN (by omega) hf (c := 0) (e := N) (Nat.zero_le _) (Nat.le_refl _) t.more
      rw [List.drop_zero, List.take_of_length_le (by omega)] at h1
      refine T.eq h1 (T.some ⟨rfl, ?_⟩)
      dsimp only
      rw [hk]
      constructor
      · intro e
        by_cases hx : ∃ a b, Cl false V W N a b
        · exact hx
        · have := h2.2 fun a b _ h3 h4 h5 => hx ⟨a, b, h3, h4, h5, fun e => by cases e⟩
          rw [e] at this; cases this
      · intro ⟨a, b, c1, c2, c3, _⟩
        cases hr : r with
        | false => rfl
        | true => exact absurd c3 (h2.1 hr a b (Nat.zero_le _) c1 c2)
    · have hk : decide (t.kind = 7) = true := by simpa using hk
      rw [hk]
      refine T.lp (ι := Int × GTmk) (fun q => 0 ≤ q.1 ∧ q.1 ≤ N ∧ q.2 = ⟨⟨l⟩, m⟩ ∧ ∀ a b, Cl true V W N a b → q.1 ≤ (a : Int)) (fun q => ((N : Int) - q.1).toNat) ⟨Int.le_refl _, by dsimp only; omega, rfl, fun a b _ => Int.natCast_nonneg _⟩ (by dsimp only; omega) fun L q ⟨q1, q2, q3, q4⟩ hL => ?_
      obtain ⟨k, x⟩ := q
      dsimp only at q1 q2 q3 q4 hL ⊢
      subst q3
      refine T.br (fun hb => ?_) fun hb => ?_
      · have hb := of_decide_eq_true hb
        obtain ⟨k, rfl⟩ : ∃ k' : Nat, k = k' := ⟨k.toNat, by omega⟩
        obtain ⟨f, hf1⟩ : ∃ f, t.fields[k]? = some f := ⟨_, List.getElem?_eq_getElem (by omega)⟩
        obtain ⟨f1, f2⟩ := hW k f hf1
        have hlo : table_Loose t (k : Int) = some (W k) := by rw [loose_at hf1 f2 (by omega), f1]
        refine T.jp (ι := GTmk) (fun z => z = ⟨⟨l⟩, m⟩ ∧ ∀ a b, Cl true V W N a b → ((k : Int) + 1) ≤ (a : Int)) (fun J hJ => T.eq hlo (T.br (fun hw => hJ _ ⟨rfl, fun a b hab => ?_⟩) fun hw => T.ck (by omega) ?_)) fun z ⟨hz, hz2⟩ => T.ck (by omega) (hL _ ⟨by dsimp only; omega, by dsimp only; omega, hz, hz2⟩ (by dsimp only; omega))
        · have hw : W k = false := by simpa using hw
          have h1 := q4 a b hab
          by_cases e : a = k
          · have := hab.2.2.2 rfl a (Nat.le_refl _) hab.1
            rw [e, hw] at this; cases this
          · omega
        · have hw : W k = true := by simpa using hw
          refine T.lp (ι := Int) (fun e => (k : Int) + 1 ≤ e ∧ e ≤ N ∧ ∀ j : Nat, k ≤ j → (j : Int) + 1 < e → W j = true) (fun e => ((N : Int) - e).toNat) ⟨Int.le_refl _, by omega, fun j h1 h2 => by omega⟩ (by omega) fun L2 e ⟨e1, e2, e3⟩ hL2 => ?_
          obtain ⟨e, rfl⟩ : ∃ e' : Nat, e = e' := ⟨e.toNat, by omega⟩
          have hlo2 : table_Loose t ((e : Int) - 1) = some (W (e - 1)) := by
            obtain ⟨g, hg⟩ : ∃ f, t.fields[e - 1]? = some f := ⟨_, List.getElem?_eq_getElem (by omega)⟩
            obtain ⟨g1, g2⟩ := hW _ g hg
            rw [show (e : Int) - 1 = ((e - 1 : Nat) : Int) by omega, loose_at hg g2 (by omega), g1]
          refine T.jp (fun b => b = (decide (e < N) && W (e - 1))) (fun J2 h2 => T.br (fun h3 => ?_) fun h3 => h2 _ ?_) fun b hb2 => T.br (fun h3 => ?_) fun h3 => ?_
          · have h3 := of_decide_eq_true h3
            exact T.ck (by omega) (T.eq hlo2 (h2 _ (by rw [decide_eq_true (show e < N by omega)]; rfl)))
          · have h3 := of_decide_eq_false h3
            rw [decide_eq_false (show ¬ e < N by omega)]; rfl
          · rw [h3] at hb2
            have hb2 := hb2.symm
            simp only [Bool.and_eq_true, decide_eq_true_eq] at hb2
            refine T.ck (by omega) (hL2 _ ⟨by omega, by omega, fun j h4 h5 => ?_⟩ (by omega))
            by_cases e4 : j + 1 < e
            · exact e3 j h4 (by omega)
            · have : j = e - 1 := by omega
              rw [this]; exact hb2.2
          · rw [h3] at hb2
            have hb2 := hb2.symm
            obtain ⟨r, t1, t2⟩ := told_sub (m := m) hN (by omega) hf (c := k) (e := e) (by omega) (by omega) false
            rw [Int.toNat_natCast, Int.toNat_natCast]
            refine T.asd ⟨by omega, by omega, by omega⟩ (T.eq t1 (T.br (fun h4 => T.some ⟨rfl, ?_⟩) fun h4 => hJ _ ⟨rfl, fun a b hab => ?_⟩))
            · have h4 : r = false := by simpa using h4
              dsimp only
              refine ⟨fun _ => ?_, fun _ => rfl⟩
              by_cases hx : ∃ a b, Cl true V W N a b
              · exact hx
              · have := t2.2 fun a b h5 h6 h7 h8 => hx ⟨a, b, h6, by omega, h8, fun _ j h9 h10 => e3 j (by omega) (by omega)⟩
                rw [h4] at this; cases this
            · have h4 : r = true := by simpa using h4
              have h1 := q4 a b hab
              by_cases e5 : a = k
              · subst e5
                have hbe : b < e := by
                  rcases Nat.lt_or_ge b e with h | h
                  · exact h
                  · have := hab.2.2.2 rfl (e - 1) (by omega) (by omega)
                    rw [this, decide_eq_true (show e < N by have := hab.2.1; omega)] at hb2
                    cases hb2
                exact absurd hab.2.2.1 (t2.1 h4 a b (Nat.le_refl _) hab.1 hbe)
              · omega
      · have hb := of_decide_eq_false hb
        refine T.jp (ι := Bool × GTmk) (fun z => z = (true, ⟨⟨l⟩, m⟩)) (fun J hJ => T.brT (by rw [hm]; rfl) (hJ _ rfl)) fun z hz => T.some ?_
        subst hz
        refine ⟨rfl, fun e => (by cases e), fun ⟨a, b, hab⟩ => ?_⟩
        have h1 := q4 a b hab
        have h2 := hab.1
        have h3 := hab.2.1
        omega
  obtain ⟨⟨r, x⟩, e1, e2, e3⟩ := key
  dsimp only at e2 e3
  subst e2
  exact ⟨r, e1, e3⟩
end Go.Proofs.YtiibmpdjkdjbiaaGreatDoor


namespace Go.Proofs.YtiibmpdjkdjbiaaGreatDoor
open Go.Sy
set_option maxRecDepth 4000
end Go.Proofs.YtiibmpdjkdjbiaaGreatDoor


namespace Go.Proofs.YtiibmpdjkdjbiaaGreatDoor
open Go.Sy
set_option maxRecDepth 4000
def r09_Universal (a_kind : Int) : Option (Tag) :=
  br (decide (a_kind = (1 : Int))) (some ((Tag.mk (0 : Int) (1 : Int)))) (br (decide (a_kind = (2 : Int))) (some ((Tag.mk (0 : Int) (2 : Int)))) (br (decide (a_kind = (5 : Int))) (some ((Tag.mk (0 : Int) (4 : Int)))) (br (decide (a_kind = (4 : Int))) (some ((Tag.mk (0 : Int) (5 : Int)))) (br (decide (a_kind = (3 : Int))) (some ((Tag.mk (0 : Int) (10 : Int)))) (br (decide (a_kind = (6 : Int))) (some ((Tag.mk (0 : Int) (12 : Int)))) (jp (ι := Bool) (fun J3 => br (decide (a_kind = (7 : Int))) (J3 ((decide (a_kind = (7 : Int))))) (J3 ((decide (a_kind = (10 : Int)))))) (fun q2 => br q2 (some ((Tag.mk (0 : Int) (16 : Int)))) (br (decide (a_kind = (8 : Int))) (some ((Tag.mk (0 : Int) (17 : Int)))) (some ((Tag.mk (0 : Int) (0 : Int))))))))))))

def law10_TableAutomatic (a_kinds : (List Int)) (a_marked : Bool) : Option (Bool) :=
  jp (ι := Bool) (fun J2 => br (decide ((a_kinds.length : Int) = (0 : Int))) (J2 (true)) (J2 ((decide ((10 : Int) < (a_kinds.length : Int)))))) (fun q1 => br q1 (cal (law10_awake ) fun y4 => some (y4)) (lp (ι := Str × Int) (fun L6 q5 => br (decide (q5.2 < (a_kinds.length : Int))) (jp (ι := Str) (fun J115 => br (decide ((0 : Int) < q5.2)) (asr (Nat.ble (q5.1.b.length + (Str.mk [44, 32]).b.length) 4611686018427387904) <| J115 ((Str.mk (q5.1.b ++ (Str.mk [44, 32]).b)))) (J115 (q5.1))) (fun q114 => asr (Nat.ble (q114.b.length + (Str.mk [102]).b.length) 4611686018427387904) <| cal (h_Digits fuel (UInt64.ofNat (q5.2 % 18446744073709551616).toNat)) fun y118 => asr (Nat.ble ((Str.mk (q114.b ++ (Str.mk [102]).b)).b.length + y118.b.length) 4611686018427387904) <| asr (Nat.ble ((Str.mk ((Str.mk (q114.b ++ (Str.mk [102]).b)).b ++ y118.b)).b.length + (Str.mk [32]).b.length) 4611686018427387904) <| jp (ι := Bool) (fun J122 => br a_marked (J122 ((decide (q5.2 = (0 : Int))))) (J122 (false))) (fun q121 => jp (ι := Str) (fun J125 => br q121 (asr (Nat.ble ((Str.mk ((Str.mk ((Str.mk (q114.b ++ (Str.mk [102]).b)).b ++ y118.b)).b ++ (Str.mk [32]).b)).b.length + (Str.mk [91, 51, 48, 93, 32]).b.length) 4611686018427387904) <| J125 ((Str.mk ((Str.mk ((Str.mk ((Str.mk (q114.b ++ (Str.mk [102]).b)).b ++ y118.b)).b ++ (Str.mk [32]).b)).b ++ (Str.mk [91, 51, 48, 93, 32]).b)))) (J125 ((Str.mk ((Str.mk ((Str.mk (q114.b ++ (Str.mk [102]).b)).b ++ y118.b)).b ++ (Str.mk [32]).b))))) (fun q124 => cal (getI a_kinds q5.2) fun y128 => asr (!decide ((3 : UInt64) = 0)) <| ck ((((UInt64.ofNat (y128 % 18446744073709551616).toNat) % (3 : UInt64)).toNat : Int)) <| cal (getI ([(Str.mk [78, 85, 76, 76]), (Str.mk [66, 79, 79, 76, 69, 65, 78]), (Str.mk [67, 72, 79, 73, 67, 69, 32, 123, 32, 120, 32, 73, 78, 84, 69, 71, 69, 82, 44, 32, 121, 32, 78, 85, 76, 76, 32, 125])] : (List Str)) (((UInt64.ofNat (y128 % 18446744073709551616).toNat) % (3 : UInt64)).toNat : Int)) fun y131 => asr (Nat.ble (q124.b.length + y131.b.length) 4611686018427387904) <| ck ((q5.2 + (1 : Int))) <| L6 ((Str.mk (q124.b ++ y131.b)), (q5.2 + (1 : Int))))))) (asr (Nat.ble ((Str.mk [77, 32, 68, 69, 70, 73, 78, 73, 84, 73, 79, 78, 83, 32, 65, 85, 84, 79, 77, 65, 84, 73, 67, 32, 84, 65, 71, 83, 32, 58, 58, 61, 32, 66, 69, 71, 73, 78, 32, 83, 32, 58, 58, 61, 32, 83, 69, 81, 85, 69, 78, 67, 69, 32, 123, 32]).b.length + q5.1.b.length) 4611686018427387904) <| asr (Nat.ble ((Str.mk ((Str.mk [77, 32, 68, 69, 70, 73, 78, 73, 84, 73, 79, 78, 83, 32, 65, 85, 84, 79, 77, 65, 84, 73, 67, 32, 84, 65, 71, 83, 32, 58, 58, 61, 32, 66, 69, 71, 73, 78, 32, 83, 32, 58, 58, 61, 32, 83, 69, 81, 85, 69, 78, 67, 69, 32, 123, 32]).b ++ q5.1.b)).b.length + (Str.mk [32, 125, 32, 69, 78, 68]).b.length) 4611686018427387904) <| cal (r05_Parse (Str.mk ((Str.mk ((Str.mk [77, 32, 68, 69, 70, 73, 78, 73, 84, 73, 79, 78, 83, 32, 65, 85, 84, 79, 77, 65, 84, 73, 67, 32, 84, 65, 71, 83, 32, 58, 58, 61, 32, 66, 69, 71, 73, 78, 32, 83, 32, 58, 58, 61, 32, 83, 69, 81, 85, 69, 78, 67, 69, 32, 123, 32]).b ++ q5.1.b)).b ++ (Str.mk [32, 125, 32, 69, 78, 68]).b))) fun y136 => cal (table_Make y136.1) fun y138 => cal (law10_awake ) fun y140 => jp (ι := Bool) (fun J142 => br (!y140) (J142 (true)) (J142 ((!decide (y136.2.2 = (0 : Int)))))) (fun q141 => jp (ι := Bool) (fun J145 => br q141 (J145 (true)) (J145 ((!decide (y138.2.2 = (0 : Int)))))) (fun q144 => jp (ι := Bool) (fun J148 => br q144 (J148 (true)) (J148 ((decide ((y138.1.types.length : Int) = (0 : Int)))))) (fun q147 => jp (ι := Bool) (fun J151 => br q147 (J151 (true)) (cal (getI y138.1.types (0 : Int)) fun y153 => J151 ((!decide ((y153.fields.length : Int) = (a_kinds.length : Int)))))) (fun q150 => br q150 (some (false)) (lp (ι := Int) (fun L155 q154 => br (decide (q154 < (a_kinds.length : Int))) (cal (getI y138.1.types (0 : Int)) fun y188 => cal (getI y188.fields q154) fun y189 => jp (ι := Bool) (fun J191 => br (decide (y189.ty ≤ (0 : Int))) (J191 (true)) (J191 ((decide ((y138.1.types.length : Int) ≤ y189.ty))))) (fun q190 => br q190 (some (false)) (cal (getI a_kinds q154) fun y193 => asr (!decide ((3 : UInt64) = 0)) <| ck ((((UInt64.ofNat (y193 % 18446744073709551616).toNat) % (3 : UInt64)).toNat : Int)) <| jp (ι := (List Tag)) (fun J197 => br (decide ((((UInt64.ofNat (y193 % 18446744073709551616).toNat) % (3 : UInt64)).toNat : Int) < (2 : Int))) (cal (getI ([(4 : Int), (1 : Int)] : (List Int)) (((UInt64.ofNat (y193 % 18446744073709551616).toNat) % (3 : UInt64)).toNat : Int)) fun y199 => cal (r09_Universal y199) fun y200 => J197 (([y200] : (List Tag)))) (J197 (([] : (List Tag))))) (fun q196 => jp (ι := Bool) (fun J204 => br (!a_marked) (J204 (true)) (J204 ((decide (q154 = (0 : Int)))))) (fun q203 => jp (ι := (List Tag)) (fun J207 => br q203 (jp (ι := Int) (fun J209 => br a_marked (J209 ((30 : Int))) (J209 (q154))) (fun q208 => jp (ι := (List Tag)) (fun J211 => br (decide ((((UInt64.ofNat (y193 % 18446744073709551616).toNat) % (3 : UInt64)).toNat : Int) < (2 : Int))) (asr (decide (0 ≤ (1 : Int) ∧ (1 : Int) ≤ (q196.length : Int))) <| J211 ((q196.drop ((1 : Int)).toNat))) (J211 (q196))) (fun q210 => asr (Nat.ble (([(Tag.mk (2 : Int) q208)] : (List Tag)).length + q210.length) 68719476736) <| J207 ((([(Tag.mk (2 : Int) q208)] : (List Tag)) ++ q210))))) (J207 (q196))) (fun q206 => cal (getI y138.1.types y189.ty) fun y217 => cal (h_Plain_api_Tag y217.tags q206) fun y218 => br (!y218) (some (false)) (ck ((q154 + (1 : Int))) <| L155 ((q154 + (1 : Int)))))))))) (some (true))) (((0 : Int)))))))))) (((Str.mk []), (0 : Int)))))
end Go.Proofs.YtiibmpdjkdjbiaaGreatDoor


namespace Go.Proofs.YtiibmpdjkdjbiaaGreatDoor
open Go.Sy
set_option maxRecDepth 4000
def tokF (s : Str) : Option (List GTok × Int × Int) := some (toks s.b)
theorem tokF_eq : r04_Tokens = tokF := funext tokens_eq
def r05_ParseF (a_text : Str) : Option (GMod × Int × Int) :=
  cal (tokF a_text) fun y2 => br (!decide (y2.2.2 = (0 : Int))) (some ((GMod.mk (Str.mk []) (0 : Int) ([] : (List Str)) ([] : (List Int)) ([] : (List GNode))), y2.2.1, y2.2.2)) (cal (r05_parser_kind (GPar.mk y2.1 (0 : Int) (GMod.mk (Str.mk []) (0 : Int) ([] : (List Str)) ([] : (List Int)) ([] : (List GNode))) (0 : Int) (0 : Int)) (1 : Int)) fun y7 => cal (r05_parser_must (GPar.mk y7.2.l y7.2.at_ (GMod.mk y7.1 y7.2.m.tagging y7.2.m.names y7.2.m.types y7.2.m.nodes) y7.2.e y7.2.p) (Str.mk [68, 69, 70, 73, 78, 73, 84, 73, 79, 78, 83])) fun y10 => jp (ι := GPar) (fun J14 => cal (r05_parser_is y10 (Str.mk [69, 88, 80, 76, 73, 67, 73, 84])) fun y15 => br y15.1 (cal (r05_parser_must y15.2 (Str.mk [84, 65, 71, 83])) fun y18 => J14 (y18)) (cal (r05_parser_is y15.2 (Str.mk [73, 77, 80, 76, 73, 67, 73, 84])) fun y21 => br y21.1 (cal (r05_parser_must (GPar.mk y21.2.l y21.2.at_ (GMod.mk y21.2.m.name (1 : Int) y21.2.m.names y21.2.m.types y21.2.m.nodes) y21.2.e y21.2.p) (Str.mk [84, 65, 71, 83])) fun y24 => J14 (y24)) (cal (r05_parser_is y21.2 (Str.mk [65, 85, 84, 79, 77, 65, 84, 73, 67])) fun y27 => br y27.1 (cal (r05_parser_must (GPar.mk y27.2.l y27.2.at_ (GMod.mk y27.2.m.name (2 : Int) y27.2.m.names y27.2.m.types y27.2.m.nodes) y27.2.e y27.2.p) (Str.mk [84, 65, 71, 83])) fun y30 => J14 (y30)) (J14 (y27.2))))) (fun q13 => cal (r05_parser_must q13 (Str.mk [58, 58, 61])) fun y33 => cal (r05_parser_must y33 (Str.mk [66, 69, 71, 73, 78])) fun y36 => lp (ι := GPar) (fun L40 q39 => jp (ι := Bool × GPar) (fun J92 => br (decide (q39.e = (0 : Int))) (cal (r05_parser_is q39 (Str.mk [69, 78, 68])) fun y94 => J92 ((!y94.1), y94.2)) (J92 (false, q39))) (fun q91 => br q91.1 (cal (r05_parser_now q91.2) fun y97 => cal (r05_parser_kind y97.2 (1 : Int)) fun y101 => jp (ι := Bool) (fun J105 => br (decide (y101.2.e = (0 : Int))) (J105 ((decide ((40 : Int) ≤ (y101.2.m.names.length : Int))))) (J105 (false))) (fun q104 => jp (ι := GPar) (fun J108 => br q104 (cal (r05_parser_fail y101.2 (5 : Int) y97.1) fun y109 => J108 (y109)) (J108 (y101.2))) (fun q107 => cal (r05_parser_must q107 (Str.mk [58, 58, 61])) fun y112 => cal (r05_parser_typ fuel y112 (0 : Int)) fun y115 => asr (Nat.ble (y115.2.m.names.length + ([y101.1] : (List Str)).length) 68719476736) <| asr (Nat.ble (y115.2.m.types.length + ([y115.1] : (List Int)).length) 68719476736) <| L40 ((GPar.mk y115.2.l y115.2.at_ (GMod.mk y115.2.m.name y115.2.m.tagging (y115.2.m.names ++ ([y101.1] : (List Str))) (y115.2.m.types ++ ([y115.1] : (List Int))) y115.2.m.nodes) y115.2.e y115.2.p))))) (jp (ι := Bool × GPar) (fun J126 => br (decide (q91.2.e = (0 : Int))) (cal (r05_parser_now q91.2) fun y128 => J126 ((!decide (y128.1.kind = (0 : Int))), y128.2)) (J126 (false, q91.2))) (fun q125 => jp (ι := GPar) (fun J132 => br q125.1 (cal (r05_parser_now q125.2) fun y133 => cal (r05_parser_fail y133.2 (7 : Int) y133.1) fun y136 => J132 (y136)) (J132 (q125.2))) (fun q131 => br (!decide (q131.e = (0 : Int))) (some ((GMod.mk (Str.mk []) (0 : Int) ([] : (List Str)) ([] : (List Int)) ([] : (List GNode))), q131.p, q131.e)) (some (q131.m, (0 : Int), (0 : Int)))))))) ((y36))))
theorem r05_ParseF_eq : r05_Parse = r05_ParseF := by
  funext a_text
  unfold r05_Parse r05_ParseF
  rw [tokF_eq]
def law10_awakeF : Option (Bool) :=
  cal (r05_ParseF (Str.mk [77, 32, 68, 69, 70, 73, 78, 73, 84, 73, 79, 78, 83, 32, 58, 58, 61, 32, 66, 69, 71, 73, 78, 32, 65, 32, 58, 58, 61, 32, 83, 69, 81, 85, 69, 78, 67, 69, 32, 123, 32, 120, 32, 73, 78, 84, 69, 71, 69, 82, 32, 40, 48, 46, 46, 55, 41, 44, 32, 46, 46, 46, 32, 125, 32, 69, 78, 68])) fun y1 => cal (table_Make y1.1) fun y3 => jp (ι := Bool) (fun J6 => br (decide (y3.2.2 = (0 : Int))) (J6 ((decide ((y3.1.types.length : Int) = (2 : Int))))) (J6 (false))) (fun q5 => jp (ι := Bool) (fun J9 => br q5 (cal (table_Find y3.1 (Str.mk [65])) fun y11 => J9 ((decide (y11 = (0 : Int))))) (J9 (false))) (fun q8 => jp (ι := Bool) (fun J13 => br q8 (cal (getI y3.1.types (1 : Int)) fun y15 => J13 ((decide ((y15.tags.length : Int) = (1 : Int))))) (J13 (false))) (fun q12 => some (q12))))
theorem law10_awakeF_eq : law10_awake = law10_awakeF := by
  unfold law10_awake law10_awakeF
  rw [r05_ParseF_eq]
end Go.Proofs.YtiibmpdjkdjbiaaGreatDoor


namespace Go.Proofs.YtiibmpdjkdjbiaaGreatDoor
open Go.Sy
set_option linter.unusedVariables false
set_option maxRecDepth 4000

theorem TypK.mono {h h' sz : Nat} {ts : KS} {ns : Nat → List GNode} (x : TypK h ts sz ns) (hh : h ≤ h') : TypK h' ts sz ns := ⟨x.len, fun h1 h2 h3 h4 h5 h6 => x.go (by omega) h2 (by omega) h4 h5 h6⟩
theorem NT.mono {m : GMod} {k : Int} {h h' sz : Nat} {tt : Nat → List GTyp} (x : NT m k h sz tt) (hh : h ≤ h') : NT m k h' sz tt := ⟨x.len, fun h1 h2 h3 h4 => x.go (by omega) h2 (by omega) h4⟩
theorem MT.mono {m : GMod} {nd : GNode} {h h' sz : Nat} {tt : Nat → List GTyp} (x : MT m nd h sz tt) (hh : h ≤ h') : MT m nd h' sz tt := ⟨x.len, fun h1 h2 h3 h4 => x.go (by omega) h2 (by omega) h4⟩
theorem nsF_all {P : GNode → Prop} : ∀ {fs : List Fl} {i : Nat}, (∀ x ∈ fs, ∀ i, ∀ z ∈ x.ns i, P z) → ∀ z ∈ nsF fs i, P z
  | [], _, _, z, hz => by cases hz
  | x :: r, i, h, z, hz => by
    rcases List.mem_append.1 (show z ∈ x.ns i ++ nsF r (i + x.sz) from hz) with e | e
    · exact h x (List.mem_cons_self ..) i z e
    · exact nsF_all (fun y hy => h y (List.mem_cons_of_mem _ hy)) z e
@[reducible] def conZ : GCon := ⟨false, false, false, false, 0, 0⟩
def fdA (c : UInt8) (j : Nat) : GFld := ⟨⟨[c]⟩, (j : Int), false, false, zv, 0⟩
def uA (K : Nat) : Int := if K = 0 then 5 else 1
def hdT (K j : Nat) : GTyp := if K = 0 then ⟨4, [⟨0, 5⟩], conZ, [], [], 0, false, 0⟩ else if K = 1 then ⟨1, [⟨0, 1⟩], conZ, [], [], 0, false, 0⟩ else ⟨9, [], conZ, [], [fdA 120 (j + 1), fdA 121 (j + 2)], 2, false, 0⟩
def tlT (K : Nat) : List GTyp := if K < 2 then [] else [⟨2, [⟨2, 0⟩], conZ, [], [], 0, false, 0⟩, ⟨4, [⟨2, 1⟩], conZ, [], [], 0, false, 0⟩]
def tagA (K : Nat) (tg : Option Int) : List Tag := match tg with
  | some n => [⟨2, n⟩]
  | none => if K < 2 then [⟨0, uA K⟩] else []
def ttA (K : Nat) (tg : Option Int) (j : Nat) : List GTyp := { hdT K j with tags := tagA K tg } :: tlT K
theorem hdT_tags (K j : Nat) : (hdT K j).tags = tagA K none := by
  unfold hdT tagA uA
  by_cases h0 : K = 0
  · subst h0; rfl
  · by_cases h1 : K = 1
    · subst h1; rfl
    · rw [if_neg h0, if_neg h1]; dsimp only; rw [if_neg (by omega)]
theorem ttA_none (K : Nat) : ttA K none = fun j => hdT K j :: tlT K := by
  funext j
  unfold ttA
  rw [← hdT_tags K j]
def hdA (K : Nat) (μ : GMark) (i : Nat) : GNode := if K = 0 then { zm μ with kind := 4 } else if K = 1 then { zm μ with kind := 1 } else ⟨9, ⟨[]⟩, μ, conZ, [], [fdA 120 (i + 1), fdA 121 (i + 2)], 2, false, 0⟩
def tlA (K : Nat) : List GNode := if K < 2 then [] else [{ zm noM with kind := 2 }, { zm noM with kind := 4 }]
theorem ndsA_eq (K : Nat) (μ : GMark) (i : Nat) : ndsA K μ i = hdA K μ i :: tlA K := by
  unfold ndsA hdA tlA
  by_cases h0 : K = 0
  · subst h0; rfl
  · by_cases h1 : K = 1
    · subst h1; rfl
    · rw [if_neg h0, if_neg h0, if_neg h1, if_neg h1, if_neg (by omega)]; rfl
theorem hdA_mark (K : Nat) (μ : GMark) (i : Nat) : (hdA K μ i).mark = μ := by
  unfold hdA
  split
  · rfl
  · split <;> rfl
theorem hdA_kind (K : Nat) (μ : GMark) (i : Nat) : (hdA K μ i).kind ≠ 11 ∧ (hdA K μ i).fields.length ≤ 1000 := by
  unfold hdA zm
  split
  · exact ⟨by dsimp only; decide, Nat.zero_le _⟩
  · split
    · exact ⟨by dsimp only; decide, Nat.zero_le _⟩
    · exact ⟨by dsimp only; decide, by show 2 ≤ 1000; omega⟩
theorem ch_mt {m : GMod} (hg : m.tagging = 2) {μ : GMark} {i : Nat} (h1 : m.nodes[i + 1]? = some { zm noM with kind := 2 }) (h2 : m.nodes[i + 2]? = some { zm noM with kind := 4 }) {K : Nat} (hK : ¬ K < 2) : MT m (hdA K μ i) 1 3 (ttA K none) := by
  have ehd : hdA K μ i = ⟨9, ⟨[]⟩, μ, conZ, [], [fdA 120 (i + 1), fdA 121 (i + 2)], 2, false, 0⟩ := by unfold hdA; rw [if_neg (by omega), if_neg (by omega)]
  have ett : ttA K none = fun j => (⟨9, [], conZ, [], [fdA 120 (j + 1), fdA 121 (j + 2)], 2, false, 0⟩ : GTyp) :: [⟨2, [⟨2, 0⟩], conZ, [], [], 0, false, 0⟩, ⟨4, [⟨2, 1⟩], conZ, [], [], 0, false, 0⟩] := by
    rw [ttA_none]
    funext j
    unfold hdT tlT
    rw [if_neg (by omega), if_neg (by omega), if_neg hK]
  rw [ehd, ett]
  refine ⟨fun _ => rfl, ?_⟩
  intro n d l g1 g2 g3 g4
  have hc : ∀ (k : Nat) c, ([⟨fdA 120 (i + 1), 1, fun _ => [⟨2, [⟨2, 0⟩], conZ, [], [], 0, false, 0⟩]⟩, ⟨fdA 121 (i + 2), 1, fun _ => [⟨4, [⟨2, 1⟩], conZ, [], [], 0, false, 0⟩]⟩] : List Cp)[k]? = some c → CpK m 0 true k c := fun k c hc => by
    match k, hc with
    | 0, hc =>
      cases hc
      refine ⟨⟨fun _ => [⟨2, [⟨0, 2⟩], conZ, [], [], 0, false, 0⟩], ?_, .inr ⟨rfl, fun _ => ⟨2, [⟨0, 2⟩], conZ, [], [], 0, false, 0⟩, fun _ => [], fun _ => rfl, fun _ => rfl, fun _ => ?_⟩⟩, rfl⟩
      · exact nt_un (k := i + 1) h1 (by show (2 : Int) ≠ 11; decide) rfl (mt_int rfl (by kernel_rfl))
      · show tags_Wrap [⟨0, 2⟩] _ 1 = _
        exact wrap_impl (by omega) (by omega)
    | 1, hc =>
      cases hc
      refine ⟨⟨fun _ => [⟨4, [⟨0, 5⟩], conZ, [], [], 0, false, 0⟩], ?_, .inr ⟨rfl, fun _ => ⟨4, [⟨0, 5⟩], conZ, [], [], 0, false, 0⟩, fun _ => [], fun _ => rfl, fun _ => rfl, fun _ => ?_⟩⟩, rfl⟩
      · exact nt_un (k := i + 2) h2 (by show (4 : Int) ≠ 11; decide) rfl (mt_leaf (.inr rfl) (by kernel_rfl))
      · show tags_Wrap [⟨0, 5⟩] _ 1 = _
        exact wrap_impl (by omega) (by omega)
    | k + 2, hc => cases hc
  have hau : AutIs m ⟨9, ⟨[]⟩, μ, conZ, [], [fdA 120 (i + 1), fdA 121 (i + 2)], 2, false, 0⟩ (!false) := aut_on hg (by show 2 ≤ 1000; omega) ⟨fun ⟨f, hf, z, _, hz, hm⟩ => by
    dsimp only at hf
    rcases List.mem_cons.1 hf with rfl | hf
    · have hz : m.nodes[i + 1]? = some z := hz
      rw [h1] at hz; cases hz; exact hm
    · rw [List.mem_singleton.1 hf] at hz
      have hz : m.nodes[i + 2]? = some z := hz
      rw [h2] at hz; cases hz; exact hm, fun e => by cases e⟩
  obtain ⟨r, hr1, hr2⟩ := flat_apart (l := l ++ (⟨9, [], conZ, [], [fdA 120 (l.length + 1), fdA 121 (l.length + 2)], 2, false, 0⟩ : GTyp) :: [⟨2, [⟨2, 0⟩], conZ, [], [], 0, false, 0⟩, ⟨4, [⟨2, 1⟩], conZ, [], [], 0, false, 0⟩]) (m := m) (t := ⟨9, [], conZ, [], [fdA 120 (l.length + 1), fdA 121 (l.length + 2)], 2, false, 0⟩) (V := id) (W := fun _ => false) (N := 2) rfl (by omega) rfl rfl (fun k f hf => by
      match k, hf with
      | 0, hf => cases hf; exact ⟨rfl, rfl⟩
      | 1, hf => cases hf; exact ⟨rfl, rfl⟩
      | k + 2, hf => cases hf) (fun k f hf => by
      match k, hf with
      | 0, hf =>
        cases hf
        refine ⟨l.length + 1, ⟨2, [⟨2, 0⟩], conZ, [], [], 0, false, 0⟩, rfl, ?_, rfl⟩
        rw [List.getElem?_append_right (by omega), show l.length + 1 - l.length = 1 by omega]; rfl
      | 1, hf =>
        cases hf
        refine ⟨l.length + 2, ⟨4, [⟨2, 1⟩], conZ, [], [], 0, false, 0⟩, rfl, ?_, rfl⟩
        rw [List.getElem?_append_right (by omega), show l.length + 2 - l.length = 2 by omega]; rfl
      | k + 2, hf => cases hf)
  have hrt : r = true := by
    cases hr : r with
    | true => rfl
    | false =>
      obtain ⟨a, b, c1, _, c3, _⟩ := hr2.1 hr
      have c3 : a = b := c3
      omega
  subst hrt
  exact made_conP (n := n) (d := d) (l := l) (.inr (.inr rfl)) rfl hc hau (fun _ e => by cases e) (by show ([⟨[120]⟩, ⟨[121]⟩] : List Str).Nodup; decide) (by show 2 ≤ 1000; omega) (by omega) g2 (by omega) g4 hr1
theorem A_mt {m : GMod} (hg : m.tagging = 2) {μ : GMark} {K i : Nat} (h : ∀ j, j < (tlA K).length → m.nodes[i + 1 + j]? = (tlA K)[j]?) : MT m (hdA K μ i) 1 (szA' K) (ttA K none) := by
  by_cases hK : K < 2
  · have e : szA' K = 1 := by unfold szA'; rw [if_pos hK]
    rw [e]
    by_cases h0 : K = 0
    · subst h0
      have e2 : ttA 0 none = fun _ => [leafP (hdA 0 μ i) 5] := rfl
      rw [e2]
      exact (mt_leaf (.inr rfl) (by kernel_rfl)).mono (by omega)
    · have h1 : K = 1 := by omega
      subst h1
      have e2 : ttA 1 none = fun _ => [leafP (hdA 1 μ i) 1] := rfl
      rw [e2]
      exact (mt_leaf (.inl rfl) (by kernel_rfl)).mono (by omega)
  · have e : szA' K = 3 := by unfold szA'; rw [if_neg hK]
    have e2 : tlA K = [{ zm noM with kind := 2 }, { zm noM with kind := 4 }] := by unfold tlA; rw [if_neg hK]
    rw [e2] at h
    rw [e]
    exact ch_mt hg (h 0 (by show 0 < 2; omega)) (h 1 (by show 1 < 2; omega)) hK
theorem wrapA (K : Nat) {n : Int} (h0 : 0 ≤ n) (h1 : n ≤ 268435456) (j : Nat) : tags_Wrap (hdT K j).tags n (if (hdT K j).tags = [] then 0 else 1) = some ([⟨2, n⟩], 0) := by
  rw [hdT_tags]
  unfold tagA
  dsimp only
  by_cases hK : K < 2
  · rw [if_pos hK]
    show tags_Wrap [⟨0, uA K⟩] n 1 = _
    exact wrap_impl h0 h1
  · rw [if_neg hK]
    show tags_Wrap [] n 0 = _
    exact wrap_expl h0 h1
def mkA (marked : Bool) (i : Nat) : Option Nat := if marked = true ∧ i = 0 then some 30 else none
def tgA (marked : Bool) (i : Nat) : Option Int := if marked = false then some (i : Int) else if i = 0 then some 30 else none
theorem A_cp {m : GMod} (hg : m.tagging = 2) {marked : Bool} {k : Nat} (hk : k ≤ 100) {K i : Nat} {f : GFld} (hf : f.ty = (i : Int)) (hh : f.has = false) (h : ∀ j, j < (ndsA K (match mkA marked k with | some v => ⟨true, (v : Int), 0⟩ | none => noM) i).length → m.nodes[i + j]? = (ndsA K (match mkA marked k with | some v => ⟨true, (v : Int), 0⟩ | none => noM) i)[j]?) :
    CpK m 1 (!marked) k ⟨f, szA' K, ttA K (tgA marked k)⟩ := by
  rw [ndsA_eq] at h
  have hnd := h 0 (Nat.zero_lt_succ _)
  rw [Nat.add_zero] at hnd
  have hM := A_mt hg (μ := match mkA marked k with | some v => ⟨true, (v : Int), 0⟩ | none => noM) (K := K) (i := i) fun j hj => by
    have := h (j + 1) (by rw [List.length_cons]; omega)
    rw [show i + 1 + j = i + (j + 1) by omega]; exact this
  refine ⟨?_, hh⟩
  show ∃ tt0, NT m f.ty 1 (szA' K) tt0 ∧ _
  rw [hf]
  have hun : ∀ j, ttA K none j = hdT K j :: tlT K := fun j => by rw [ttA_none]
  cases marked with
  | false =>
    exact ⟨ttA K none, nt_un hnd (hdA_kind _ _ _).1 (by rw [hdA_mark]; rfl) hM, .inr ⟨rfl, fun j => hdT K j, fun _ => tlT K, hun, fun j => rfl, fun j => wrapA K (by omega) (by omega) j⟩⟩
  | true =>
    by_cases h0 : k = 0
    · subst h0
      refine ⟨ttA K (some 30), ?_, .inl ⟨rfl, rfl⟩⟩
      have e : szA' K = (szA' K - 1) + 1 := by unfold szA'; split <;> rfl
      rw [ttA_none, e] at hM
      have := nt_mk hnd (hdA_kind _ _ _).1 (v := 30) (by rw [hdA_mark]; rfl) (by omega) (by omega) (by omega) hM fun j => wrapA K (by omega) (by omega) j
      rw [e]
      exact this
    · refine ⟨ttA K none, nt_un hnd (hdA_kind _ _ _).1 (by rw [hdA_mark]; unfold mkA; rw [if_neg (by simp [h0])]) hM, .inl ⟨rfl, ?_⟩⟩
      show ttA K (tgA true k) = _
      unfold tgA
      rw [if_neg (by simp), if_neg h0]
end Go.Proofs.YtiibmpdjkdjbiaaGreatDoor


namespace Go.Proofs.YtiibmpdjkdjbiaaGreatDoor
open Go.Sy
set_option linter.unusedVariables false
set_option maxRecDepth 4000

theorem awake10 : law10_awake = some true := by rw [law10_awakeF_eq]; kernel_rfl
theorem plain_self (a : List Tag) (ha : a.length ≤ 1000000) : h_Plain_api_Tag a a = some true := by
  refine T.fin ?_
  unfold h_Plain_api_Tag
  refine T.cal (Q := fun r => r = true) ?_ fun r _ hr => T.some hr
  unfold h_Same_api_Tag
  refine T.brF (by simp) (T.lp (fun (k : Int) => 0 ≤ k ∧ k ≤ a.length) (fun (k : Int) => ((a.length : Int) - k).toNat) ⟨Int.le_refl _, by omega⟩ (by omega) fun L k ⟨k1, k2⟩ hL => ?_)
  refine T.br (fun hb => ?_) fun _ => T.some rfl
  have hb := of_decide_eq_true hb
  refine T.get k1 hb fun x hx => T.eq (getI_at k1 hx) (T.eq (y := true) (by show some (decide (x = x)) = _; rw [decide_eq_true rfl]) (T.brF rfl (T.ck (by omega) (hL _ (by omega) (by omega)))))
def kq (t : Int) : Nat := ((UInt64.ofNat (t % 18446744073709551616).toNat) % (3 : UInt64)).toNat
theorem kq_lt (t : Int) : kq t < 3 := by unfold kq; rw [UInt64.toNat_mod]; exact Nat.mod_lt _ (by decide)
def Kq (kinds : List Int) (i : Nat) : Nat := kq ((kinds[i]?).getD 0)
def μA (marked : Bool) (i : Nat) : GMark := match mkA marked i with | some v => ⟨true, (v : Int), 0⟩ | none => noM
theorem μA_has (marked : Bool) (i : Nat) : (μA marked i).has = true ↔ marked = true ∧ i = 0 := by
  unfold μA mkA
  by_cases h : marked = true ∧ i = 0
  · rw [if_pos h]; exact ⟨fun _ => h, fun _ => rfl⟩
  · rw [if_neg h]; exact ⟨fun e => (by cases e), fun e => absurd e h⟩
def gA (marked : Bool) (K : Nat → Nat) (i : Nat) : Fl × (Nat → List GTyp) := (autF (102 :: dgl i) (mkA marked i) (K i), ttA (K i) (tgA marked i))
def auL (marked : Bool) (K : Nat → Nat) (n : Nat) : List (Fl × (Nat → List GTyp)) := (List.range n).map (gA marked K)
def auT (marked : Bool) (K : Nat → Nat) (n : Nat) : List (List UInt8) := (List.range n).map fun i => autB i (mkA marked i) (K i)
theorem auL_at {marked : Bool} {K : Nat → Nat} {n : Nat} {a b : List (Fl × (Nat → List GTyp))} {p : Fl × (Nat → List GTyp)} (e : auL marked K n = a ++ p :: b) : p = gA marked K a.length ∧ a.length < n := by
  have h1 : (auL marked K n)[a.length]? = some p := by rw [e]; exact get_at _ _ _
  unfold auL at h1
  rw [List.getElem?_map] at h1
  have hl : a.length < n := by
    have := congrArg List.length e
    unfold auL at this
    rw [List.length_map, List.length_range, List.length_append, List.length_cons] at this
    omega
  rw [List.getElem?_range hl] at h1
  exact ⟨(Option.some.inj h1).symm, hl⟩
theorem mkA_lt (marked : Bool) (i v : Nat) (h : mkA marked i = some v) : v < 256 := by
  unfold mkA at h
  split at h
  · cases h; omega
  · cases h
theorem autB_len {i k : Nat} (hi : i < 256) {m : Option Nat} (hm : ∀ v, m = some v → v < 256) : (autB i m k).length ≤ 50 := by
  have h1 := (dgs i hi).len
  have h2 : (kwA k).length ≤ 28 := by
    unfold kwA
    split
    · decide
    · split <;> decide
  unfold autB
  cases m with
  | none => simp only [List.length_cons, List.length_append, List.length_nil]; omega
  | some v =>
    have h3 := (dgs v (hm v rfl)).len
    simp only [List.length_cons, List.length_append, List.length_nil]; omega
def asS (l : List FI) : As := ⟨[83], fldsT 7 l, szI l + 1, fun i => endN (ndI 0 l (i + 1) { zm noM with kind := 7 }) :: nsI l (i + 1), 3⟩
theorem asS_K {l : List FI} (hne : l ≠ []) (hF : okI 2 7 false l) (hs : szI l ≤ 300) (hl : (l.flatMap FI.fls).length ≤ 1000) : AsK (asS l) := by
  have hb := base_fields (.inl rfl) hne hF hs hl
  have hB : Beg 5 (kwF 7) := fun ⟨_, _, _⟩ h1 h2 => by dsimp only at h1 h2; subst h1; subst h2; kernel_rfl
  exact ⟨typ_un hb hB rfl, by show 3 ≤ 17; omega⟩
theorem szA_le (k : Nat) : szA' k ≤ 3 := by unfold szA'; split <;> omega
theorem aut_typ2 (nm : List UInt8) (m : Option Nat) (hm : ∀ v, m = some v → v < 256) (k : Nat) : FldK 2 7 (autF nm m k) := by
  obtain ⟨h, h1, h2⟩ := aut_typ m hm k
  cases m with
  | none => exact fld_plain (h2.mono h1) 7 _
  | some v => exact fld_plain (h2.mono h1) 7 _
theorem auto_made {marked : Bool} {K : Nat → Nat} {n : Nat} (n0 : n ≠ 0) (n10 : n ≤ 10) {s : Str} (hs : s.b = [77, 32, 68, 69, 70, 73, 78, 73, 84, 73, 79, 78, 83, 32, 65, 85, 84, 79, 77, 65, 84, 73, 67, 32, 84, 65, 71, 83, 32, 58, 58, 61, 32, 66, 69, 71, 73, 78, 32, 83, 32, 58, 58, 61, 32, 83, 69, 81, 85, 69, 78, 67, 69, 32, 123, 32] ++ (joinB (auT marked K n) ++ [32, 125, 32, 69, 78, 68])) :
    ∃ m x t, r05_Parse s = some (m, 0, 0) ∧ table_Make m = some (x, 0, 0) ∧ x.types[0]? = some t ∧ x.types.length ≤ 100 ∧ t.fields.length = n ∧ ∀ i, i < n → ∃ f k u, t.fields[i]? = some f ∧ f.ty = ((k : Nat) : Int) ∧ 0 < k ∧ x.types[k]? = some u ∧ u.tags = tagA (K i) (tgA marked i) := by
  have hLl : (auL marked K n).length = n := by unfold auL; rw [List.length_map, List.length_range]
  have hfls : (auL marked K n).map Prod.fst = (List.range n).map fun i => autF (102 :: dgl i) (mkA marked i) (K i) := by unfold auL; rw [List.map_map]; rfl
  have hne : auL marked K n ≠ [] := fun e => n0 (by rw [← hLl, e]; rfl)
  have hKf : ∀ f ∈ (auL marked K n).map Prod.fst, FldK 2 7 f := fun f hf => by
    rw [hfls] at hf
    obtain ⟨i, _, rfl⟩ := List.mem_map.1 hf
    exact aut_typ2 _ _ (mkA_lt marked i) (K i)
  have hszb : ∀ (L : List (Fl × (Nat → List GTyp))), (∀ p ∈ L, p.1.sz ≤ 3) → szL (L.map Prod.fst) ≤ 3 * L.length := fun L => by
    induction L with
    | nil => intro _; exact Nat.le_refl _
    | cons p r ih =>
      intro h
      have h1 := ih fun q hq => h q (List.mem_cons_of_mem _ hq)
      have h2 := h p (List.mem_cons_self ..)
      rw [List.map_cons, szL_cons, List.length_cons]; omega
  have hszL : szL ((auL marked K n).map Prod.fst) ≤ 30 := by
    have := hszb (auL marked K n) fun p hp => by
      unfold auL at hp
      obtain ⟨i, _, rfl⟩ := List.mem_map.1 hp
      exact szA_le _
    omega
  have hpairs : (List.range n).map (fun i => (autB i (mkA marked i) (K i), (autF (102 :: dgl i) (mkA marked i) (K i)).toks)) ≠ [] := fun e => n0 (by have := congrArg List.length e; rw [List.length_map, List.length_range] at this; exact this)
  have h1 : KT [32, 125, 32, 69, 78, 68] [(6, [125]), (5, [69, 78, 68])] := .tok rfl rfl (.tok rfl rfl (.fin rfl))
  have h2 := joinB_KT hpairs (fun p hp => by
    obtain ⟨i, hi, rfl⟩ := List.mem_map.1 hp
    have := List.mem_range.1 hi
    exact aut_lex (by omega) _ (mkA_lt marked i) _) h1
  rw [List.map_map, List.map_map] at h2
  have e : modT [77] 2 [asS (((auL marked K n).map Prod.fst).map FI.one)] = (1, [77]) :: (5, [68, 69, 70, 73, 78, 73, 84, 73, 79, 78, 83]) :: (5, [65, 85, 84, 79, 77, 65, 84, 73, 67]) :: (5, [84, 65, 71, 83]) :: (6, [58, 58, 61]) :: (5, [66, 69, 71, 73, 78]) :: (1, [83]) :: (6, [58, 58, 61]) :: (5, kwF 7) :: (6, [123]) :: (sepK ((List.range n).map (Prod.snd ∘ fun i => (autB i (mkA marked i) (K i), (autF (102 :: dgl i) (mkA marked i) (K i)).toks))) ++ [(6, [125]), (5, [69, 78, 68])]) := by
    have e2 : (((auL marked K n).map Prod.fst).map FI.one).map FI.toks = (List.range n).map (Prod.snd ∘ fun i => (autB i (mkA marked i) (K i), (autF (102 :: dgl i) (mkA marked i) (K i)).toks)) := by rw [hfls, List.map_map, List.map_map]; rfl
    unfold modT asS fldsT As.toks
    simp only [List.flatMap_cons, List.flatMap_nil, List.append_nil, e2]
    simp [tagT]
  have hkt : KT s.b (modT [77] 2 [asS (((auL marked K n).map Prod.fst).map FI.one)]) := by
    rw [e, hs]
    have h2 : KT (joinB (auT marked K n) ++ [32, 125, 32, 69, 78, 68]) _ := h2
    exact .tok rfl rfl (.tok rfl rfl (.tok rfl rfl (.tok rfl rfl (.tok rfl rfl (.tok rfl rfl (.tok rfl rfl (.tok rfl rfl (.tok rfl rfl (.tok rfl rfl (KT.sp h2))))))))))
  have hjl := joinB_len (n := 50) (l := auT marked K n) fun x hx => by
    unfold auT at hx
    obtain ⟨i, hi, rfl⟩ := List.mem_map.1 hx
    have := List.mem_range.1 hi
    exact autB_len (by omega) (mkA_lt marked i)
  have hcl : (auT marked K n).length = n := by unfold auT; rw [List.length_map, List.length_range]
  rw [hcl] at hjl
  have hfne : ((auL marked K n).map Prod.fst).map FI.one ≠ [] := fun e => hne (List.map_eq_nil_iff.1 (List.map_eq_nil_iff.1 e))
  have hszI : szI (((auL marked K n).map Prod.fst).map FI.one) ≤ 30 := by unfold szI; rw [one_fls]; exact hszL
  have hAs := asS_K hfne (ok_ones hKf) (by omega) (by rw [one_fls, List.length_map, hLl]; omega)
  have hp : r05_Parse s = some (modM [77] 2 [asS (((auL marked K n).map Prod.fst).map FI.one)], 0, 0) := parse_mod (g := 2) (by omega) hkt (by
    rw [hs]
    simp only [List.length_append, List.length_cons, List.length_nil]
    omega) (by show 1 ≤ 40; omega) (by show (szI _ + 1) + 0 ≤ 300; omega) (fun x hx => by rw [List.mem_singleton.1 hx]; exact hAs)
  -- the module
  obtain ⟨nd, hnd⟩ : ∃ nd : GNode, nd = ⟨7, ⟨[]⟩, noM, ⟨false, false, false, false, 0, 0⟩, [], glF ((auL marked K n).map Prod.fst) 1, (n : Int), false, 0⟩ := ⟨_, rfl⟩
  have hmod : modM [77] 2 [asS (((auL marked K n).map Prod.fst).map FI.one)] = ⟨⟨[77]⟩, 2, [⟨[83]⟩], [0], [nd] ++ nsF ((auL marked K n).map Prod.fst) [nd].length⟩ := by
    show (⟨⟨[77]⟩, 2, [⟨[83]⟩], [((0 : Nat) : Int)], (endN (ndI 0 (((auL marked K n).map Prod.fst).map FI.one) 1 { zm noM with kind := 7 }) :: nsI (((auL marked K n).map Prod.fst).map FI.one) 1) ++ []⟩ : GMod) = _
    unfold nsI
    rw [one_fls, ndI_gl, List.append_nil, hnd]
    unfold endN zm
    simp only [List.nil_append, Bool.false_eq_true, if_false, glF_len, List.length_map, hLl]
    rfl
  rw [hmod] at hp
  obtain ⟨m, hm⟩ : ∃ m : GMod, m = ⟨⟨[77]⟩, 2, [⟨[83]⟩], [0], [nd] ++ nsF ((auL marked K n).map Prod.fst) [nd].length⟩ := ⟨_, rfl⟩
  rw [← hm] at hp
  have hg : m.tagging = 2 := by rw [hm]
  have hnr : NoRef m := by
    refine ⟨?_, fun z hz => ?_⟩
    · rw [hm]
      dsimp only
      rw [List.length_append, nsF_len hKf, List.length_singleton]; omega
    · rw [hm] at hz
      rcases List.mem_append.1 hz with e | e
      · rw [List.mem_singleton.1 e, hnd]
        refine ⟨by dsimp only; decide, ?_⟩
        dsimp only
        rw [glF_len, List.length_map, hLl]; omega
      · refine nsF_all (P := fun z => z.kind ≠ 11 ∧ z.fields.length ≤ 1000) (fun x hx i z hz => ?_) z e
        rw [hfls] at hx
        obtain ⟨j, _, rfl⟩ := List.mem_map.1 hx
        have hz : z ∈ ndsA (K j) (μA marked j) i := hz
        rw [ndsA_eq] at hz
        rcases List.mem_cons.1 hz with e | e
        · rw [e]; exact hdA_kind _ _ _
        · unfold tlA at e
          split at e
          · cases e
          · rcases List.mem_cons.1 e with e | e
            · rw [e]; exact ⟨by show (2 : Int) ≠ 11; decide, Nat.zero_le _⟩
            · rw [List.mem_singleton.1 e]; exact ⟨by show (4 : Int) ≠ 11; decide, Nat.zero_le _⟩
  -- its nodes
  have hns : ∀ (a : List (Fl × (Nat → List GTyp))) p b, auL marked K n = a ++ p :: b → ∀ j, j < (ndsA (K a.length) (μA marked a.length) (1 + szL (a.map Prod.fst))).length → m.nodes[1 + szL (a.map Prod.fst) + j]? = (ndsA (K a.length) (μA marked a.length) (1 + szL (a.map Prod.fst)))[j]? := fun a p b e1 j hj => by
    obtain ⟨g1, g2⟩ := auL_at e1
    have hx : p.1 ∈ (auL marked K n).map Prod.fst := by rw [e1, List.map_append]; exact List.mem_append_right _ (List.mem_cons_self ..)
    have hl := (hKf _ hx).len (1 + szL (a.map Prod.fst))
    have := nsF_get (pre := [nd]) (fs := (auL marked K n).map Prod.fst) (a := a.map Prod.fst) (x := p.1) (b := b.map Prod.fst) hKf (by rw [e1, List.map_append]; rfl) (j := j) (by rw [← hl, g1]; exact hj)
    rw [g1] at this
    rw [hm]
    exact this
  have hcpk : ∀ (k : Nat) c, (cpL (auL marked K n) 1)[k]? = some c → CpK m 1 (!marked) k c := fun k c hc => by
    obtain ⟨a, p, b, e1, e2, e3⟩ := cpL_get hc
    obtain ⟨g1, g2⟩ := auL_at e1
    have h3 := hns a p b e1
    rw [e3, g1]
    subst e2
    exact A_cp hg (by omega) (i := 1 + szL (a.map Prod.fst)) rfl rfl h3
  have hcsl : ∀ c ∈ cpL (auL marked K n) 1, ∀ i, (c.tt i).length = c.sz := fun c hc i => by
    obtain ⟨k, hk⟩ := List.getElem?_of_mem hc
    exact (hcpk k c hk).len i
  have hnm : ((cpL (auL marked K n) 1).map fun c => c.f.name) = (List.range n).map fun i => (⟨102 :: dgl i⟩ : Str) := by
    refine List.ext_getElem? fun k => ?_
    rw [List.getElem?_map, List.getElem?_map]
    cases hk : (cpL (auL marked K n) 1)[k]? with
    | none =>
      have := List.getElem?_eq_none_iff.1 hk
      rw [cpL_len, hLl] at this
      rw [List.getElem?_eq_none (by rw [List.length_range]; exact this)]; rfl
    | some c =>
      obtain ⟨a, p, b, e1, e2, e3⟩ := cpL_get hk
      obtain ⟨g1, g2⟩ := auL_at e1
      subst e2
      rw [List.getElem?_range g2, e3, g1]; rfl
  have hnd2 : ((cpL (auL marked K n) 1).map fun c => c.f.name).Nodup := by
    rw [hnm]
    unfold List.Nodup
    rw [List.pairwise_map]
    refine List.Pairwise.imp_of_mem (R := fun a b : Nat => a < b) (fun {a b} ha hb hab e => ?_) List.pairwise_lt_range
    have ha := List.mem_range.1 ha
    have hb := List.mem_range.1 hb
    have e : dgl a = dgl b := (List.cons.inj (congrArg Str.b e)).2
    have := dgl_inj (by omega) (by omega) e
    omega
  have hszP : szP (cpL (auL marked K n) 1) ≤ 30 := by rw [cpL_sz]; exact hszL
  have hau : AutIs m nd (!marked) := aut_on hg (by rw [hnd]; dsimp only; rw [glF_len, List.length_map, hLl]; omega) (by
    rw [hnd]
    dsimp only
    rw [← cpL_f]
    constructor
    · intro ⟨f, hf, z, h0, hz, hzm⟩
      obtain ⟨c, hc, rfl⟩ := List.mem_map.1 hf
      obtain ⟨k, hk⟩ := List.getElem?_of_mem hc
      obtain ⟨a, p, b, e1, e2, e3⟩ := cpL_get hk
      obtain ⟨g1, g2⟩ := auL_at e1
      have h3 := hns a p b e1 0 (by rw [ndsA_eq]; exact Nat.zero_lt_succ _)
      rw [e3] at hz
      have hz : m.nodes[1 + szL (a.map Prod.fst)]? = some z := hz
      rw [Nat.add_zero, hz, ndsA_eq] at h3
      have h3 : z = hdA _ _ _ := Option.some.inj h3
      rw [h3, hdA_mark] at hzm
      exact ((μA_has _ _).1 hzm).1
    · intro hmk
      obtain ⟨p, b, e1⟩ : ∃ p b, auL marked K n = p :: b := by
        cases h : auL marked K n with
        | nil => exact absurd h hne
        | cons p b => exact ⟨p, b, rfl⟩
      have h3 := hns [] p b e1 0 (by rw [ndsA_eq]; exact Nat.zero_lt_succ _)
      rw [ndsA_eq] at h3
      exact ⟨p.1.fl 0 1, by rw [e1]; exact List.mem_cons_self .., hdA (K 0) (μA marked 0) 1, Int.natCast_nonneg 1, h3, by rw [hdA_mark]; exact (μA_has _ _).2 ⟨hmk, rfl⟩⟩)
  have hap := apart_seq (l := [] ++ conP nd (flP (cpL (auL marked K n) 1) (([] : List GTyp).length + 1)) :: tsP (cpL (auL marked K n) 1) (([] : List GTyp).length + 1)) (m := m) (t := conP nd (flP (cpL (auL marked K n) 1) (([] : List GTyp).length + 1))) (by show nd.kind = 7; rw [hnd]) (by show (flP _ _).length ≤ 1000; rw [flP_len, cpL_len, hLl]; omega) (by show nd.root = ((flP _ _).length : Nat); rw [flP_len, cpL_len, hLl, hnd]) (by show nd.more = _; rw [hnd]) (fun f hf => by
    obtain ⟨k, hk⟩ := List.getElem?_of_mem (show f ∈ flP (cpL (auL marked K n) 1) 1 from hf)
    obtain ⟨a, c, b, e1, e2, e3⟩ := flP_get hk
    have hck : (cpL (auL marked K n) 1)[k]? = some c := by rw [e1, ← e2]; exact get_at _ _ _
    obtain ⟨a', p, b', f1, f2, f3⟩ := cpL_get hck
    obtain ⟨g1, g2⟩ := auL_at f1
    rw [e3, f3, g1]
    exact ⟨rfl, rfl⟩)
  have hmade := made_conP (m := m) (nd := nd) (h := 1) (cs := cpL (auL marked K n) 1) (auto := !marked) (by rw [hnd]; exact .inl rfl) (by rw [cpL_f, hnd]) hcpk hau (fun _ e => hne (List.eq_nil_of_length_eq_zero (by rw [← cpL_len (i := 1), e]; rfl))) hnd2 (by rw [cpL_len, hLl]; omega) (n := fuel - 1) (d := 0) (l := []) (by unfold fuel; omega) (Int.le_refl _) (by omega) (by show 0 + (szP _ + 1) ≤ 300; omega) hap
  have hMake := make_one (m := m) (s := ⟨[83]⟩) (nd := nd) (by rw [hm]) (by rw [hm]) hnr (i := 0) (by rw [hm]; rfl) (by rw [hnd]; dsimp only; decide) (by rw [hnd]) hmade
  have htl : (tsP (cpL (auL marked K n) 1) 1).length = szP (cpL (auL marked K n) 1) := tsP_len hcsl
  refine ⟨m, _, conP nd (flP (cpL (auL marked K n) 1) 1), hp, hMake, rfl, ?_, by show (flP _ _).length = n; rw [flP_len, cpL_len, hLl], fun i hi => ?_⟩
  · show (conP nd _ :: tsP (cpL (auL marked K n) 1) 1).length ≤ 100
    rw [List.length_cons, htl]; omega
  · obtain ⟨f, hf⟩ : ∃ f, (flP (cpL (auL marked K n) 1) 1)[i]? = some f := ⟨_, List.getElem?_eq_getElem (by rw [flP_len, cpL_len, hLl]; exact hi)⟩
    obtain ⟨a, c, b, e1, e2, e3⟩ := flP_get hf
    have hck : (cpL (auL marked K n) 1)[i]? = some c := by rw [e1, ← e2]; exact get_at _ _ _
    obtain ⟨a', p, b', f1, f2, f3⟩ := cpL_get hck
    obtain ⟨g1, g2⟩ := auL_at f1
    have hsz1 : 0 < c.sz := by rw [f3, g1]; show 0 < szA' _; unfold szA'; split <;> omega
    have hg := tsP_get (l := ([] : List GTyp)) (t := conP nd (flP (cpL (auL marked K n) 1) 1)) hcsl e1 (j := 0) hsz1
    refine ⟨f, 1 + szP a, { hdT (K i) (1 + szP a) with tags := tagA (K i) (tgA marked i) }, hf, by rw [e3], by omega, ?_, rfl⟩
    have e4 : c.tt = ttA (K i) (tgA marked i) := by rw [f3, g1, f2]; rfl
    rw [e4] at hg
    have hg : (conP nd (flP (cpL (auL marked K n) 1) 1) :: tsP (cpL (auL marked K n) 1) 1)[0 + 1 + szP a + 0]? = some { hdT (K i) (0 + 1 + szP a) with tags := tagA (K i) (tgA marked i) } := hg
    rw [Nat.zero_add, Nat.add_zero] at hg
    exact hg
theorem auT_succ (marked : Bool) (K : Nat → Nat) (n : Nat) : auT marked K (n + 1) = auT marked K n ++ [autB n (mkA marked n) (K n)] := by unfold auT; rw [List.range_succ, List.map_append]; rfl
theorem auT_len (marked : Bool) (K : Nat → Nat) (n : Nat) : (auT marked K n).length = n := by unfold auT; rw [List.length_map, List.length_range]
theorem auto_true (kinds : List Int) (marked : Bool) : law10_TableAutomatic kinds marked = some true := by
  refine T.fin ?_
  unfold law10_TableAutomatic
  refine T.jp (fun b => b = false → kinds ≠ [] ∧ kinds.length ≤ 10) (fun J hJ => T.br (fun _ => hJ _ fun e => by cases e) fun h1 => hJ _ fun h2 => ?_) fun b hb => T.br (fun _ => T.eq awake10 (T.some rfl)) fun hb' => ?_
  · have h1 := of_decide_eq_false h1
    have h2 := of_decide_eq_false h2
    exact ⟨fun e => by subst e; exact h1 rfl, by omega⟩
  obtain ⟨hne, h8⟩ := hb hb'
  have ht0 : 0 < kinds.length := List.length_pos_iff.2 hne
  have hlenT : ∀ k, k ≤ 10 → (joinB (auT marked (Kq kinds) k)).length ≤ 52 * k := fun k hk8 => by
    have := joinB_len (n := 50) (l := auT marked (Kq kinds) k) fun x hx => by
      unfold auT at hx
      obtain ⟨i, hi, rfl⟩ := List.mem_map.1 hx
      have := List.mem_range.1 hi
      exact autB_len (by omega) (mkA_lt marked i)
    rw [auT_len] at this
    omega
  have hkw : ∀ y, getI ([(Str.mk [78, 85, 76, 76]), (Str.mk [66, 79, 79, 76, 69, 65, 78]), (Str.mk [67, 72, 79, 73, 67, 69, 32, 123, 32, 120, 32, 73, 78, 84, 69, 71, 69, 82, 44, 32, 121, 32, 78, 85, 76, 76, 32, 125])] : (List Str)) (kq y : Int) = some ⟨kwA (kq y)⟩ := fun y => by
    have h := kq_lt y
    generalize kq y = k at h
    have : k = 0 ∨ k = 1 ∨ k = 2 := by omega
    rcases this with rfl | rfl | rfl <;> rfl
  have hkwl : ∀ k, (kwA k).length ≤ 28 := fun k => by
    unfold kwA
    split
    · decide
    · split <;> decide
  refine T.lp (ι := Str × Int) (fun q => 0 ≤ q.2 ∧ q.2 ≤ kinds.length ∧ q.1.b = joinB (auT marked (Kq kinds) q.2.toNat)) (fun q => ((kinds.length : Int) - q.2).toNat) ⟨Int.le_refl _, by dsimp only; omega, rfl⟩ (by dsimp only; omega) fun L q ⟨q1, q2, q4⟩ hL => ?_
  obtain ⟨tx, i⟩ := q
  dsimp only at q1 q2 q4 hL ⊢
  obtain ⟨k, rfl⟩ : ∃ k : Nat, i = k := ⟨i.toNat, by omega⟩
  rw [Int.toNat_natCast] at q4
  have hk8 : k ≤ 10 := by omega
  have htl := hlenT k hk8
  rw [← q4] at htl
  refine T.br (fun hb => ?_) fun hb => ?_
  · have hb := of_decide_eq_true hb
    obtain ⟨y, hy⟩ : ∃ y, kinds[k]? = some y := ⟨_, List.getElem?_eq_getElem (by omega)⟩
    have hKy : Kq kinds k = kq y := by unfold Kq; rw [hy]; rfl
    have hd1 := dgs k (by omega)
    have hd1l := hd1.len
    have hu64 : ((k : Int) % 18446744073709551616).toNat = k := by omega
    refine T.jp (ι := Str) (fun s => s.b = (if k = 0 then [] else joinB (auT marked (Kq kinds) k) ++ [44, 32])) (fun J2 h2 => T.br (fun h3 => T.abl (by simp only [List.length_cons, List.length_nil]; omega) (h2 _ ?_)) fun h3 => h2 _ ?_) fun s hs => ?_
    · have h3 := of_decide_eq_true h3
      rw [if_neg (by omega)]
      dsimp only
      rw [q4]
    · have h3 := of_decide_eq_false h3
      have h0 : k = 0 := by omega
      subst h0
      rw [if_pos rfl, q4]; rfl
    have hsl : s.b.length ≤ 600 := by
      rw [hs]
      split
      · simp
      · rw [List.length_append, ← q4]; simp only [List.length_cons, List.length_nil]; omega
    have hfin : s.b ++ autB k (mkA marked k) (Kq kinds k) = joinB (auT marked (Kq kinds) (k + 1)) := by
      rw [auT_succ, hs]
      by_cases h0 : k = 0
      · subst h0; rfl
      · rw [if_neg h0, joinB_snoc _ fun e => h0 (by have := congrArg List.length e; rw [auT_len] at this; exact this)]
        simp
    rw [hu64]
    refine T.abl (by simp only [List.length_cons, List.length_nil]; omega) (T.eq hd1.eq (T.abl (by simp only [List.length_append, List.length_cons, List.length_nil]; omega) (T.abl (by simp only [List.length_append, List.length_cons, List.length_nil]; omega) ?_)))
    refine T.jp (fun b => b = true ↔ marked = true ∧ k = 0) (fun J hJ => T.br (fun h3 => hJ _ ?_) fun h3 => hJ _ ?_) fun b hb2 => ?_
    · rw [decide_eq_true_iff]
      exact ⟨fun e => ⟨h3, by omega⟩, fun e => by have := e.2; omega⟩
    · exact ⟨fun e => (by cases e), fun e => absurd e.1 (by rw [h3]; simp)⟩
    refine T.jp (ι := Str) (fun s2 => s2.b = s.b ++ ((102 :: dgl k) ++ (32 :: (match mkA marked k with | some v => 91 :: (dgl v ++ [93, 32]) | none => [])))) (fun J hJ => T.br (fun h3 => T.abl (by simp only [List.length_append, List.length_cons, List.length_nil]; omega) (hJ _ ?_)) fun h3 => hJ _ ?_) fun s2 hs2 => ?_
    · have : mkA marked k = some 30 := by unfold mkA; rw [if_pos (hb2.1 h3)]
      rw [this]
      have e30 : dgl 30 = [51, 48] := by kernel_rfl
      dsimp only
      rw [e30]
      simp
    · have : mkA marked k = none := by
        unfold mkA
        rw [if_neg fun e => by rw [hb2.2 e] at h3; cases h3]
      rw [this]
      simp
    have hs2l : s2.b.length ≤ 700 := by
      rw [hs2]
      have h5 : (match mkA marked k with | some v => 91 :: (dgl v ++ [93, 32]) | none => []).length ≤ 10 := by
        cases hmk : mkA marked k with
        | none => exact Nat.zero_le _
        | some v =>
          have := (dgs v (mkA_lt marked k v hmk)).len
          simp only [List.length_append, List.length_cons, List.length_nil]; omega
      simp only [List.length_append, List.length_cons]
      omega
    refine T.eq (getI_at (Int.natCast_nonneg _) (by rw [Int.toNat_natCast]; exact hy)) (T.asr rfl ?_)
    have hkl := kq_lt y
    show T _ (ck (kq y : Int) <| cal (getI _ (kq y : Int)) _)
    have := hkwl (kq y)
    refine T.ck (by omega) (T.eq (hkw y) (T.abl (by dsimp only; omega) (T.ck (by omega) (hL _ ⟨by dsimp only; omega, by dsimp only; omega, ?_⟩ (by dsimp only; omega)))))
    dsimp only
    rw [show ((k : Int) + 1).toNat = k + 1 by omega, ← hfin, hs2, hKy]
    unfold autB
    cases mkA marked k <;> simp
  have hb := of_decide_eq_false hb
  have hkt : k = kinds.length := by omega
  subst hkt
  obtain ⟨m, x, t, m1, m2, m3, m4, m5, m6⟩ := auto_made (marked := marked) (K := Kq kinds) (n := kinds.length) (by omega) h8 (s := Str.mk ((Str.mk ((Str.mk [77, 32, 68, 69, 70, 73, 78, 73, 84, 73, 79, 78, 83, 32, 65, 85, 84, 79, 77, 65, 84, 73, 67, 32, 84, 65, 71, 83, 32, 58, 58, 61, 32, 66, 69, 71, 73, 78, 32, 83, 32, 58, 58, 61, 32, 83, 69, 81, 85, 69, 78, 67, 69, 32, 123, 32]).b ++ tx.b)).b ++ (Str.mk [32, 125, 32, 69, 78, 68]).b)) (by rw [q4]; simp)
  refine T.abl (by simp only [List.length_cons, List.length_nil]; omega) (T.abl (by simp only [List.length_append, List.length_cons, List.length_nil]; omega) (T.eq m1 (T.eq m2 (T.eq awake10 ?_))))
  have hg0 : getI x.types 0 = some t := getI_at (Int.le_refl _) m3
  have hx0 : 0 < x.types.length := (List.getElem?_eq_some_iff.1 m3).1
  refine T.jp (fun b => b = false) (fun J hJ => T.brF rfl (hJ _ rfl)) fun b hb3 => T.jp (fun b => b = false) (fun J hJ => T.brF hb3 (hJ _ rfl)) fun b hb3 => T.jp (fun b => b = false) (fun J hJ => T.brF hb3 (hJ _ (decide_eq_false (by dsimp only; omega)))) fun b hb3 => T.jp (fun b => b = false) (fun J hJ => T.brF hb3 (T.eq hg0 (hJ _ ?_))) fun b hb3 => T.brF hb3 ?_
  · rw [m5, decide_eq_true rfl]; rfl
  refine T.lp (fun (k : Int) => 0 ≤ k ∧ k ≤ kinds.length) (fun (k : Int) => ((kinds.length : Int) - k).toNat) ⟨Int.le_refl _, by omega⟩ (by omega) fun L2 i ⟨k1, k2⟩ hL2 => ?_
  refine T.br (fun hi => ?_) fun _ => T.some rfl
  have hi := of_decide_eq_true hi
  obtain ⟨i, rfl⟩ : ∃ k : Nat, i = k := ⟨i.toNat, by omega⟩
  obtain ⟨f, k, u, f1, f2, f3, f4, f5⟩ := m6 i (by omega)
  have hkl := (List.getElem?_eq_some_iff.1 f4).1
  obtain ⟨y, hy⟩ : ∃ y, kinds[i]? = some y := ⟨_, List.getElem?_eq_getElem (by omega)⟩
  have hKy : Kq kinds i = kq y := by unfold Kq; rw [hy]; rfl
  rw [hKy] at f5
  have hkq := kq_lt y
  refine T.eq hg0 (T.eq (getI_at (Int.natCast_nonneg _) (by rw [Int.toNat_natCast]; exact f1)) (T.jp (fun b => b = false) (fun J hJ => T.brF (decide_eq_false (by omega)) (hJ _ (decide_eq_false (by dsimp only; omega)))) fun b hb4 => T.brF hb4 ?_))
  refine T.eq (getI_at (Int.natCast_nonneg _) (by rw [Int.toNat_natCast]; exact hy)) (T.asr rfl ?_)
  show T _ (ck (kq y : Int) _)
  refine T.ck (by omega) ?_
  refine T.jp (ι := List Tag) (fun l => l = tagA (kq y) none) (fun J hJ => ?_) fun l hl => ?_
  · show T _ (br (decide ((kq y : Int) < 2)) (cal (getI _ (kq y : Int)) _) _)
    generalize kq y = k3 at hkq hJ
    have : k3 = 0 ∨ k3 = 1 ∨ k3 = 2 := by omega
    rcases this with rfl | rfl | rfl
    · exact T.brT rfl (T.eq (y := 4) rfl (T.eq (y := ⟨0, 5⟩) (by kernel_rfl) (hJ _ rfl)))
    · exact T.brT rfl (T.eq (y := 1) rfl (T.eq (y := ⟨0, 1⟩) (by kernel_rfl) (hJ _ rfl)))
    · exact T.brF rfl (hJ _ rfl)
  subst hl
  have htgl : (tagA (kq y) none).length ≤ 1 := by unfold tagA; dsimp only; split <;> simp
  refine T.jp (fun b => b = true ↔ (marked = false ∨ i = 0)) (fun J hJ => T.br (fun h3 => hJ _ ⟨fun _ => .inl (by simpa using h3), fun _ => rfl⟩) fun h3 => hJ _ ?_) fun b hb5 => ?_
  · have h3 : marked = true := by simpa using h3
    rw [decide_eq_true_iff, h3]
    exact ⟨fun e => .inr (by omega), fun e => e.elim (fun e => by cases e) fun e => by omega⟩
  refine T.jp (ι := List Tag) (fun l => l = tagA (kq y) (tgA marked i)) (fun J hJ => T.br (fun h3 => ?_) fun h3 => hJ _ ?_) fun l hl => ?_
  · refine T.jp (ι := Int) (fun v => tgA marked i = some v) (fun J2 h2 => T.br (fun h4 => h2 _ ?_) fun h4 => h2 _ ?_) fun v hv => ?_
    · have h4 : marked = true := h4
      have hi0 : i = 0 := (hb5.1 h3).resolve_left (by rw [h4]; simp)
      unfold tgA
      rw [if_neg (by rw [h4]; simp), if_pos hi0]
    · have h4 : marked = false := h4
      unfold tgA
      rw [if_pos h4]
    refine T.jp (ι := List Tag) (fun l => l = []) (fun J2 h2 => ?_) fun l hl => ?_
    · show T _ (br (decide ((kq y : Int) < 2)) _ _)
      refine T.br (fun h4 => ?_) fun h4 => h2 _ ?_
      · have h4 := of_decide_eq_true h4
        have e : tagA (kq y) none = [⟨0, uA (kq y)⟩] := by unfold tagA; dsimp only; rw [if_pos (by omega)]
        rw [e]
        exact T.asr rfl (h2 _ rfl)
      · have h4 := of_decide_eq_false h4
        unfold tagA; dsimp only; rw [if_neg (by omega)]
    subst hl
    refine T.asr rfl (hJ _ ?_)
    rw [hv]; rfl
  · have h5 : ¬ (marked = false ∨ i = 0) := fun e => by rw [hb5.2 e] at h3; cases h3
    unfold tgA
    rw [if_neg fun e => h5 (.inl e), if_neg fun e => h5 (.inr e)]
  subst hl
  have hg : getI x.types f.ty = some u := getI_at (by omega) (by rw [f2, Int.toNat_natCast]; exact f4)
  refine T.eq hg ?_
  rw [f5]
  refine T.eq (plain_self _ ?_) (T.brF rfl (T.ck (by omega) (hL2 _ (by omega) (by omega))))
  unfold tagA
  split
  · simp
  · split <;> simp
end Go.Proofs.YtiibmpdjkdjbiaaGreatDoor

