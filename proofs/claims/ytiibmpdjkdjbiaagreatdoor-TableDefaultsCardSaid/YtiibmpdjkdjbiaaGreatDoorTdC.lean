/- TableDefaults: whatever its arguments are, the law's model answers true. No condition but that three of them are numbers of 64 bits. -/
import Derived.Test.YtiibmpdjkdjbiaaGreatDoorTdA
import Derived.Test.YtiibmpdjkdjbiaaGreatDoorTdB
import Derived.KernelRfl
set_option linter.unusedVariables false
set_option linter.unusedSimpArgs false

namespace Go.Proofs.YtiibmpdjkdjbiaaGreatDoor
open Go.Sy
set_option linter.unusedVariables false

/-! ### Signs -/
def isPre : List UInt8 → List UInt8 → Bool
  | [], _ => true
  | _ :: _, [] => false
  | p :: ps, c :: r => bif decide (p = c) then isPre ps r else false
def sgF : List (List UInt8) → List UInt8 → Nat
  | [], _ => 0
  | p :: ps, b => bif isPre p b then p.length else sgF ps b
def sgs : List (List UInt8) := [[58, 58, 61], [46, 46, 46], [46, 46], [91, 91], [93, 93], [123], [125], [91], [93], [40], [41], [44], [58]]
def sg (b : List UInt8) : Nat := sgF sgs b
theorem isPre_iff : ∀ (p b : List UInt8), isPre p b = true ↔ p.length ≤ b.length ∧ b.take p.length = p
  | [], b => by simp [isPre]
  | _ :: _, [] => by simp [isPre]
  | p :: ps, c :: r => by
    have ih := isPre_iff ps r
    unfold isPre
    by_cases h : p = c
    · subst h; simp [ih]
    · simp only [decide_eq_false h, cond_false, List.length_cons, List.take_succ_cons, List.cons.injEq]
      exact ⟨(fun h => by cases h), fun h2 => absurd h2.2.1.symm h⟩
theorem sgs_get {k : Nat} {y : Str} (h : ([(Str.mk [58, 58, 61]), (Str.mk [46, 46, 46]), (Str.mk [46, 46]), (Str.mk [91, 91]), (Str.mk [93, 93]), (Str.mk [123]), (Str.mk [125]), (Str.mk [91]), (Str.mk [93]), (Str.mk [40]), (Str.mk [41]), (Str.mk [44]), (Str.mk [58])] : List Str)[k]? = some y) : sgs.drop k = y.b :: sgs.drop (k + 1) := by
  have e : ([(Str.mk [58, 58, 61]), (Str.mk [46, 46, 46]), (Str.mk [46, 46]), (Str.mk [91, 91]), (Str.mk [93, 93]), (Str.mk [123]), (Str.mk [125]), (Str.mk [91]), (Str.mk [93]), (Str.mk [40]), (Str.mk [41]), (Str.mk [44]), (Str.mk [58])] : List Str) = sgs.map Str.mk := rfl
  rw [e, List.getElem?_map] at h
  obtain ⟨z, h1, h2⟩ := Option.map_eq_some_iff.1 h
  subst h2
  obtain ⟨h3, h4⟩ := List.getElem?_eq_some_iff.1 h1
  rw [List.drop_eq_getElem_cons h3, h4]
theorem sign_eq (s : Str) (i : Int) (h0 : 0 ≤ i) (h1 : i < s.b.length) (hl : s.b.length ≤ 1000000) : r04_sign s i = some ((sg (s.b.drop i.toNat) : Nat) : Int) := by
  refine tx ?_
  unfold r04_sign
  refine T.asd (by omega) (T.lp (fun (k : Int) => 0 ≤ k ∧ k ≤ 13 ∧ sgF (sgs.drop k.toNat) (s.b.drop i.toNat) = sg (s.b.drop i.toNat)) (fun (k : Int) => (13 - k).toNat) ⟨Int.le_refl _, by omega, rfl⟩ (by omega) fun L k ⟨k1, k2, k3⟩ hL => ?_)
  have er : (s.b.take ((s.b.length : Int)).toNat).drop i.toNat = s.b.drop i.toNat := by rw [List.take_of_length_le (by omega)]
  refine T.br (fun h2 => ?_) fun h2 => T.some ?_
  rotate_left
  · have h2 : ¬ k < 13 := of_decide_eq_false h2
    have : k = 13 := by omega
    subst this
    rw [← k3]; rfl
  have h2 := of_decide_eq_true h2
  refine T.get k1 h2 fun y hy => ?_
  have hs := sgs_get hy
  rw [hs] at k3
  unfold sgF at k3
  rw [er]
  refine T.jp (fun b => b = isPre y.b (s.b.drop i.toNat)) (fun J h => T.br (fun h3 => ?_) fun h3 => h _ ?_) fun b hb => ?_
  · have h3 := of_decide_eq_true h3
    refine T.asd ⟨Int.le_refl _, by omega, h3⟩ (T.get k1 h2 fun y2 hy2 => h _ ?_)
    rw [hy] at hy2; cases hy2
    have h4 : y.b.length ≤ (s.b.drop i.toNat).length := by simp only [List.length_drop] at h3 ⊢; omega
    rw [Bool.eq_iff_iff, decide_eq_true_eq, isPre_iff]
    constructor
    · intro h5
      refine ⟨h4, ?_⟩
      have := congrArg Str.b h5
      simpa using this
    · intro h5
      obtain ⟨yb⟩ := y
      simp only [Str.mk.injEq]
      simpa using h5.2
  · have h3 := of_decide_eq_false h3
    symm
    rw [Bool.eq_false_iff]
    intro h5
    have := (isPre_iff _ _).1 h5
    simp only [List.length_drop] at h3 this
    omega
  · rw [hb]
    refine T.br (fun h3 => T.some ?_) fun h3 => T.ck (by have h2 : k < 13 := h2; omega) (hL _ ⟨by omega, by have h2 : k < 13 := h2; omega, ?_⟩ (by have h2 : k < 13 := h2; omega))
    · rw [h3, cond_true] at k3; rw [← k3]
    · rw [h3, cond_false] at k3
      have e : (k + 1).toNat = k.toNat + 1 := by omega
      rw [e, k3]

/-! ### Words -/
def wordsL : List Str := [(Str.mk [68, 69, 70, 73, 78, 73, 84, 73, 79, 78, 83]), (Str.mk [69, 88, 80, 76, 73, 67, 73, 84]), (Str.mk [73, 77, 80, 76, 73, 67, 73, 84]), (Str.mk [65, 85, 84, 79, 77, 65, 84, 73, 67]), (Str.mk [84, 65, 71, 83]), (Str.mk [66, 69, 71, 73, 78]), (Str.mk [69, 78, 68]), (Str.mk [66, 79, 79, 76, 69, 65, 78]), (Str.mk [73, 78, 84, 69, 71, 69, 82]), (Str.mk [69, 78, 85, 77, 69, 82, 65, 84, 69, 68]), (Str.mk [78, 85, 76, 76]), (Str.mk [79, 67, 84, 69, 84]), (Str.mk [83, 84, 82, 73, 78, 71]), (Str.mk [85, 84, 70, 56, 83, 116, 114, 105, 110, 103]), (Str.mk [83, 69, 81, 85, 69, 78, 67, 69]), (Str.mk [83, 69, 84]), (Str.mk [67, 72, 79, 73, 67, 69]), (Str.mk [79, 70]), (Str.mk [79, 80, 84, 73, 79, 78, 65, 76]), (Str.mk [68, 69, 70, 65, 85, 76, 84]), (Str.mk [83, 73, 90, 69]), (Str.mk [77, 73, 78]), (Str.mk [77, 65, 88]), (Str.mk [84, 82, 85, 69]), (Str.mk [70, 65, 76, 83, 69])]
def sameB : List UInt8 → List UInt8 → Bool
  | [], [] => true
  | a :: r, b :: t => bif decide (a = b) then sameB r t else false
  | _, _ => false
theorem sameB_iff : ∀ a b : List UInt8, sameB a b = true ↔ a = b
  | [], [] => by simp [sameB]
  | [], _ :: _ => by simp [sameB]
  | _ :: _, [] => by simp [sameB]
  | a :: r, b :: t => by
    have ih := sameB_iff r t
    unfold sameB
    by_cases h : a = b
    · subst h; simp [ih]
    · simp [h]
def isWord (t : List UInt8) : Bool := wordsL.any fun w => sameB w.b t
theorem word_eq (s : Str) : r04_Word s = some (isWord s.b) := by
  refine tx ?_
  unfold r04_Word
  refine T.eq (y := wordsL) rfl (T.cal (in_string_tot wordsL s (by decide)) fun y _ hy => T.some ?_)
  rw [hy, Bool.eq_iff_iff, decide_eq_true_eq]
  unfold isWord
  rw [List.any_eq_true]
  constructor
  · intro h; exact ⟨s, h, (sameB_iff _ _).2 rfl⟩
  · rintro ⟨w, h1, h2⟩
    have := (sameB_iff _ _).1 h2
    obtain ⟨wb⟩ := w; obtain ⟨sb⟩ := s
    simp only at this; subst this; exact h1

/-! ### One sign, all signs -/
/-- The kind and the text of what comes first, and what is left behind it. -/
def oneS (b : List UInt8) : Option (Int × List UInt8 × List UInt8) :=
  let c := hd b
  bif isLetter c then bif nmBad b then none else some (bif isWord (b.take (nm b)) then 5 else bif decide (c ≤ 90) then 1 else 2, b.take (nm b), b.drop (nm b))
  else bif isDigit c || (decide (c = 45) && isDigit (hd (b.drop 1))) then match numLen b with
    | none => none
    | some n => some (3, b.take n, b.drop n)
  else bif decide (c = 39) then bif hexBad (b.drop 1) then none else some (4, (b.drop 1).take (hx (b.drop 1)), (b.drop 1).drop (hx (b.drop 1) + 2))
  else bif decide (c = 34) then match qd false (b.drop 1) [] with
    | none => none
    | some (t, r) => some (7, t, r)
  else bif decide (0 < sg b) then some (6, b.take (sg b), b.drop (sg b)) else none
theorem qd_len : ∀ (b : List UInt8) (f : Bool) (acc t r : List UInt8), qd f b acc = some (t, r) → r.length < b.length
  | [], f, acc, t, r, h => by cases f <;> simp [qd] at h
  | c :: b, true, acc, t, r, h => by
    simp only [qd] at h
    have := qd_len b _ _ _ _ h
    simp; omega
  | c :: b, false, acc, t, r, h => by
    simp only [qd] at h
    by_cases h1 : c = 34
    · simp only [decide_eq_true h1, cond_true] at h
      by_cases h2 : hd b = 34
      · simp only [decide_eq_true h2, cond_true] at h
        have := qd_len b _ _ _ _ h
        simp; omega
      · simp only [decide_eq_false h2, cond_false] at h
        cases hv : Lib.validD acc with
        | true => rw [hv] at h; simp at h; rw [← h.2]; simp
        | false => rw [hv] at h; cases h
    · simp only [decide_eq_false h1, cond_false] at h
      have := qd_len b _ _ _ _ h
      simp; omega
theorem numLen_bd {b : List UInt8} {n : Nat} (h : numLen b = some n) : 0 < n ∧ n ≤ b.length := by
  unfold numLen at h
  by_cases h1 : hd b = 45
  · simp only [decide_eq_true h1, cond_true] at h
    cases hb : numBad true (b.drop 1) with
    | true => rw [hb] at h; cases h
    | false =>
      rw [hb] at h; simp only [cond_false, Option.some.injEq] at h
      have := dg_le (b.drop 1)
      rw [List.length_drop] at this
      have : b ≠ [] := fun e => by rw [e] at h1; cases h1
      have := List.length_pos_iff.2 this
      omega
  · simp only [decide_eq_false h1, cond_false] at h
    cases hb : numBad false b with
    | true => rw [hb] at h; cases h
    | false =>
      rw [hb] at h; simp at h
      have := dg_le b
      have : decide (dg b < 1) = false := by
        unfold numBad at hb
        simp only [Bool.or_eq_false_iff] at hb
        exact hb.1.1.1.1.1.1
      have := of_decide_eq_false this
      omega
theorem nm_pos {b : List UInt8} (h : isLetter (hd b) = true) : 0 < nm b := by
  cases b with
  | nil => simp [hd, isLetter] at h
  | cons c r =>
    rw [nm_cons]
    simp only [hd] at h
    unfold inName
    rw [h]; simp
theorem sg_le : ∀ (l : List (List UInt8)) (b : List UInt8), sgF l b ≤ b.length
  | [], b => Nat.zero_le _
  | p :: ps, b => by
    unfold sgF
    cases h : isPre p b with
    | true => exact ((isPre_iff _ _).1 h).1
    | false => exact sg_le ps b
theorem oneS_len {b t r : List UInt8} {k : Int} (h : oneS b = some (k, t, r)) : r.length < b.length := by
  unfold oneS at h
  simp only at h
  cases h1 : isLetter (hd b) with
  | true =>
    rw [h1, cond_true] at h
    cases h2 : nmBad b with
    | true => rw [h2] at h; cases h
    | false =>
      rw [h2] at h
      simp only [cond_false, Option.some.injEq, Prod.mk.injEq] at h
      rw [← h.2.2, List.length_drop]
      have := nm_pos h1
      have := nm_le b
      omega
  | false =>
    rw [h1, cond_false] at h
    cases h2 : isDigit (hd b) || (decide (hd b = 45) && isDigit (hd (b.drop 1))) with
    | true =>
      rw [h2, cond_true] at h
      cases h3 : numLen b with
      | none => rw [h3] at h; cases h
      | some n =>
        rw [h3] at h
        simp only [Option.some.injEq, Prod.mk.injEq] at h
        have := numLen_bd h3
        rw [← h.2.2, List.length_drop]; omega
    | false =>
      rw [h2, cond_false] at h
      by_cases h3 : hd b = 39
      · rw [decide_eq_true h3, cond_true] at h
        cases h4 : hexBad (b.drop 1) with
        | true => rw [h4] at h; cases h
        | false =>
          rw [h4] at h
          simp only [cond_false, Option.some.injEq, Prod.mk.injEq] at h
          have : b ≠ [] := fun e => by rw [e] at h3; cases h3
          have := List.length_pos_iff.2 this
          rw [← h.2.2, List.length_drop, List.length_drop]; omega
      · rw [decide_eq_false h3, cond_false] at h
        by_cases h4 : hd b = 34
        · rw [decide_eq_true h4, cond_true] at h
          cases h5 : qd false (b.drop 1) [] with
          | none => rw [h5] at h; cases h
          | some q =>
            rw [h5] at h
            obtain ⟨t', r'⟩ := q
            simp only [Option.some.injEq, Prod.mk.injEq] at h
            have := qd_len _ _ _ _ _ h5
            rw [List.length_drop] at this
            rw [← h.2.2]; omega
        · rw [decide_eq_false h4, cond_false] at h
          by_cases h5 : 0 < sg b
          · rw [decide_eq_true h5, cond_true] at h
            simp only [Option.some.injEq, Prod.mk.injEq] at h
            have := sg_le sgs b
            have e : sgF sgs b = sg b := rfl
            rw [← h.2.2, List.length_drop]; omega
          · rw [decide_eq_false h5] at h; cases h
theorem one_eq (s : Str) (i : Int) (h0 : 0 ≤ i) (h1 : i < s.b.length) (hl : s.b.length ≤ 1000000) :
    T (fun (q : GTok × Int) => match oneS (s.b.drop i.toNat) with
      | none => q.2 < 0
      | some (k, t, r) => q = (⟨k, ⟨t⟩, i⟩, (s.b.length : Int) - (r.length : Int))) (r04_one s i) := by
  unfold r04_one
  refine T.get h0 h1 fun y hy => ?_
  have ed := dropc hy
  have hy0 : hd (s.b.drop i.toNat) = y := by rw [ed]; rfl
  have ed1 : (s.b.drop i.toNat).drop 1 = s.b.drop (i.toNat + 1) := by rw [List.drop_drop]
  have elen : (s.b.drop i.toNat).length = s.b.length - i.toNat := List.length_drop
  have etake : ∀ (n : Nat), (s.b.take (i + (n : Int)).toNat).drop i.toNat = (s.b.drop i.toNat).take n := fun n => by
    rw [seg]; congr 1; omega
  have erest : ∀ (n : Nat), n ≤ (s.b.drop i.toNat).length → i + (n : Int) = (s.b.length : Int) - (((s.b.drop i.toNat).drop n).length : Int) := fun n hn => by
    rw [List.length_drop, elen]; rw [elen] at hn; omega
  refine T.jp (ι := Int × GTok) (fun (q : Int × GTok) => match oneS (s.b.drop i.toNat) with
      | none => q.1 < 0
      | some (k, t, r) => (q.2, q.1) = (⟨k, ⟨t⟩, i⟩, (s.b.length : Int) - (r.length : Int))) (fun J h => ?_) fun q hq => T.some hq
  unfold oneS at h ⊢
  simp only [hy0] at h ⊢
  refine T.eq (letter_eq y) (T.br (fun hle => ?_) fun hle => T.eq (digit_eq y) ?_)
  · rw [hle, cond_true] at h ⊢
    have hcl : isLetter (hd (s.b.drop i.toNat)) = true := by rw [hy0]; exact hle
    refine T.eq (name_eq s i h0 h1 hl hcl) ?_
    cases hb : nmBad (s.b.drop i.toNat) with
    | true =>
      rw [hb, cond_true] at h
      simp only [cond_true] at h ⊢
      exact T.br (fun _ => T.some (by dsimp only; omega)) fun hn => by have := of_decide_eq_false hn; omega
    | false =>
      rw [hb, cond_false] at h
      simp only [cond_false] at h ⊢
      have hnl := nm_le (s.b.drop i.toNat)
      rw [elen] at hnl
      refine T.br (fun hn => by have := of_decide_eq_true hn; omega) fun _ => T.asd (by omega) ?_
      rw [etake]
      refine T.jp (ι := GTok) (fun t => t = ⟨bif decide (y ≤ 90) then 1 else 2, ⟨(s.b.drop i.toNat).take (nm (s.b.drop i.toNat))⟩, i⟩) (fun J2 h2 => T.br (fun h3 => h2 _ (by rw [h3]; rfl)) fun h3 => h2 _ (by rw [h3]; rfl)) fun t ht => ?_
      subst ht
      refine T.eq (word_eq _) (T.br (fun h3 => h _ ?_) fun h3 => h _ ?_)
      · dsimp only at h3 ⊢; rw [h3, ← erest _ (nm_le _)]; rfl
      · dsimp only at h3 ⊢; rw [h3, ← erest _ (nm_le _)]; rfl
  · rw [hle, cond_false] at h ⊢
    refine T.jp (fun b => b = (isDigit y || (decide (y = 45) && isDigit (hd ((s.b.drop i.toNat).drop 1))))) (fun J2 h2 => T.br (fun h3 => h2 _ (by rw [h3]; rfl)) fun h3 => ?_) fun b hb => ?_
    · refine T.jp (fun b => b = (decide (y = 45) && isDigit (hd ((s.b.drop i.toNat).drop 1)))) (fun J3 h4 => T.br (fun h5 => T.ck (by omega) (T.eq (at_eq s (i + 1) (by omega)) (T.eq (digit_eq _) (h4 _ ?_)))) fun h5 => h4 _ (by rw [h5]; rfl)) fun b hb => h2 _ (by rw [h3, hb]; rfl)
      rw [h5, ed1, show (i + 1).toNat = i.toNat + 1 by omega]; rfl
    rw [← hb] at h ⊢
    refine T.br (fun h3 => T.eq (number_eq s i h0 h1 hl) ?_) fun h3 => ?_
    · rw [h3, cond_true] at h ⊢
      cases hn : numLen (s.b.drop i.toNat) with
      | none =>
        simp only [hn] at h ⊢
        exact T.br (fun _ => T.some (by dsimp only; omega)) fun hn => by have := of_decide_eq_false hn; omega
      | some n =>
        simp only [hn] at h ⊢
        have hbd := numLen_bd hn
        have hbd2 := hbd.2
        rw [elen] at hbd2
        refine T.br (fun hn => by have := of_decide_eq_true hn; omega) fun _ => T.asd (by omega) (h _ ?_)
        rw [etake, ← erest n hbd.2]
    · rw [h3, cond_false] at h ⊢
      refine T.br (fun h4 => T.eq (hex_eq s i h0 h1 hl) (h _ ?_)) fun h4 => ?_
      · rw [h4, cond_true, ed1]
        cases hb : hexBad (s.b.drop (i.toNat + 1)) with
        | true => simp only [cond_true]; omega
        | false =>
          simp only [cond_false]
          have h5 : hx (s.b.drop (i.toNat + 1)) + 1 < (s.b.drop (i.toNat + 1)).length := by
            unfold hexBad at hb
            have := (Bool.or_eq_false_iff.1 hb).2
            have h72 : hd ((s.b.drop (i.toNat + 1)).drop (hx (s.b.drop (i.toNat + 1)) + 1)) = 72 := by simpa using this
            exact hd_lt (by rw [h72]; decide)
          rw [List.length_drop] at h5
          rw [List.length_drop, List.length_drop]
          have e : i + 1 + (hx (s.b.drop (i.toNat + 1)) : Int) + 2 = (s.b.length : Int) - ((s.b.length - (i.toNat + 1) - (hx (s.b.drop (i.toNat + 1)) + 2) : Nat) : Int) := by omega
          rw [e]
      · rw [h4, cond_false] at h ⊢
        refine T.br (fun h5 => T.eq (quoted_eq s i h0 h1 hl) (h _ ?_)) fun h5 => ?_
        · rw [h5, cond_true, ed1]
          cases hq : qd false (s.b.drop (i.toNat + 1)) [] with
          | none => simp only; omega
          | some q => rfl
        · rw [h5, cond_false] at h ⊢
          refine T.eq (sign_eq s i h0 h1 hl) (T.br (fun h6 => ?_) fun h6 => h _ ?_)
          · have h6 := of_decide_eq_true h6
            have hsl := sg_le sgs (s.b.drop i.toNat)
            have esg : sgF sgs (s.b.drop i.toNat) = sg (s.b.drop i.toNat) := rfl
            have hpos : 0 < sg (s.b.drop i.toNat) := by omega
            have hsl2 := hsl
            rw [elen] at hsl2
            refine T.ck (by omega) (T.asd (by omega) (T.ck (by omega) (h _ ?_)))
            rw [decide_eq_true hpos, cond_true]
            dsimp only
            rw [etake, ← erest (sg (s.b.drop i.toNat)) hsl]
          · have h6 := of_decide_eq_false h6
            rw [decide_eq_false (show ¬ 0 < sg (s.b.drop i.toNat) by omega)]
            simp only [cond_false]; omega

def toksF (n : Nat) : Nat → List UInt8 → List GTok → List GTok × Int × Int
  | 0, _, _ => ([], 0, 0)
  | f + 1, b, acc => match wh .out b with
    | [] => (acc ++ [⟨0, ⟨[]⟩, (n : Int)⟩], 0, 0)
    | c :: r => match oneS (c :: r) with
      | none => ([], (n : Int) - ((c :: r).length : Int), 6)
      | some (k, t, r') => toksF n f r' (acc ++ [⟨k, ⟨t⟩, (n : Int) - ((c :: r).length : Int)⟩])
theorem toksF_succ (n f : Nat) (b : List UInt8) (acc : List GTok) : toksF n (f + 1) b acc = match wh .out b with
    | [] => (acc ++ [⟨0, ⟨[]⟩, (n : Int)⟩], 0, 0)
    | c :: r => match oneS (c :: r) with
      | none => ([], (n : Int) - ((c :: r).length : Int), 6)
      | some (k, t, r') => toksF n f r' (acc ++ [⟨k, ⟨t⟩, (n : Int) - ((c :: r).length : Int)⟩]) := rfl
def toks (b : List UInt8) : List GTok × Int × Int := bif decide (8000 < b.length) then ([], 0, 5) else toksF b.length (b.length + 1) b []
theorem wh_len : ∀ (b : List UInt8) (st : Wst), (wh st b).length ≤ b.length
  | [], st => by cases st <;> simp [wh]
  | c :: r, .out => by
    have h1 := wh_len r .out
    have h2 := wh_len r .start
    simp only [wh]
    cases isWh c <;> simp only [cond_true, cond_false]
    · cases decide (c = 45) && decide (hd r = 45) <;> simp only [cond_true, cond_false, List.length_cons] <;> omega
    · simp only [List.length_cons]; omega
  | c :: r, .start => by have := wh_len r .ins; simp only [wh, List.length_cons]; omega
  | c :: r, .ins => by
    have h1 := wh_len r .out
    have h2 := wh_len r .fin
    have h3 := wh_len r .ins
    simp only [wh, List.length_cons]
    cases decide (c = 10) <;> simp only [cond_true, cond_false]
    · cases decide (c = 45) && decide (hd r = 45) <;> simp only [cond_true, cond_false] <;> omega
    · omega
  | c :: r, .fin => by have := wh_len r .out; simp only [wh, List.length_cons]; omega
theorem wh_suf : ∀ (b : List UInt8) (st : Wst), ∃ n, wh st b = b.drop n
  | [], st => ⟨0, by cases st <;> simp [wh]⟩
  | c :: r, .out => by
    obtain ⟨n1, h1⟩ := wh_suf r .out
    obtain ⟨n2, h2⟩ := wh_suf r .start
    simp only [wh]
    cases isWh c <;> simp only [cond_true, cond_false]
    · cases decide (c = 45) && decide (hd r = 45) <;> simp only [cond_true, cond_false]
      · exact ⟨0, rfl⟩
      · exact ⟨n2 + 1, h2⟩
    · exact ⟨n1 + 1, h1⟩
  | c :: r, .start => by obtain ⟨n, h⟩ := wh_suf r .ins; exact ⟨n + 1, h⟩
  | c :: r, .ins => by
    obtain ⟨n1, h1⟩ := wh_suf r .out
    obtain ⟨n2, h2⟩ := wh_suf r .fin
    obtain ⟨n3, h3⟩ := wh_suf r .ins
    simp only [wh]
    cases decide (c = 10) <;> simp only [cond_true, cond_false]
    · cases decide (c = 45) && decide (hd r = 45) <;> simp only [cond_true, cond_false]
      · exact ⟨n3 + 1, h3⟩
      · exact ⟨n2 + 1, h2⟩
    · exact ⟨n1 + 1, h1⟩
  | c :: r, .fin => by obtain ⟨n, h⟩ := wh_suf r .out; exact ⟨n + 1, h⟩
theorem qd_suf : ∀ (b : List UInt8) (f : Bool) (acc t r : List UInt8), qd f b acc = some (t, r) → ∃ n, r = b.drop n
  | [], f, acc, t, r, h => by cases f <;> simp [qd] at h
  | c :: b, true, acc, t, r, h => by
    simp only [qd] at h
    obtain ⟨n, e⟩ := qd_suf b _ _ _ _ h
    exact ⟨n + 1, e⟩
  | c :: b, false, acc, t, r, h => by
    simp only [qd] at h
    by_cases h1 : c = 34
    · simp only [decide_eq_true h1, cond_true] at h
      by_cases h2 : hd b = 34
      · simp only [decide_eq_true h2, cond_true] at h
        obtain ⟨n, e⟩ := qd_suf b _ _ _ _ h
        exact ⟨n + 1, e⟩
      · simp only [decide_eq_false h2, cond_false] at h
        cases hv : Lib.validD acc with
        | true => rw [hv] at h; simp at h; exact ⟨1, h.2.symm⟩
        | false => rw [hv] at h; cases h
    · simp only [decide_eq_false h1, cond_false] at h
      obtain ⟨n, e⟩ := qd_suf b _ _ _ _ h
      exact ⟨n + 1, e⟩
theorem oneS_suf {b t r : List UInt8} {k : Int} (h : oneS b = some (k, t, r)) : ∃ n, r = b.drop n := by
  unfold oneS at h
  simp only at h
  cases h1 : isLetter (hd b) with
  | true =>
    rw [h1, cond_true] at h
    cases h2 : nmBad b with
    | true => rw [h2] at h; cases h
    | false =>
      rw [h2] at h
      simp only [cond_false, Option.some.injEq, Prod.mk.injEq] at h
      exact ⟨_, h.2.2.symm⟩
  | false =>
    rw [h1, cond_false] at h
    cases h2 : isDigit (hd b) || (decide (hd b = 45) && isDigit (hd (b.drop 1))) with
    | true =>
      rw [h2, cond_true] at h
      cases h3 : numLen b with
      | none => rw [h3] at h; cases h
      | some n =>
        rw [h3] at h
        simp only [Option.some.injEq, Prod.mk.injEq] at h
        exact ⟨_, h.2.2.symm⟩
    | false =>
      rw [h2, cond_false] at h
      by_cases h3 : hd b = 39
      · rw [decide_eq_true h3, cond_true] at h
        cases h4 : hexBad (b.drop 1) with
        | true => rw [h4] at h; cases h
        | false =>
          rw [h4] at h
          simp only [cond_false, Option.some.injEq, Prod.mk.injEq, List.drop_drop] at h
          exact ⟨_, h.2.2.symm⟩
      · rw [decide_eq_false h3, cond_false] at h
        by_cases h4 : hd b = 34
        · rw [decide_eq_true h4, cond_true] at h
          cases h5 : qd false (b.drop 1) [] with
          | none => rw [h5] at h; cases h
          | some q =>
            rw [h5] at h
            obtain ⟨t', r'⟩ := q
            simp only [Option.some.injEq, Prod.mk.injEq] at h
            obtain ⟨n, e⟩ := qd_suf _ _ _ _ _ h5
            rw [List.drop_drop] at e
            exact ⟨_, h.2.2.symm.trans e⟩
        · rw [decide_eq_false h4, cond_false] at h
          by_cases h5 : 0 < sg b
          · rw [decide_eq_true h5, cond_true] at h
            simp only [Option.some.injEq, Prod.mk.injEq] at h
            exact ⟨_, h.2.2.symm⟩
          · rw [decide_eq_false h5] at h; cases h
theorem suf_drop {b r : List UInt8} {n : Nat} (h : r = b.drop n) : b.drop (b.length - r.length) = r := by
  subst h
  rw [List.length_drop]
  rcases Nat.lt_or_ge b.length n with h2 | h2
  · rw [List.drop_eq_nil_of_le (show b.length ≤ n by omega), List.drop_eq_nil_of_le (by omega)]
  · congr 1; omega

theorem tokens_eq (s : Str) : r04_Tokens s = some (toks s.b) := by
  refine tx ?_
  unfold r04_Tokens toks
  refine T.br (fun h => T.some ?_) fun h => ?_
  · have h := of_decide_eq_true h
    rw [decide_eq_true (show 8000 < s.b.length by omega)]; rfl
  have hl := of_decide_eq_false h
  rw [decide_eq_false (show ¬ 8000 < s.b.length by omega), cond_false]
  refine T.lp (ι := List GTok × Int) (fun (q : List GTok × Int) => 0 ≤ q.2 ∧ q.2 ≤ (s.b.length : Int) ∧ (q.1.length : Int) ≤ q.2 ∧ ∃ f, (s.b.drop q.2.toNat).length < f ∧ toksF s.b.length (s.b.length + 1) s.b [] = toksF s.b.length f (s.b.drop q.2.toNat) q.1) (fun (q : List GTok × Int) => ((s.b.length : Int) - q.2).toNat) ⟨Int.le_refl _, by dsimp only; omega, by simp, s.b.length + 1, by simp, rfl⟩ (by dsimp only; omega) fun L q hq hL => ?_
  obtain ⟨l, k⟩ := q
  obtain ⟨h1, h2, h3, f, h4, h5⟩ := hq
  simp only at h1 h2 h3 h4 h5 ⊢
  rw [h5] at hL ⊢
  cases f with
  | zero => omega
  | succ f =>
    have hwl := wh_len (s.b.drop k.toNat) .out
    rw [List.length_drop] at hwl h4
    obtain ⟨nw, hw⟩ := wh_suf (s.b.drop k.toNat) .out
    rw [List.drop_drop] at hw
    have hsw := suf_drop hw
    refine T.eq (white_eq s k h1 h2 (by omega)) ?_
    rw [toksF_succ] at hL ⊢
    cases hwh : wh .out (s.b.drop k.toNat) with
    | nil =>
      simp only [hwh] at hL ⊢
      refine T.br (fun _ => T.abl (by simp only [List.length_cons, List.length_nil]; omega) (T.some rfl)) fun h6 => ?_
      have := of_decide_eq_false h6
      simp at this
    | cons c r =>
      simp only [hwh] at hL ⊢ 
      rw [hwh] at hwl hsw
      have hcl : 0 < (c :: r).length := by simp
      refine T.br (fun h6 => by have := of_decide_eq_true h6; omega) fun _ => ?_
      have hi : ((s.b.length : Int) - ((c :: r).length : Int)).toNat = s.b.length - (c :: r).length := by omega
      refine T.cal (one_eq s ((s.b.length : Int) - ((c :: r).length : Int)) (by omega) (by omega) (by omega)) fun q _ hq => ?_
      rw [hi, hsw] at hq
      cases ho : oneS (c :: r) with
      | none =>
        rw [ho] at hq
        simp only [ho] at hL ⊢
        simp only at hq
        exact T.br (fun _ => T.some rfl) fun h7 => by have := of_decide_eq_false h7; omega
      | some p =>
        obtain ⟨kd, t, r'⟩ := p
        rw [ho] at hq
        simp only [ho] at hL ⊢
        simp only at hq
        subst hq
        have hol := oneS_len ho
        obtain ⟨no, hso⟩ := oneS_suf ho
        have hso2 : r' = s.b.drop (s.b.length - (c :: r).length + no) := by rw [hso, ← List.drop_drop, hsw]
        have hsd := suf_drop hso2
        refine T.br (fun h7 => by have := of_decide_eq_true h7; dsimp only at this; omega) fun _ => T.abl (by simp only [List.length_cons, List.length_nil]; omega) (hL _ ⟨by dsimp only; omega, by dsimp only; omega, ?_, f, ?_, ?_⟩ (by dsimp only; omega))
        · dsimp only; rw [List.length_append, List.length_singleton]; omega
        · dsimp only
          rw [show ((s.b.length : Int) - (r'.length : Int)).toNat = s.b.length - r'.length by omega, hsd]
          omega
        · dsimp only
          rw [show ((s.b.length : Int) - (r'.length : Int)).toNat = s.b.length - r'.length by omega, hsd]
end Go.Proofs.YtiibmpdjkdjbiaaGreatDoor


namespace Go.Proofs.YtiibmpdjkdjbiaaGreatDoor
open Go.Sy
set_option linter.unusedVariables false

inductive KT : List UInt8 → List (Int × List UInt8) → Prop
  | fin {b : List UInt8} : wh .out b = [] → KT b []
  | tok {b r r' t : List UInt8} {c : UInt8} {k : Int} {ks : List (Int × List UInt8)} : wh .out b = c :: r → oneS (c :: r) = some (k, t, r') → KT r' ks → KT b ((k, t) :: ks)
def kt (t : GTok) : Int × List UInt8 := (t.kind, t.text.b)
theorem toksF_KT {n : Nat} {b : List UInt8} {ks : List (Int × List UInt8)} (h : KT b ks) : ∀ f acc, b.length < f → ∃ l, toksF n f b acc = (acc ++ l, 0, 0) ∧ l.map kt = ks ++ [(0, [])] := by
  induction h with
  | @fin b h =>
    intro f acc hf
    obtain ⟨f, rfl⟩ : ∃ g, f = g + 1 := ⟨f - 1, by omega⟩
    rw [toksF_succ, h]
    exact ⟨_, rfl, rfl⟩
  | @tok b r r' t c k ks h1 h2 _ ih =>
    intro f acc hf
    obtain ⟨f, rfl⟩ : ∃ g, f = g + 1 := ⟨f - 1, by omega⟩
    have h3 := oneS_len h2
    have h4 := wh_len b .out
    rw [h1] at h4
    obtain ⟨l, e1, e2⟩ := ih f (acc ++ [⟨k, ⟨t⟩, (n : Int) - ((c :: r).length : Int)⟩]) (by omega)
    rw [toksF_succ, h1]
    simp only [h2]
    rw [e1]
    exact ⟨⟨k, ⟨t⟩, (n : Int) - ((c :: r).length : Int)⟩ :: l, by rw [List.append_assoc]; rfl, by rw [List.map_cons, e2]; rfl⟩
theorem toks_KT {b : List UInt8} {ks : List (Int × List UInt8)} (h : KT b ks) (hl : b.length ≤ 8000) : ∃ l, toks b = (l, 0, 0) ∧ l.map kt = ks ++ [(0, [])] := by
  unfold toks
  rw [decide_eq_false (show ¬ 8000 < b.length by omega), cond_false]
  obtain ⟨l, e1, e2⟩ := toksF_KT (n := b.length) h (b.length + 1) [] (by omega)
  exact ⟨l, by rw [e1, List.nil_append], e2⟩

/-! ### White -/
theorem KT.sp {b : List UInt8} {ks : List (Int × List UInt8)} (h : KT b ks) : KT (32 :: b) ks := by
  cases h with
  | fin h => exact .fin h
  | tok h1 h2 h3 => exact .tok h1 h2 h3
theorem wh_non {c : UInt8} {r : List UInt8} (h1 : isWh c = false) (h2 : c ≠ 45 ∨ hd r ≠ 45) : wh .out (c :: r) = c :: r := by
  have e : (decide (c = 45) && decide (hd r = 45)) = false := by
    rcases h2 with h | h
    · rw [decide_eq_false h]; rfl
    · rw [decide_eq_false h, Bool.and_false]
  show (bif isWh c then wh .out r else bif decide (c = 45) && decide (hd r = 45) then wh .start r else c :: r) = _
  rw [h1, e]; rfl
theorem hd_app {w x : List UInt8} : hd (w ++ x) = hd (w ++ [hd x]) := by
  cases w with
  | nil => rfl
  | cons c w => rfl

/-! ### Names -/
def nmAll : List UInt8 → UInt8 → Bool
  | [], _ => true
  | c :: w, d => inName c (w ++ [d]) && nmAll w d
def stopN : List UInt8 → Bool
  | [] => true
  | d :: r => !inName d r
theorem inName_hd {c : UInt8} {r s : List UInt8} (h : hd r = hd s) : inName c r = inName c s := by unfold inName; rw [h]
theorem nm_app {x : List UInt8} (hs : stopN x = true) : ∀ {w : List UInt8}, nmAll w (hd x) = true → nm (w ++ x) = w.length
  | [], _ => by
    cases x with
    | nil => rfl
    | cons d r =>
      have : inName d r = false := by
        have hs2 : (!inName d r) = true := hs
        cases h : inName d r with
        | true => rw [h] at hs2; cases hs2
        | false => rfl
      show (bif inName d r then nm r + 1 else 0) = 0
      rw [this]; rfl
  | c :: w, h => by
    unfold nmAll at h
    rw [Bool.and_eq_true] at h
    show (bif inName c (w ++ x) then nm (w ++ x) + 1 else 0) = w.length + 1
    rw [inName_hd hd_app, h.1, nm_app hs h.2]; rfl
def kindN (w : List UInt8) : Int := bif isWord w then 5 else bif decide (hd w ≤ 90) then 1 else 2
theorem hd_appl {w x : List UInt8} (h : w ≠ []) : hd (w ++ x) = hd w := by
  cases w with
  | nil => exact absurd rfl h
  | cons c w => rfl
theorem ne_of_letter {w : List UInt8} (h : isLetter (hd w) = true) : w ≠ [] := fun e => by subst e; cases h
theorem one_name {w x : List UInt8} (h0 : isLetter (hd w) = true) (h1 : nmAll w (hd x) = true) (h2 : stopN x = true) (h3 : w.getLast? ≠ some 45) (h4 : w.length ≤ 60) : oneS (w ++ x) = some (kindN w, w, x) := by
  have hn := nm_app h2 h1
  have hb : nmBad (w ++ x) = false := by
    unfold nmBad
    rw [hn, List.take_left, decide_eq_false h3, decide_eq_false (by omega)]; rfl
  unfold oneS
  simp only
  rw [hd_appl (ne_of_letter h0), h0, hb, hn, List.take_left, List.drop_left]
  rfl
theorem letter_wh {c : UInt8} (h : isLetter c = true) : isWh c = false ∧ c ≠ 45 := by
  unfold isLetter at h
  unfold isWh
  simp only [Bool.or_eq_true, Bool.and_eq_true, decide_eq_true_eq, UInt8.le_iff_toNat_le] at h
  have e : ∀ n : UInt8, n.toNat ≤ 45 → c ≠ n := fun n hn e => by
    subst e
    have e1 : (97 : UInt8).toNat = 97 := rfl
    have e2 : (65 : UInt8).toNat = 65 := rfl
    omega
  rw [decide_eq_false (e 32 (by decide)), decide_eq_false (e 9 (by decide)), decide_eq_false (e 10 (by decide)), decide_eq_false (e 13 (by decide))]
  exact ⟨rfl, e 45 (by decide)⟩
theorem KT.name {w x : List UInt8} {ks : List (Int × List UInt8)} (h0 : isLetter (hd w) = true) (h1 : nmAll w (hd x) = true) (h2 : stopN x = true) (h3 : w.getLast? ≠ some 45) (h4 : w.length ≤ 60) (h : KT x ks) : KT (w ++ x) ((kindN w, w) :: ks) := by
  cases hw : w with
  | nil => rw [hw] at h0; cases h0
  | cons c r =>
    have hc : isLetter c = true := by rw [hw] at h0; exact h0
    obtain ⟨e1, e2⟩ := letter_wh hc
    have := one_name h0 h1 h2 h3 h4
    rw [hw] at this
    exact .tok (wh_non e1 (.inl e2)) this h

/-! ### Numbers -/
def digs2 (d : List UInt8) : Bool := d.all isDigit
theorem dg_app {x : List UInt8} (hs : isDigit (hd x) = false) : ∀ {d : List UInt8}, digs2 d = true → dg (d ++ x) = d.length
  | [], _ => by
    cases x with
    | nil => rfl
    | cons c r =>
      show (bif isDigit c then dg r + 1 else 0) = 0
      have : isDigit c = false := hs
      rw [this]; rfl
  | c :: d, h => by
    unfold digs2 at h
    rw [List.all_cons, Bool.and_eq_true] at h
    show (bif isDigit c then dg (d ++ x) + 1 else 0) = d.length + 1
    rw [h.1, dg_app hs h.2]; rfl
def numOk (m : Bool) (d : List UInt8) : Bool := digs2 d && decide (1 ≤ d.length) && decide (d.length ≤ 19) && (decide (d.length ≤ 1) || !decide (hd d = 48)) && (!m || !decide (hd d = 48)) && decide ((uval d).toNat ≤ (if m then 9223372036854775808 else 9223372036854775807))
theorem numBad_app {m : Bool} {d x : List UInt8} (h : numOk m d = true) (h1 : isDigit (hd x) = false) (h2 : isLetter (hd x) = false) : numBad m (d ++ x) = false := by
  unfold numOk at h
  simp only [Bool.and_eq_true, decide_eq_true_eq] at h
  obtain ⟨⟨⟨⟨⟨h3, h4⟩, h5⟩, h6⟩, h7⟩, h8⟩ := h
  have hne : d ≠ [] := fun e => by subst e; simp at h4
  have hn := dg_app h1 h3
  unfold numBad
  rw [hn, hd_appl hne, List.drop_left, List.take_left, h2, decide_eq_false (show ¬ d.length < 1 by omega), decide_eq_false (show ¬ 19 < d.length by omega)]
  have e1 : (decide (1 < d.length) && decide (hd d = 48)) = false := by
    rw [Bool.or_eq_true] at h6
    rcases h6 with h | h
    · rw [decide_eq_false (by have := of_decide_eq_true h; omega)]; rfl
    · have : decide (hd d = 48) = false := by simpa using h
      rw [this, Bool.and_false]
  have e2 : (m && decide (hd d = 48)) = false := by
    rw [Bool.or_eq_true] at h7
    rcases h7 with h | h
    · have : m = false := by simpa using h
      rw [this]; rfl
    · have : decide (hd d = 48) = false := by simpa using h
      rw [this, Bool.and_false]
  have e3 : decide ((9223372036854775808 : UInt64) < uval d) = false := by
    refine decide_eq_false fun h => ?_
    have h := UInt64.lt_iff_toNat_lt.1 h
    have e : (9223372036854775808 : UInt64).toNat = 9223372036854775808 := rfl
    cases m with
    | true => rw [if_pos rfl] at h8; omega
    | false => rw [if_neg (by decide)] at h8; omega
  have e4 : (!m && decide (uval d = 9223372036854775808)) = false := by
    cases m with
    | true => rfl
    | false =>
      rw [if_neg (by decide)] at h8
      have : ¬ uval d = 9223372036854775808 := fun e => by
        rw [e] at h8
        have e : (9223372036854775808 : UInt64).toNat = 9223372036854775808 := rfl
        omega
      rw [decide_eq_false this]; rfl
  rw [e1, e2, e3, e4]; rfl
theorem digit_not {c : UInt8} (h : isDigit c = true) : isLetter c = false ∧ isWh c = false ∧ c ≠ 45 := by
  unfold isDigit at h
  simp only [Bool.and_eq_true, decide_eq_true_eq, UInt8.le_iff_toNat_le] at h
  have a1 : (48 : UInt8).toNat = 48 := rfl
  have a2 : (57 : UInt8).toNat = 57 := rfl
  have e : ∀ n : UInt8, n.toNat ≤ 45 → c ≠ n := fun n hn e => by subst e; omega
  refine ⟨?_, ?_, e 45 (by decide)⟩
  · unfold isLetter
    have b1 : (97 : UInt8).toNat = 97 := rfl
    have b2 : (65 : UInt8).toNat = 65 := rfl
    rw [decide_eq_false (show ¬ (97 : UInt8) ≤ c from fun h => by have := UInt8.le_iff_toNat_le.1 h; omega), decide_eq_false (show ¬ (65 : UInt8) ≤ c from fun h => by have := UInt8.le_iff_toNat_le.1 h; omega)]; rfl
  · unfold isWh
    rw [decide_eq_false (e 32 (by decide)), decide_eq_false (e 9 (by decide)), decide_eq_false (e 10 (by decide)), decide_eq_false (e 13 (by decide))]; rfl
theorem numOk_ne {m : Bool} {d : List UInt8} (h : numOk m d = true) : d ≠ [] := fun e => by subst e; cases m <;> cases h
theorem numOk_hd {m : Bool} {d : List UInt8} (h : numOk m d = true) : isDigit (hd d) = true := by
  cases d with
  | nil => exact absurd rfl (numOk_ne h)
  | cons c r =>
    unfold numOk digs2 at h
    simp only [Bool.and_eq_true, List.all_cons] at h
    exact h.1.1.1.1.1.1
theorem one_num {d x : List UInt8} (h : numOk false d = true) (h1 : isDigit (hd x) = false) (h2 : isLetter (hd x) = false) : oneS (d ++ x) = some (3, d, x) := by
  have hc := numOk_hd h
  obtain ⟨e1, e2, e3⟩ := digit_not hc
  have hn : numLen (d ++ x) = some d.length := by
    unfold numLen
    have hd2 : digs2 d = true := by
      unfold numOk at h
      simp only [Bool.and_eq_true] at h
      exact h.1.1.1.1.1
    rw [hd_appl (numOk_ne h), decide_eq_false e3, cond_false, numBad_app h h1 h2, cond_false, dg_app h1 hd2]
  unfold oneS
  simp only
  rw [hd_appl (numOk_ne h), e1, hc, Bool.true_or, cond_true, cond_false, hn]
  simp only [List.take_left, List.drop_left]
theorem one_neg {d x : List UInt8} (h : numOk true d = true) (h1 : isDigit (hd x) = false) (h2 : isLetter (hd x) = false) : oneS (45 :: (d ++ x)) = some (3, 45 :: d, x) := by
  have hc := numOk_hd h
  have hn : numLen (45 :: (d ++ x)) = some (d.length + 1) := by
    unfold numLen
    have hd2 : digs2 d = true := by
      unfold numOk at h
      simp only [Bool.and_eq_true] at h
      exact h.1.1.1.1.1
    show (bif numBad true (d ++ x) then none else some (dg (d ++ x) + 1)) = _
    rw [numBad_app h h1 h2, cond_false, dg_app h1 hd2]
  unfold oneS
  have e : isDigit (hd ((45 :: (d ++ x)).drop 1)) = true := by
    show isDigit (hd (d ++ x)) = true
    rw [hd_appl (numOk_ne h)]; exact hc
  simp only
  rw [show isLetter (hd (45 :: (d ++ x))) = false from rfl, show isDigit (hd (45 :: (d ++ x))) = false from rfl, show decide (hd (45 :: (d ++ x)) = 45) = true from rfl, e, hn]
  show some (3, (45 :: (d ++ x)).take (d.length + 1), (45 :: (d ++ x)).drop (d.length + 1)) = _
  rw [List.take_succ_cons, List.drop_succ_cons, List.take_left, List.drop_left]
theorem KT.num {d x : List UInt8} {ks : List (Int × List UInt8)} (h : numOk false d = true) (h1 : isDigit (hd x) = false) (h2 : isLetter (hd x) = false) (hk : KT x ks) : KT (d ++ x) ((3, d) :: ks) := by
  have := one_num h h1 h2
  have hc := numOk_hd h
  cases hw : d with
  | nil => exact absurd hw (numOk_ne h)
  | cons c r =>
    rw [hw] at this hc
    obtain ⟨_, e2, e3⟩ := digit_not hc
    exact .tok (wh_non e2 (.inl e3)) this hk
theorem KT.neg {d x : List UInt8} {ks : List (Int × List UInt8)} (h : numOk true d = true) (h1 : isDigit (hd x) = false) (h2 : isLetter (hd x) = false) (hk : KT x ks) : KT (45 :: (d ++ x)) ((3, 45 :: d) :: ks) := by
  have hc := numOk_hd h
  refine .tok (wh_non rfl (.inr ?_)) (one_neg h h1 h2) hk
  rw [hd_appl (numOk_ne h)]
  exact (digit_not hc).2.2

/-! ### Signs -/
/-- May that stand behind a sign? -/
def sgN (s : List UInt8) (d : UInt8) : Bool := !(decide (s = [91]) && decide (d = 91)) && !(decide (s = [93]) && decide (d = 93)) && !(decide (s = [46, 46]) && decide (d = 46)) && !(decide (s = [58]) && decide (d = 58))
theorem sg_app {s : List UInt8} (hs : s ∈ sgs) {x : List UInt8} (h : sgN s (hd x) = true) : sg (s ++ x) = s.length := by
  have n1 : ∀ (p c : UInt8) (r : List UInt8), hd r ≠ c → isPre [p, c] (p :: r) = false := fun p c r h => by
    cases r with
    | nil => show (bif decide (p = p) then false else false) = false; cases decide (p = p) <;> rfl
    | cons d r =>
      have : ¬ c = d := fun e => h e.symm
      show (bif decide (p = p) then (bif decide (c = d) then true else false) else false) = false
      rw [decide_eq_false this]; cases decide (p = p) <;> rfl
  have n2 : ∀ (p q c : UInt8) (r : List UInt8), hd r ≠ c → isPre [p, q, c] (p :: q :: r) = false := fun p q c r h => by
    cases r with
    | nil => show (bif decide (p = p) then (bif decide (q = q) then false else false) else false) = false; cases decide (p = p) <;> cases decide (q = q) <;> rfl
    | cons d r =>
      have : ¬ c = d := fun e => h e.symm
      show (bif decide (p = p) then (bif decide (q = q) then (bif decide (c = d) then true else false) else false) else false) = false
      rw [decide_eq_false this]; cases decide (p = p) <;> cases decide (q = q) <;> rfl
  have n3 : ∀ (p q c : UInt8) (r : List UInt8), hd r ≠ q → isPre [p, q, c] (p :: r) = false := fun p q c r h => by
    cases r with
    | nil => show (bif decide (p = p) then false else false) = false; cases decide (p = p) <;> rfl
    | cons d r =>
      have : ¬ q = d := fun e => h e.symm
      show (bif decide (p = p) then (bif decide (q = d) then isPre [c] r else false) else false) = false
      rw [decide_eq_false this]; cases decide (p = p) <;> rfl
  unfold sgN at h
  simp only [Bool.and_eq_true] at h
  obtain ⟨⟨⟨h1, h2⟩, h3⟩, h4⟩ := h
  have sp : ∀ {s' : List UInt8} {d : UInt8}, s = s' → (!(decide (s = s') && decide (hd x = d))) = true → hd x ≠ d := fun {s' d} e h hd => by
    rw [decide_eq_true e, decide_eq_true hd] at h; cases h
  simp only [sgs, List.mem_cons, List.not_mem_nil, or_false] at hs
  rcases hs with e | e | e | e | e | e | e | e | e | e | e | e | e
  · subst e; rfl
  · subst e; rfl
  · have := sp e h3
    subst e
    show (bif isPre [46, 46, 46] (46 :: 46 :: x) then 3 else 2) = 2
    rw [n2 _ _ _ _ this]; rfl
  · subst e; rfl
  · subst e; rfl
  · subst e; rfl
  · subst e; rfl
  · have := sp e h1
    subst e
    show (bif isPre [91, 91] (91 :: x) then 2 else 1) = 1
    rw [n1 _ _ _ this]; rfl
  · have := sp e h2
    subst e
    show (bif isPre [93, 93] (93 :: x) then 2 else 1) = 1
    rw [n1 _ _ _ this]; rfl
  · subst e; rfl
  · subst e; rfl
  · subst e; rfl
  · have := sp e h4
    subst e
    show (bif isPre [58, 58, 61] (58 :: x) then 3 else 1) = 1
    rw [n3 _ _ _ _ this]; rfl
theorem one_sign {s : List UInt8} (hs : s ∈ sgs) {x : List UInt8} (h : sgN s (hd x) = true) : oneS (s ++ x) = some (6, s, x) ∧ wh .out (s ++ x) = s ++ x := by
  have hg := sg_app hs h
  have hl : 0 < s.length := by
    simp only [sgs, List.mem_cons, List.not_mem_nil, or_false] at hs
    rcases hs with e | e | e | e | e | e | e | e | e | e | e | e | e <;> subst e <;> decide
  have key : (bif decide (0 < sg (s ++ x)) then some ((6 : Int), (s ++ x).take (sg (s ++ x)), (s ++ x).drop (sg (s ++ x))) else none) = some (6, s, x) := by
    rw [hg, decide_eq_true hl, cond_true, List.take_left, List.drop_left]
  simp only [sgs, List.mem_cons, List.not_mem_nil, or_false] at hs
  rcases hs with e | e | e | e | e | e | e | e | e | e | e | e | e <;> subst e <;> exact ⟨key, rfl⟩
theorem KT.sign {s : List UInt8} (hs : s ∈ sgs) {x : List UInt8} {ks : List (Int × List UInt8)} (h : sgN s (hd x) = true) (hk : KT x ks) : KT (s ++ x) ((6, s) :: ks) := by
  obtain ⟨h1, h2⟩ := one_sign hs h
  cases hw : s ++ x with
  | nil => rw [hw] at h1; cases h1
  | cons c r =>
    rw [hw] at h1 h2
    exact .tok h2 h1 hk

def esc : List UInt8 → List UInt8
  | [] => []
  | c :: s => if c = 34 then 34 :: 34 :: esc s else c :: esc s
theorem qd_esc {x : List UInt8} (hx : hd x ≠ 34) : ∀ (s acc : List UInt8), qd false (esc s ++ 34 :: x) acc = bif Lib.validD (acc ++ s) then some (acc ++ s, x) else none
  | [], acc => by
    show (bif decide ((34 : UInt8) = 34) then bif decide (hd x = 34) then qd true x acc else bif Lib.validD acc then some (acc, x) else none else _) = _
    rw [decide_eq_false hx, List.append_nil]; rfl
  | c :: s, acc => by
    by_cases hc : c = 34
    · subst hc
      have := qd_esc hx s (acc ++ [34])
      rw [List.append_assoc] at this
      exact this
    · have := qd_esc hx s (acc ++ [c])
      rw [List.append_assoc] at this
      unfold esc
      rw [if_neg hc]
      show (bif decide (c = 34) then _ else qd false (esc s ++ 34 :: x) (acc ++ [c])) = _
      rw [decide_eq_false hc]
      exact this
theorem one_str {s x : List UInt8} (hx : hd x ≠ 34) (hv : Lib.validD s = true) : oneS (34 :: (esc s ++ 34 :: x)) = some (7, s, x) := by
  have := qd_esc hx s []
  rw [List.nil_append, hv, cond_true] at this
  show (match qd false (esc s ++ 34 :: x) [] with
    | none => none
    | some (t, r) => some ((7 : Int), t, r)) = _
  rw [this]
theorem KT.str {s x : List UInt8} {ks : List (Int × List UInt8)} (hx : hd x ≠ 34) (hv : Lib.validD s = true) (hk : KT x ks) : KT (34 :: (esc s ++ 34 :: x)) ((7, s) :: ks) :=
  .tok (wh_non rfl (.inl (by decide))) (one_str hx hv) hk
end Go.Proofs.YtiibmpdjkdjbiaaGreatDoor


namespace Go.Proofs.YtiibmpdjkdjbiaaGreatDoor
open Go.Sy
set_option linter.unusedVariables false

abbrev KS := List (Int × List UInt8)
structure Sg (L : List GTok) (a : Int) (ks : KS) : Prop where
  a0 : 0 ≤ a
  len : L.length ≤ 9000
  dr : (L.drop a.toNat).map kt = ks ++ [(0, [])]
theorem Sg.get {L a k ks} (h : Sg L a (k :: ks)) : ∃ t, L[a.toNat]? = some t ∧ kt t = k := by
  have h1 := h.dr
  cases hd : L.drop a.toNat with
  | nil => rw [hd] at h1; cases h1
  | cons t r =>
    rw [hd] at h1
    have e : L[a.toNat]? = some t := by
      have := List.getElem?_drop (xs := L) (i := a.toNat) (j := 0)
      rw [hd] at this
      simpa using this.symm
    exact ⟨t, e, (List.cons.inj h1).1⟩
theorem Sg.end_ {L a} (h : Sg L a []) : ∃ t, L[a.toNat]? = some t ∧ t.kind = 0 := by
  have h1 := h.dr
  cases hd : L.drop a.toNat with
  | nil => rw [hd] at h1; cases h1
  | cons t r =>
    rw [hd] at h1
    have e : L[a.toNat]? = some t := by
      have := List.getElem?_drop (xs := L) (i := a.toNat) (j := 0)
      rw [hd] at this
      simpa using this.symm
    exact ⟨t, e, congrArg Prod.fst (List.cons.inj h1).1⟩
theorem Sg.size {L a ks} (h : Sg L a ks) : a.toNat + ks.length + 1 = L.length := by
  have h1 := congrArg List.length h.dr
  simp only [List.length_map, List.length_drop, List.length_append, List.length_singleton] at h1
  omega
theorem Sg.tl {L a k ks} (h : Sg L a (k :: ks)) : Sg L (a + 1) ks := by
  refine ⟨by have := h.a0; omega, h.len, ?_⟩
  have h1 := h.dr
  have e : (a + 1).toNat = a.toNat + 1 := by have := h.a0; omega
  rw [e, ← List.drop_drop, List.map_drop, h1]; rfl
theorem Sg.app {L a} : ∀ {xs ks : KS}, Sg L a (xs ++ ks) → Sg L (a + xs.length) ks := by
  intro xs
  induction xs generalizing a with
  | nil => intro ks h; simpa using h
  | cons x xs ih =>
    intro ks h
    have := ih (ks := ks) (Sg.tl (k := x) h)
    rw [List.length_cons]
    rw [show a + ((xs.length + 1 : Nat) : Int) = a + 1 + (xs.length : Int) by omega]; exact this
theorem kt_kind {t : GTok} {k s} (h : kt t = (k, s)) : t.kind = k ∧ t.text = ⟨s⟩ := by
  unfold kt at h
  injection h with h1 h2
  exact ⟨h1, by cases ht : t.text with | mk b => rw [ht] at h2; exact congrArg Str.mk h2⟩
theorem getI_at {α : Type} {L : List α} {a : Int} {t : α} (h0 : 0 ≤ a) (h : L[a.toNat]? = some t) : getI L a = some t := by
  unfold getI
  cases a with
  | ofNat n => exact h
  | negSucc n => omega

section small
variable {L : List GTok} {a : Int} {m : GMod} {ks : KS} {k : Int} {s t : List UInt8} {p : Int}
theorem now_at (h : Sg L a ((k, t) :: ks)) {e : Int} : ∃ y, r05_parser_now ⟨L, a, m, e, p⟩ = some (y, ⟨L, a, m, e, p⟩) ∧ y.kind = k ∧ y.text = ⟨t⟩ := by
  obtain ⟨y, h1, h2⟩ := h.get
  refine ⟨y, ?_, kt_kind h2⟩
  unfold r05_parser_now
  dsimp only
  rw [getI_at h.a0 h1]; rfl
theorem next_at (h : Sg L a ((k, t) :: ks)) {e : Int} : ∃ y, r05_parser_next ⟨L, a, m, e, p⟩ = some (y, ⟨L, a + 1, m, e, p⟩) ∧ y.kind = k ∧ y.text = ⟨t⟩ := by
  obtain ⟨y, h1, h2⟩ := h.get
  refine ⟨y, ?_, kt_kind h2⟩
  have hs := h.size
  have h0 := h.a0
  have hl := h.len
  simp only [List.length_cons] at hs
  refine T.fin ?_
  unfold r05_parser_next
  refine T.eq (getI_at h.a0 h1) (T.ck (by dsimp only; omega) (T.jp0 (T.br (fun _ => T.ck (by dsimp only; omega) (T.some rfl)) fun h3 => ?_)))
  have h3 := of_decide_eq_false h3
  exact absurd (by dsimp only; omega) h3
def isK (k : Int) (t s : List UInt8) : Bool := (decide (k = 5) || decide (k = 6)) && decide (t = s)
theorem is_no (h : Sg L a ((k, t) :: ks)) (hn : isK k t s = false) : r05_parser_is ⟨L, a, m, 0, p⟩ ⟨s⟩ = some (false, ⟨L, a, m, 0, p⟩) := by
  obtain ⟨y, h1, h2, h3⟩ := now_at (m := m) (p := p) (e := 0) h
  unfold isK at hn
  refine T.fin ?_
  unfold r05_parser_is
  refine T.eq h1 ?_
  dsimp only
  rw [h2, h3]
  refine T.jp (fun b => b = (decide (k = 5) || decide (k = 6))) (fun J hJ => T.br (fun _ => T.jp0 (T.br (fun h => hJ _ (by rw [h]; rfl)) fun h => hJ _ (by rw [h]; rfl))) fun h => by cases h) fun b hb => ?_
  subst hb
  refine T.jp (fun b => b = false) (fun J hJ => T.br (fun h => hJ _ ?_) fun h => hJ _ rfl) fun b hb => ?_
  · rw [h] at hn
    refine decide_eq_false fun e => ?_
    injection e with e
    rw [decide_eq_true e] at hn; cases hn
  · subst hb; exact T.some rfl
theorem is_yes (h : Sg L a ((k, s) :: ks)) (hk : (decide (k = 5) || decide (k = 6)) = true) : r05_parser_is ⟨L, a, m, 0, p⟩ ⟨s⟩ = some (true, ⟨L, a + 1, m, 0, p⟩) := by
  obtain ⟨y, h1, h2, h3⟩ := now_at (m := m) (p := p) (e := 0) h
  obtain ⟨y', h4, _⟩ := next_at (m := m) (p := p) (e := 0) h
  refine T.fin ?_
  unfold r05_parser_is
  refine T.eq h1 ?_
  dsimp only
  rw [h2, h3]
  refine T.jp (fun b => b = true) (fun J hJ => T.br (fun _ => T.jp0 (T.br (fun h => hJ _ rfl) fun h => hJ _ (by rw [h] at hk; simpa using hk))) fun h => by cases h) fun b hb => ?_
  subst hb
  refine T.jp (fun b => b = true) (fun J hJ => T.br (fun h => hJ _ (decide_eq_true rfl)) fun h => by cases h) fun b hb => ?_
  subst hb
  refine T.br (fun _ => T.eq h4 (T.some rfl)) fun h => by cases h
theorem must_yes (h : Sg L a ((k, s) :: ks)) (hk : (decide (k = 5) || decide (k = 6)) = true) : r05_parser_must ⟨L, a, m, 0, p⟩ ⟨s⟩ = some ⟨L, a + 1, m, 0, p⟩ := by
  refine T.fin ?_
  unfold r05_parser_must
  refine T.jp0 (T.br (fun _ => T.eq (is_yes h hk) ?_) fun h => by cases h)
  exact T.br (fun h => by cases h) fun _ => T.some rfl
theorem kind_yes (h : Sg L a ((k, s) :: ks)) : r05_parser_kind ⟨L, a, m, 0, p⟩ k = some (⟨s⟩, ⟨L, a + 1, m, 0, p⟩) := by
  obtain ⟨y, h1, h2, h3⟩ := now_at (m := m) (p := p) (e := 0) h
  obtain ⟨y', h4, h5, h6⟩ := next_at (m := m) (p := p) (e := 0) h
  refine T.fin ?_
  unfold r05_parser_kind
  refine T.eq h1 ?_
  dsimp only
  rw [h2]
  refine T.jp (fun b => b = false) (fun J hJ => T.br (fun h => by cases h) fun _ => hJ _ (by rw [decide_eq_true rfl]; rfl)) fun b hb => ?_
  subst hb
  refine T.br (fun h => by cases h) fun _ => T.eq h4 (T.some ?_)
  rw [h6]
theorem number_yes {v : Int} (h : Sg L a ((3, s) :: ks)) (hs : s ≠ []) (hv : r05_Whole ⟨s⟩ = some v) : r05_parser_number ⟨L, a, m, 0, p⟩ = some (v, ⟨L, a + 1, m, 0, p⟩) := by
  refine T.fin ?_
  unfold r05_parser_number
  refine T.eq (kind_yes h) (T.br (fun h => ?_) fun _ => T.eq hv (T.some rfl))
  have h := of_decide_eq_true h
  injection h with h
  exact absurd h hs
end small

/-! ### Bounds and sizes -/
section bounds
variable {L : List GTok} {a : Int} {m : GMod} {ks : KS}
structure Num (s : List UInt8) (v : Int) : Prop where
  ne : s ≠ []
  val : r05_Whole ⟨s⟩ = some v
def dotsT (more : Bool) : KS := if more then [(6, [44]), (6, [46, 46, 46])] else []
def spanT (lo hi : List UInt8) (more : Bool) : KS := (3, lo) :: (6, [46, 46]) :: (3, hi) :: dotsT more
theorem bounds_span {lo hi : List UInt8} {l h : Int} {more : Bool} (hA : Sg L a (spanT lo hi more ++ (6, [41]) :: ks)) (h1 : Num lo l) (h2 : Num hi h) :
    r05_parser_bounds ⟨L, a, m, 0, 0⟩ = some (⟨true, true, true, more, l, h⟩, ⟨L, a + (spanT lo hi more).length, m, 0, 0⟩) := by
  have a1 := hA.tl
  have a2 := a1.tl
  have a3 : Sg L (a + 1 + 1 + 1) (dotsT more ++ (6, [41]) :: ks) := a2.tl
  refine T.fin ?_
  unfold r05_parser_bounds
  refine T.eq (is_no hA rfl) (T.jp0 (T.br (fun _ => T.eq (number_yes hA h1.ne h1.val) ?_) fun h => by cases h))
  refine T.jp0 (T.eq (is_yes a1 rfl) (T.br (fun _ => T.eq (is_no a2 rfl) (T.br (fun _ => T.eq (number_yes a2 h2.ne h2.val) ?_) fun h => by cases h)) fun h => by cases h))
  cases more with
  | true =>
    rw [show a + ((spanT lo hi true).length : Int) = a + 1 + 1 + 1 + 1 + 1 from by show a + (5 : Int) = _; omega]
    exact T.eq (is_yes a3 rfl) (T.jp0 (T.br (fun _ => T.eq (must_yes a3.tl rfl) (T.some rfl)) fun h => by cases h))
  | false =>
    rw [show a + ((spanT lo hi false).length : Int) = a + 1 + 1 + 1 from by show a + (3 : Int) = _; omega]
    exact T.eq (is_no a3 rfl) (T.jp0 (T.br (fun h => by cases h) fun _ => T.some rfl))
end bounds
end Go.Proofs.YtiibmpdjkdjbiaaGreatDoor


namespace Go.Proofs.YtiibmpdjkdjbiaaGreatDoor
open Go.Sy
set_option linter.unusedVariables false

def zm (μ : GMark) : GNode := ⟨0, ⟨[]⟩, μ, ⟨false, false, false, false, 0, 0⟩, [], [], 0, false, 0⟩
@[reducible] def noM : GMark := ⟨false, 0, 0⟩
def addN (m : GMod) (ns : List GNode) : GMod := ⟨m.name, m.tagging, m.names, m.types, m.nodes ++ ns⟩
theorem addN_nil (m : GMod) : addN m [] = m := by unfold addN; rw [List.append_nil]
theorem addN_addN (m : GMod) (a b : List GNode) : addN (addN m a) b = addN m (a ++ b) := by unfold addN; dsimp only; rw [List.append_assoc]
theorem addN_len (m : GMod) (a : List GNode) : (addN m a).nodes.length = m.nodes.length + a.length := by unfold addN; dsimp only; rw [List.length_append]

structure TypK (h : Nat) (ts : KS) (sz : Nat) (ns : Nat → List GNode) : Prop where
  len : ∀ i, (ns i).length = sz
  go : ∀ {n : Nat} {d : Int} {L : List GTok} {a : Int} {m : GMod} {k : Int} {t : List UInt8} {ks : KS}, 4 * h ≤ n → 0 ≤ d → d + h ≤ 17 → Sg L a (ts ++ (k, t) :: ks) → isK k t [40] = false → m.nodes.length + sz ≤ 300 →
    r05_parser_typ n ⟨L, a, m, 0, 0⟩ d = some ((m.nodes.length : Int), ⟨L, a + ts.length, addN m (ns m.nodes.length), 0, 0⟩)
structure BaseK (h : Nat) (ts : KS) (sz : Nat) (ns : Nat → List GNode) (f : GMark → Nat → GNode) : Prop where
  len : ∀ i, (ns i).length = sz
  go : ∀ {n : Nat} {d : Int} {L : List GTok} {a : Int} {m : GMod} {k : Int} {t : List UInt8} {ks : KS} (μ : GMark), 4 * h + 3 ≤ n → 0 ≤ d → d + h ≤ 16 → Sg L a (ts ++ (k, t) :: ks) → isK k t [40] = false → m.nodes.length + sz ≤ 300 →
    r05_parser_base n ⟨L, a, m, 0, 0⟩ (zm μ) d = some (⟨L, a + ts.length, addN m (ns m.nodes.length), 0, 0⟩, f μ m.nodes.length)
def Beg (k : Int) (t : List UInt8) : Prop := ∀ y : GTok, y.kind = k → y.text = ⟨t⟩ → r05_begins y = some true
theorem set_at {α : Type} (p : List α) (x y : α) (r : List α) : (p ++ x :: r).set p.length y = p ++ y :: r := by
  rw [List.set_append_right _ _ (Nat.le_refl _), Nat.sub_self]; rfl
theorem get_at {α : Type} (p : List α) (x : α) (r : List α) : (p ++ x :: r)[p.length]? = some x := by
  rw [List.getElem?_append_right (Nat.le_refl _), Nat.sub_self]; rfl
theorem typ_unf (n : Nat) : r05_parser_typ (n + 1) = r05_parser_typ_F (r05_parser_field n) (r05_parser_typ n) (r05_parser_base n) (r05_parser_fields n) := rfl
theorem typ_end {h : Nat} {bts : KS} {sz : Nat} {ns : Nat → List GNode} {f : GMark → Nat → GNode} (hb : BaseK h bts sz ns f) {n : Nat} {d : Int} {L : List GTok} {a : Int} {m : GMod} {k : Int} {t : List UInt8} {ks : KS} (μ : GMark) (h1 : 4 * h + 3 ≤ n) (h2 : 0 ≤ d) (h3 : d + h ≤ 16) (hA : Sg L a (bts ++ (k, t) :: ks)) (hk : isK k t [40] = false) (hm : m.nodes.length + (sz + 1) ≤ 300) (z : GNode) :
    T (fun r => r = ((m.nodes.length : Int), (⟨L, a + bts.length, addN m (f μ (m.nodes.length + 1) :: ns (m.nodes.length + 1)), 0, 0⟩ : GPar)))
      (cal (r05_parser_base n ⟨L, a, addN m [z], 0, 0⟩ (zm μ) d) fun y63 => br (!decide (y63.1.e = (0 : Int))) (some ((0 : Int), y63.1)) (asr (decide (0 ≤ ((m.nodes.length : Nat) : Int) ∧ ((m.nodes.length : Nat) : Int) < ((y63.1.m.nodes.length : Nat) : Int))) <| cal (y63.1.m.nodes[((m.nodes.length : Nat) : Int).toNat]?) fun y74 => some (((m.nodes.length : Nat) : Int), (GPar.mk y63.1.l y63.1.at_ (GMod.mk y63.1.m.name y63.1.m.tagging y63.1.m.names y63.1.m.types (y63.1.m.nodes.set (((m.nodes.length : Nat) : Int).toNat) y63.2)) y63.1.e y63.1.p)))) := by
  have e1 : (addN m [z]).nodes.length = m.nodes.length + 1 := by rw [addN_len]; rfl
  have hg := hb.go μ h1 h2 h3 hA hk (m := addN m [z]) (by rw [e1]; omega)
  rw [e1, addN_addN] at hg
  refine T.eq hg (T.brF rfl (T.asd ⟨by omega, ?_⟩ ?_))
  · dsimp only
    rw [addN_len]; simp only [List.length_append, List.length_cons]; omega
  · have e2 : (addN m ([z] ++ ns (m.nodes.length + 1))).nodes = m.nodes ++ z :: ns (m.nodes.length + 1) := rfl
    dsimp only
    rw [Int.toNat_natCast, e2, get_at, set_at]
    exact T.some rfl
theorem typ_un {h : Nat} {k0 : Int} {t0 : List UInt8} {bts : KS} {sz : Nat} {ns : Nat → List GNode} {f : GMark → Nat → GNode} (hb : BaseK h ((k0, t0) :: bts) sz ns f) (hg : Beg k0 t0) (hn : isK k0 t0 [91] = false) :
    TypK (h + 1) ((k0, t0) :: bts) (sz + 1) (fun i => f noM (i + 1) :: ns (i + 1)) := by
  refine ⟨fun i => by rw [List.length_cons, hb.len], ?_⟩
  intro n d L a m k t ks h1 h2 h3 hA hk hm
  obtain ⟨n, rfl⟩ : ∃ n', n = n' + 1 := ⟨n - 1, by omega⟩
  rw [typ_unf]
  obtain ⟨y, e1, e2, e3⟩ := now_at (m := m) (p := 0) (e := 0) hA
  refine T.fin ?_
  unfold r05_parser_typ_F
  refine T.brF rfl (T.eq e1 (T.eq (hg y e2 e3) (T.brF rfl ?_)))
  refine T.jp (fun b => b = false) (fun J hJ => T.brF (decide_eq_false (by omega)) (hJ _ (decide_eq_false (by dsimp only; omega)))) fun b hb' => T.brF hb' ?_
  refine T.abl (by dsimp only; simp only [List.length_singleton]; omega) (T.eq (is_no hA hn) (T.jp0 (T.brF rfl ?_)))
  exact typ_end hb noM (by omega) h2 (by omega) hA hk (by omega) _
/-! ### Bases -/
section bases
variable {n : Nat}
theorem base_unf (n : Nat) : r05_parser_base (n + 1) = r05_parser_base_F (r05_parser_field n) (r05_parser_typ n) (r05_parser_base n) (r05_parser_fields n) := rfl
theorem base_int {lo hi : List UInt8} {l h : Int} {more : Bool} (hl : Num lo l) (hh : Num hi h) : BaseK 0 ((5, [73, 78, 84, 69, 71, 69, 82]) :: (6, [40]) :: (spanT lo hi more ++ [(6, [41])])) 0 (fun _ => []) (fun μ _ => { zm μ with kind := 2, con := ⟨true, true, true, more, l, h⟩ }) := by
  refine ⟨fun _ => rfl, ?_⟩
  intro n d L a m k t ks μ h1 h2 h3 hA hk hm
  obtain ⟨n, rfl⟩ : ∃ n', n = n' + 1 := ⟨n - 1, by omega⟩
  rw [base_unf, addN_nil]
  obtain ⟨y, e1, e2, e3⟩ := now_at (m := m) (p := 0) (e := 0) hA
  have a1 := Sg.tl hA
  have a2 : Sg L (a + 1 + 1) (spanT lo hi more ++ (6, [41]) :: (k, t) :: ks) := by
    have := Sg.tl a1
    simpa using this
  refine T.fin ?_
  unfold r05_parser_base_F
  refine T.eq e1 (T.brF rfl (T.eq (is_no hA rfl) (T.brF rfl (T.eq (is_no hA rfl) (T.brF rfl (T.eq (is_no hA rfl) (T.brF rfl (T.eq (is_yes hA rfl) (T.brT rfl (T.eq (is_yes a1 rfl) (T.brT rfl (T.eq (bounds_span a2 hl hh) (T.eq (must_yes a2.app rfl) (T.some ?_))))))))))))))
  have e : a + (((5, [73, 78, 84, 69, 71, 69, 82]) :: (6, [40]) :: (spanT lo hi more ++ [(6, [41])]) : KS).length : Int) = a + 1 + 1 + ((spanT lo hi more).length : Int) + 1 := by
    simp only [List.length_cons, List.length_append, List.length_nil]; omega
  rw [e]
end bases
end Go.Proofs.YtiibmpdjkdjbiaaGreatDoor


namespace Go.Proofs.YtiibmpdjkdjbiaaGreatDoor
open Go.Sy
set_option linter.unusedVariables false
set_option maxRecDepth 4000

theorem add_at {l : List GTyp} {t : GTyp} {m : GMod} (h : l.length ≤ 300) : table_types_add ⟨⟨l⟩, m⟩ t = some ((l.length : Int), ⟨⟨l ++ [t]⟩, m⟩) := by
  refine T.fin ?_
  unfold table_types_add
  have e : (l ++ [t]).length = l.length + 1 := by rw [List.length_append, List.length_singleton]
  refine T.jp (ι := GTmk) (fun q => q = ⟨⟨l ++ [t]⟩, m⟩) (fun J hJ => T.abl (by simp only [List.length_singleton]; omega) (hJ _ rfl)) fun q hq => ?_
  subst hq
  dsimp only
  have e2 : (((l ++ [t]).length : Nat) : Int) - 1 = l.length := by omega
  rw [e2]
  exact T.ck (by omega) (T.some rfl)
theorem nodeP_unf (n : Nat) : table_maker_node (n + 1) = table_maker_node_F (table_maker_field n) (table_maker_node n) (table_maker_made n) (table_maker_fields n) := rfl
theorem madeP_unf (n : Nat) : table_maker_made (n + 1) = table_maker_made_F (table_maker_field n) (table_maker_node n) (table_maker_made n) (table_maker_fields n) := rfl
structure MT (m : GMod) (nd : GNode) (h sz : Nat) (tt : Nat → List GTyp) : Prop where
  len : ∀ i, (tt i).length = sz
  go : ∀ {n : Nat} {d : Int} {l : List GTyp}, 4 * h + 1 ≤ n → 0 ≤ d → d + h ≤ 16 → l.length + sz ≤ 300 → table_maker_made n ⟨⟨l⟩, m⟩ nd d = some ((l.length : Int), 0, ⟨⟨l ++ tt l.length⟩, m⟩)
structure NT (m : GMod) (k : Int) (h sz : Nat) (tt : Nat → List GTyp) : Prop where
  len : ∀ i, (tt i).length = sz
  go : ∀ {n : Nat} {d : Int} {l : List GTyp}, 4 * h + 2 ≤ n → 0 ≤ d → d + h ≤ 16 → l.length + sz ≤ 300 → table_maker_node n ⟨⟨l⟩, m⟩ k d = some ((l.length : Int), 0, ⟨⟨l ++ tt l.length⟩, m⟩)
theorem nt_un {m : GMod} {k : Nat} {nd : GNode} (hk : m.nodes[k]? = some nd) (h11 : nd.kind ≠ 11) (hm : nd.mark.has = false) {h sz : Nat} {tt : Nat → List GTyp} (hM : MT m nd h sz tt) : NT m (k : Int) h sz tt := by
  refine ⟨hM.len, ?_⟩
  intro n d l h1 h2 h3 h4
  obtain ⟨n, rfl⟩ : ∃ n', n = n' + 1 := ⟨n - 1, by omega⟩
  have hkl := (List.getElem?_eq_some_iff.1 hk).1
  rw [nodeP_unf]
  refine T.fin ?_
  unfold table_maker_node_F
  refine T.jp (fun b => b = false) (fun J hJ => T.brF (decide_eq_false (by omega)) (hJ _ (decide_eq_false (by dsimp only; omega)))) fun b hb => T.brF hb (T.eq (getI_at (Int.natCast_nonneg _) (by rw [Int.toNat_natCast]; exact hk)) ?_)
  refine T.jp (ι := Int × Int × GTmk) (fun q => q = ((l.length : Int), 0, ⟨⟨l ++ tt l.length⟩, m⟩)) (fun J hJ => T.brF (decide_eq_false h11) (T.eq (hM.go (by omega) h2 h3 h4) (hJ _ rfl))) fun q hq => ?_
  subst hq
  refine T.brF rfl (T.eq (y := (0, ⟨⟨l ++ tt l.length⟩, m⟩)) ?_ (T.some rfl))
  unfold table_maker_marked
  rw [hm]; rfl
end Go.Proofs.YtiibmpdjkdjbiaaGreatDoor


namespace Go.Proofs.YtiibmpdjkdjbiaaGreatDoor
open Go.Sy
set_option linter.unusedVariables false
set_option maxRecDepth 4000

def leafP (nd : GNode) (u : Int) : GTyp := ⟨nd.kind, [⟨0, u⟩], nd.con, [], [], nd.root, nd.more, 0⟩
theorem mt_int {m : GMod} {nd : GNode} (hk : nd.kind = 2) (hc : bounds_Check nd.con false = some 0) : MT m nd 0 1 (fun _ => [leafP nd 2]) := by
  refine ⟨fun _ => rfl, ?_⟩
  intro n d l h1 h2 h3 h4
  obtain ⟨n, rfl⟩ : ∃ n', n = n' + 1 := ⟨n - 1, by omega⟩
  rw [madeP_unf]
  refine T.fin ?_
  unfold table_maker_made_F
  refine T.jp (fun b => b = false) (fun J hJ => T.brF (decide_eq_false (by omega)) (hJ _ (decide_eq_false (by dsimp only; omega)))) fun b hb => T.brF hb ?_
  refine T.jp (ι := GTyp) (fun t => t = leafP nd 2) (fun J hJ => T.brT (by rw [decide_eq_false (show ¬ nd.kind = 9 by omega)]; rfl) (T.eq (y := ⟨0, 2⟩) (by rw [hk]; kernel_rfl) (hJ _ rfl))) fun t ht => ?_
  subst ht
  refine T.eq (add_at (by omega)) ?_
  exact T.jp (ι := Int × GTmk) (fun q => q = (0, ⟨⟨l ++ [leafP nd 2]⟩, m⟩)) (fun J hJ => T.brT (decide_eq_true hk) (T.eq hc (hJ _ rfl))) fun q hq => T.some (by rw [hq])
theorem innerP_unf (n : Nat) : table_types_inner (n + 1) = table_types_inner_F (table_types_inner n) := rfl
theorem innerP1_unf (n : Nat) : table_types_inner_1 (n + 1) = table_types_inner_1_F (table_types_inner_1 n) := rfl
theorem wildP_tag {l : List GTyp} {m : GMod} {i : Nat} {t : GTyp} {x : Tag} {xs : List Tag} (ht : l[i]? = some t) (hx : t.tags = x :: xs) : table_types_wild ⟨⟨l⟩, m⟩ (i : Int) = some (false, ⟨⟨l⟩, m⟩) := by
  refine T.fin ?_
  unfold table_types_wild
  have hi := (List.getElem?_eq_some_iff.1 ht).1
  have e : fuel = (fuel - 1) + 1 := by unfold fuel; rfl
  have hin : table_types_inner fuel ⟨⟨l⟩, m⟩ (i : Int) 300 false = some (⟨⟨l⟩, m⟩, 299, false) := by
    rw [e, innerP_unf]
    refine T.fin ?_
    unfold table_types_inner_F
    have hc : table_types_wild_c1 t false = some false := by
      refine T.fin ?_
      unfold table_types_wild_c1
      refine T.jp (fun b => b = false) (fun J hJ => T.brF rfl (T.jp (fun b => b = false) (fun J2 h2 => T.br (fun _ => h2 _ (by rw [hx]; exact decide_eq_false (by simp only [List.length_cons]; omega))) fun _ => h2 _ rfl) fun b hb => T.jp (fun b => b = false) (fun J2 h2 => T.brF hb (h2 _ rfl)) fun b hb => hJ _ hb)) fun b hb => T.some hb
    refine T.jp (fun b => b = false) (fun J hJ => T.brF (decide_eq_false (by omega)) (hJ _ (decide_eq_false (by dsimp only; omega)))) fun b hb => T.jp (fun b => b = false) (fun J hJ => T.brF hb (hJ _ rfl)) fun b hb => T.brF hb (T.ck (by omega) (T.asd ⟨by omega, by dsimp only; omega⟩ (T.eq (y := t) (by rw [Int.toNat_natCast]; exact ht) (T.eq hc (T.brT (by rw [hx]; exact decide_eq_true (by simp only [List.length_cons]; omega)) (T.some rfl))))))
  exact T.eq hin (T.some rfl)
theorem beginsP_tag {l : List GTyp} {m : GMod} {i : Nat} {t : GTyp} {x : Tag} {xs : List Tag} (ht : l[i]? = some t) (hx : t.tags = x :: xs) : table_types_begins ⟨⟨l⟩, m⟩ (i : Int) = some ([x], ⟨⟨l⟩, m⟩) := by
  refine T.fin ?_
  unfold table_types_begins
  have hi := (List.getElem?_eq_some_iff.1 ht).1
  have e : fuel = (fuel - 1) + 1 := by unfold fuel; rfl
  have hin : table_types_inner_1 fuel ⟨⟨l⟩, m⟩ (i : Int) 300 [] = some (⟨⟨l⟩, m⟩, 299, [x]) := by
    rw [e, innerP1_unf]
    refine T.fin ?_
    unfold table_types_inner_1_F
    have hp : decide ((0 : Int) < (t.tags.length : Int)) = true := by rw [hx]; exact decide_eq_true (by simp only [List.length_cons]; omega)
    have hc : table_types_begins_c1 t [] = some [x] := by
      refine T.fin ?_
      unfold table_types_begins_c1
      exact T.brT hp (T.eq (y := x) (by rw [hx]; rfl) (T.asr rfl (T.some rfl)))
    refine T.jp (fun b => b = false) (fun J hJ => T.brF (decide_eq_false (by omega)) (hJ _ (decide_eq_false (by dsimp only; omega)))) fun b hb => T.jp (fun b => b = false) (fun J hJ => T.brF hb (hJ _ rfl)) fun b hb => T.brF hb (T.ck (by omega) (T.asd ⟨by omega, by dsimp only; omega⟩ (T.eq (y := t) (by rw [Int.toNat_natCast]; exact ht) (T.eq hc (T.brT hp (T.some rfl))))))
  exact T.eq hin (T.some rfl)
theorem toldP {l : List GTyp} {m : GMod} {fs : List GFld} {tg : List Tag} {o : Bool} (hl : fs.length ≤ 1000) (hlen : tg.length = fs.length) (h : ∀ (k : Nat) (f : GFld) (x : Tag), fs[k]? = some f → tg[k]? = some x → ∃ (i : Nat) (t : GTyp) (xs : List Tag), f.ty = (i : Int) ∧ l[i]? = some t ∧ t.tags = x :: xs) : table_types_told ⟨⟨l⟩, m⟩ fs o = some (decide tg.Nodup, ⟨⟨l⟩, m⟩) := by
  refine T.fin ?_
  unfold table_types_told
  refine T.lp (ι := List (List Tag) × Int × GTmk) (fun q => 0 ≤ q.2.1 ∧ q.2.1 ≤ fs.length ∧ q.1.flatten = tg.take q.2.1.toNat ∧ q.1.length ≤ 2000 ∧ (q.1.length : Int) = q.2.1 ∧ q.2.2 = ⟨⟨l⟩, m⟩) (fun q => ((fs.length : Int) - q.2.1).toNat) ⟨Int.le_refl _, by dsimp only; omega, rfl, Nat.zero_le _, rfl, rfl⟩ (by dsimp only; omega) fun L q ⟨q1, q2, q3, q4, q5, q6⟩ hL => ?_
  obtain ⟨s, k, y⟩ := q
  dsimp only at q1 q2 q3 q4 q5 q6 hL ⊢
  subst q6
  refine T.br (fun hb => ?_) fun hb => ?_
  · have hb := of_decide_eq_true hb
    have hk1 : (k + 1).toNat = k.toNat + 1 := by omega
    obtain ⟨x, hx⟩ : ∃ x, tg[k.toNat]? = some x := ⟨_, List.getElem?_eq_getElem (by omega)⟩
    refine T.get q1 hb fun f hf => ?_
    obtain ⟨i, t, xs, e1, e2, e3⟩ := h k.toNat f x hf hx
    rw [e1]
    refine T.eq (wildP_tag e2 e3) (T.jp (fun b => b = false) (fun J hJ => T.brF rfl (hJ _ rfl)) fun b hb2 => T.brF hb2 (T.eq (beginsP_tag e2 e3) (T.abl (by simp only [List.length_singleton]; omega) (T.ck (by omega) (hL _ ⟨by dsimp only; omega, by dsimp only; omega, ?_, ?_, ?_, rfl⟩ (by dsimp only; omega))))))
    · dsimp only
      rw [hk1, List.take_add_one, hx, List.flatten_append, q3]; rfl
    · dsimp only
      rw [List.length_append, List.length_singleton]; omega
    · dsimp only
      rw [List.length_append, List.length_singleton]; omega
  · have hb := of_decide_eq_false hb
    have hk : k.toNat = tg.length := by omega
    rw [hk, List.take_length] at q3
    exact T.eq (y := decide tg.Nodup) (by show some (decide s.flatten.Nodup) = _; rw [q3]) (T.some rfl)
end Go.Proofs.YtiibmpdjkdjbiaaGreatDoor


namespace Go.Proofs.YtiibmpdjkdjbiaaGreatDoor
open Go.Sy
set_option linter.unusedVariables false
set_option maxRecDepth 4000

theorem fieldP_unf (n : Nat) : table_maker_field (n + 1) = table_maker_field_F (table_maker_field n) (table_maker_node n) (table_maker_made n) (table_maker_fields n) := rfl
theorem fieldsP_unf (n : Nat) : table_maker_fields (n + 1) = table_maker_fields_F (table_maker_field n) (table_maker_node n) (table_maker_made n) (table_maker_fields n) := rfl
theorem names_no {l : List GFld} {f : GFld} (hl : l.length ≤ 1000) (h : ∀ g ∈ l, g.name ≠ f.name) : slices_ContainsFunc_Lapi_Field_api_Field_1 l f = some (false, f) := by
  refine T.fin ?_
  unfold slices_ContainsFunc_Lapi_Field_api_Field_1
  refine T.cal (Q := fun r => r = (-1, f)) ?_ fun r _ hr => T.some (by rw [hr]; rfl)
  unfold slices_IndexFunc_Lapi_Field_api_Field_1
  refine T.lp (ι := Int × GFld) (fun q => 0 ≤ q.1 ∧ q.1 ≤ l.length ∧ q.2 = f) (fun q => ((l.length : Int) - q.1).toNat) ⟨Int.le_refl _, by dsimp only; omega, rfl⟩ (by dsimp only; omega) fun L q ⟨k1, k2, k3⟩ hL => ?_
  obtain ⟨k, g⟩ := q
  dsimp only at k1 k2 k3 hL ⊢
  subst k3
  refine T.br (fun hb => ?_) fun _ => T.some rfl
  have hb := of_decide_eq_true hb
  refine T.get k1 hb fun z hz => ?_
  have hz1 := h z (List.mem_of_getElem? hz)
  exact T.eq (y := (false, g)) (by show some (decide (z.name = g.name), g) = _; rw [decide_eq_false hz1]) (T.brF rfl (T.ck (by omega) (hL _ ⟨by dsimp only; omega, by dsimp only; omega, rfl⟩ (by dsimp only; omega))))
def AutP (auto : Bool) (k : Int) (tt tt' : Nat → List GTyp) : Prop :=
  (auto = false ∧ tt' = tt) ∨ (auto = true ∧ ∃ (t : Nat → GTyp) (r : Nat → List GTyp), (∀ i, tt i = t i :: r i) ∧ (∀ i, tt' i = { t i with tags := [⟨2, k⟩] } :: r i) ∧ ∀ i, tags_Wrap (t i).tags k (if (t i).tags = [] then 0 else 1) = some ([⟨2, k⟩], 0))
theorem AutP.len {auto : Bool} {k : Int} {tt tt' : Nat → List GTyp} (h : AutP auto k tt tt') (i : Nat) : (tt' i).length = (tt i).length := by
  rcases h with ⟨_, rfl⟩ | ⟨_, t, r, h1, h2, _⟩
  · rfl
  · rw [h1, h2]; rfl
end Go.Proofs.YtiibmpdjkdjbiaaGreatDoor


namespace Go.Proofs.YtiibmpdjkdjbiaaGreatDoor
open Go.Sy
set_option linter.unusedVariables false
set_option maxRecDepth 4000

def cntF : List Bool → Nat
  | [] => 0
  | b :: r => (if b then 0 else 1) + cntF r
theorem cntF_set : ∀ {s : List Bool} {k : Nat}, s[k]? = some false → cntF (s.set k true) + 1 = cntF s
  | [], _, h => by cases h
  | b :: r, 0, h => by cases h; show 0 + cntF r + 1 = 1 + cntF r; omega
  | b :: r, k + 1, h => by
    have := cntF_set (s := r) (k := k) h
    show (if b then 0 else 1) + cntF (r.set k true) + 1 = (if b then 0 else 1) + cntF r
    omega
theorem cntF_le : ∀ s : List Bool, cntF s ≤ s.length
  | [] => Nat.le_refl _
  | b :: r => by
    have := cntF_le r
    show (if b then 0 else 1) + cntF r ≤ r.length + 1
    split <;> omega
theorem walkP_unf (n : Nat) : refs_walk (n + 1) = refs_walk_F (refs_walk n) := rfl
def NoRef (m : GMod) : Prop := m.nodes.length ≤ 1000 ∧ ∀ n ∈ m.nodes, n.kind ≠ 11 ∧ n.fields.length ≤ 1000
theorem walk_no {m : GMod} (h : NoRef m) : ∀ (n : Nat) (i : Int) (seen : List Bool) (acc : List Str), seen.length = m.nodes.length → cntF seen < n → T (fun r => r.2 = acc ∧ r.1.length = m.nodes.length ∧ cntF r.1 ≤ cntF seen) (refs_walk n m i seen acc)
  | 0, _, _, _, _, hc => absurd hc (Nat.not_lt_zero _)
  | n + 1, i, seen, acc, hl, hc => by
    rw [walkP_unf]
    unfold refs_walk_F
    refine T.jp (fun b => b = false → 0 ≤ i ∧ i < m.nodes.length) (fun J hJ => T.br (fun _ => hJ _ fun e => by cases e) fun h1 => hJ _ fun h2 => ⟨by have := of_decide_eq_false h1; omega, by have := of_decide_eq_false h2; omega⟩) fun b hb => ?_
    refine T.jp (fun c => c = false → 0 ≤ i ∧ i < m.nodes.length ∧ seen[i.toNat]? = some false) (fun J hJ => T.br (fun _ => hJ _ fun e => by cases e) fun h1 => ?_) fun c hcc => ?_
    · obtain ⟨i0, i1⟩ := hb h1
      refine T.asd ⟨i0, by omega⟩ ?_
      obtain ⟨y, hy⟩ : ∃ y, seen[i.toNat]? = some y := ⟨_, List.getElem?_eq_getElem (by omega)⟩
      exact T.eq hy (hJ _ fun e => ⟨i0, i1, by rw [hy, e]⟩)
    refine T.br (fun _ => T.some ⟨rfl, hl, Nat.le_refl _⟩) fun h1 => ?_
    obtain ⟨i0, i1, hs⟩ := hcc h1
    refine T.asd ⟨i0, by omega⟩ (T.eq hs (T.get i0 i1 fun nd hnd => ?_))
    obtain ⟨n1, n2⟩ := h.2 nd (List.mem_of_getElem? hnd)
    refine T.eq (y := acc) (by show br (decide (nd.kind = 11)) _ _ = _; rw [decide_eq_false n1]; rfl) (T.brF (decide_eq_false n1) ?_)
    have hset := cntF_set hs
    have hsl : (seen.set i.toNat true).length = m.nodes.length := by rw [List.length_set, hl]
    refine T.lp (ι := List Bool × Int × List Str) (fun q => 0 ≤ q.2.1 ∧ q.2.1 ≤ nd.fields.length ∧ q.2.2 = acc ∧ q.1.length = m.nodes.length ∧ cntF q.1 ≤ cntF (seen.set i.toNat true)) (fun q => ((nd.fields.length : Int) - q.2.1).toNat) ⟨Int.le_refl _, by dsimp only; omega, rfl, hsl, Nat.le_refl _⟩ (by dsimp only; omega) fun L q ⟨q1, q2, q3, q4, q5⟩ hL => ?_
    obtain ⟨s, k, a⟩ := q
    dsimp only at q1 q2 q3 q4 q5 hL ⊢
    subst q3
    refine T.br (fun hb => ?_) fun _ => T.br (fun hb => ?_) fun _ => T.some ⟨rfl, q4, by dsimp only; omega⟩
    · have hb := of_decide_eq_true hb
      refine T.get q1 hb fun f _ => T.cal (walk_no h n f.ty s a q4 (by omega)) fun r _ ⟨r1, r2, r3⟩ => T.asd (by omega) (T.ck (by omega) (hL _ ⟨by dsimp only; omega, by dsimp only; omega, r1, r2, by dsimp only; omega⟩ (by dsimp only; omega)))
    · exact T.cal (walk_no h n nd.of s a q4 (by omega)) fun r _ ⟨r1, r2, r3⟩ => T.asd (by omega) (T.some ⟨r1, r2, by dsimp only; omega⟩)
theorem refers_no {m : GMod} (h : NoRef m) (i : Int) : refs_refers m i = some [] := by
  refine T.fin ?_
  unfold refs_refers
  have hl := h.1
  have e : ((m.nodes.length : Nat) : Int).toNat = m.nodes.length := Int.toNat_natCast _
  rw [e]
  refine T.asd ⟨by omega, by omega⟩ (T.cal (walk_no h fuel i (List.replicate m.nodes.length false) [] (List.length_replicate ..) ?_) fun r _ ⟨r1, r2, _⟩ => T.asd (by rw [r2, List.length_replicate]) (T.some r1))
  have := cntF_le (List.replicate m.nodes.length false)
  rw [List.length_replicate] at this
  unfold fuel; omega
theorem uses_no {m : GMod} (h : NoRef m) (i : Int) : refs_Uses m i = some [] := by
  unfold refs_Uses
  rw [refers_no h]; kernel_rfl
theorem lost_no {m : GMod} (h : NoRef m) (i : Int) : refs_lost m i = some false := by
  unfold refs_lost
  rw [refers_no h]; kernel_rfl
theorem order_one {m : GMod} (h : NoRef m) {s : Str} {t : Int} (hn : m.names = [s]) (ht : m.types = [t]) : refs_Order m = some ([0], 0, 0) := by
  have hof : refs_of m 0 = some t := by
    refine T.fin ?_
    unfold refs_of
    rw [ht]
    exact T.brF rfl (T.some rfl)
  have hfd : refs_Find m s = some 0 := by
    refine T.fin ?_
    unfold refs_Find
    rw [hn]
    refine T.eq (y := 0) ?_ (T.some rfl)
    refine T.fin ?_
    unfold slices_Index_Lstring_string
    refine T.lp (fun (k : Int) => k = 0) (fun _ => 0) rfl (by omega) fun L k hk _ => ?_
    subst hk
    exact T.brT rfl (T.eq (y := s) rfl (T.brT (decide_eq_true rfl) (T.some rfl)))
  have hwr : refs_wrong m [[]] = some (0, 0) := by
    refine T.fin ?_
    unfold refs_wrong
    rw [hn]
    refine T.lp (fun (k : Int) => k = 0 ∨ k = 1) (fun k => (1 - k).toNat) (.inl rfl) (by omega) fun L k hk hL => ?_
    rcases hk with rfl | rfl
    · exact T.brT rfl (T.eq (y := s) rfl (T.eq hfd (T.brF rfl (T.ck (by omega) (hL _ (.inr rfl) (by omega))))))
    refine T.brF rfl ?_
    refine T.lp (fun (k : Int) => k = 0 ∨ k = 1) (fun k => (1 - k).toNat) (.inl rfl) (by omega) fun L k hk hL => ?_
    rcases hk with rfl | rfl
    · exact T.brT rfl (T.eq hof (T.eq (lost_no h t) (T.brF rfl (T.ck (by omega) (hL _ (.inr rfl) (by omega))))))
    refine T.brF rfl ?_
    refine T.lp (fun (k : Int) => k = 0 ∨ k = 1) (fun k => (1 - k).toNat) (.inl rfl) (by omega) fun L k hk hL => ?_
    rcases hk with rfl | rfl
    · exact T.brT rfl (T.asr rfl (T.eq (y := [false]) (by kernel_rfl) (T.asr rfl (T.asr rfl (T.eq (y := false) rfl (T.brF rfl (T.ck (by omega) (hL _ (.inr rfl) (by omega)))))))))
    exact T.brF rfl (T.some rfl)
  refine T.fin ?_
  unfold refs_Order
  rw [hn]
  refine T.lp (ι := List (List Int) × Int) (fun q => q = ([], 0) ∨ q = ([[]], 1)) (fun q => (1 - q.2).toNat) (.inl rfl) (by dsimp only; omega) fun L q hq hL => ?_
  rcases hq with rfl | rfl
  · exact T.brT rfl (T.eq hof (T.eq (uses_no h t) (T.asr rfl (T.ck (by dsimp only; omega) (hL _ (.inr rfl) (by dsimp only; omega))))))
  refine T.brF rfl (T.eq hwr (T.brF rfl ?_))
  refine T.lp (ι := List Int) (fun q => q = [] ∨ q = [0]) (fun q => 1 - q.length) (.inl rfl) (by simp) fun L q hq hL => ?_
  rcases hq with rfl | rfl
  · refine T.brT rfl ?_
    refine T.lp (ι := Int × List Int) (fun q => q = (0, [])) (fun _ => 0) rfl (by omega) fun L2 q hq _ => ?_
    subst hq
    refine T.brT rfl (T.eq (y := false) (by kernel_rfl) (T.jp (ι := Bool × List Int) (fun q => q = (true, [])) (fun J hJ => T.brT rfl (T.eq (y := []) rfl (T.eq (y := (false, [])) (by kernel_rfl) (hJ _ rfl)))) fun q hq => ?_))
    subst hq
    exact T.brT rfl (T.asr rfl (hL _ (.inr rfl) (by simp)))
  · exact T.brF rfl (T.some rfl)
end Go.Proofs.YtiibmpdjkdjbiaaGreatDoor


namespace Go.Proofs.YtiibmpdjkdjbiaaGreatDoor
open Go.Sy
set_option linter.unusedVariables false
set_option maxRecDepth 4000

structure Cp where
  f : GFld
  sz : Nat
  tt : Nat → List GTyp
structure CpK (m : GMod) (h : Nat) (auto : Bool) (k : Nat) (c : Cp) : Prop where
  n : ∃ tt0, NT m c.f.ty h c.sz tt0 ∧ AutP auto (k : Int) tt0 c.tt
  has : c.f.has = false
theorem CpK.len {m : GMod} {h : Nat} {auto : Bool} {k : Nat} {c : Cp} (x : CpK m h auto k c) (i : Nat) : (c.tt i).length = c.sz := by
  obtain ⟨tt0, h1, h2⟩ := x.n
  rw [h2.len, h1.len]
def AutIs (m : GMod) (nd : GNode) (auto : Bool) : Prop := ∀ l : List GTyp, table_maker_automatic ⟨⟨l⟩, m⟩ nd = some (auto, ⟨⟨l⟩, m⟩)
theorem aut_off {m : GMod} {nd : GNode} (h : m.tagging ≠ 2) : AutIs m nd false := fun l => by
  refine T.fin ?_
  unfold table_maker_automatic
  exact T.jp (ι := Bool × GTmk) (fun q => q = (false, ⟨⟨l⟩, m⟩)) (fun J hJ => T.brF (decide_eq_false h) (hJ _ rfl)) fun q hq => T.some (by rw [hq])
def tgP (k : Int) : List Tag := if k = 9 then [] else if k = 7 then [⟨0, 16⟩] else [⟨0, 17⟩]
def conP (nd : GNode) (fs : List GFld) : GTyp := ⟨nd.kind, tgP nd.kind, nd.con, [], fs, nd.root, nd.more, 0⟩
theorem make_one {m : GMod} {s : Str} (hm : m.names = [s]) (ht : m.types = [0]) (hn : NoRef m) {nd : GNode} {e : Int} {i : Int} {ts : List GTyp} (h0 : m.nodes[0]? = some nd) (hk : nd.kind ≠ 11) (hmk : nd.mark.has = false) (hgo : table_maker_made (fuel - 1) ⟨⟨[]⟩, m⟩ nd 0 = some (0, e, ⟨⟨ts⟩, m⟩)) :
    table_Make m = some (if e = 0 then (⟨m.name, [s], [0], ts⟩, 0, 0) else (⟨⟨[]⟩, [], [], []⟩, 0, e)) := by
  have hnode : table_maker_node fuel ⟨⟨[]⟩, m⟩ 0 0 = some (0, e, ⟨⟨ts⟩, m⟩) := by
    have ef : fuel = (fuel - 1) + 1 := by unfold fuel; rfl
    rw [ef, nodeP_unf]
    refine T.fin ?_
    have hkl := (List.getElem?_eq_some_iff.1 h0).1
    unfold table_maker_node_F
    refine T.jp (fun b => b = false) (fun J hJ => T.brF rfl (hJ _ (decide_eq_false (by dsimp only; omega)))) fun b hb => T.brF hb (T.eq (getI_at (Int.le_refl _) h0) ?_)
    refine T.jp (ι := Int × Int × GTmk) (fun q => q = (0, e, ⟨⟨ts⟩, m⟩)) (fun J hJ => T.brF (decide_eq_false hk) (T.eq hgo (hJ _ rfl))) fun q hq => ?_
    subst hq
    refine T.br (fun _ => T.some rfl) fun he => ?_
    have he : e = 0 := by
      have := he
      simpa using this
    refine T.eq (y := (0, ⟨⟨ts⟩, m⟩)) ?_ (T.some (by rw [he]))
    unfold table_maker_marked
    rw [hmk]; rfl
  refine T.fin ?_
  unfold table_Make
  refine T.eq (order_one hn hm ht) (T.brF rfl (T.brF (by rw [hm, ht]; rfl) ?_))
  refine T.jp (ι := GTab) (fun t => t = ⟨m.name, [s], [], []⟩) (fun J hJ => T.eq (y := [s]) (by rw [hm]; kernel_rfl) (hJ _ rfl)) fun t htt => ?_
  subst htt
  refine T.lp (ι := Int × GTab × GTmk) (fun q => q = (0, ⟨m.name, [s], [], []⟩, ⟨⟨[]⟩, m⟩) ∨ (e = 0 ∧ q = (1, ⟨m.name, [s], [0], []⟩, ⟨⟨ts⟩, m⟩))) (fun q => (1 - q.1).toNat) (.inl rfl) (by dsimp only; omega) fun L q hq hL => ?_
  rcases hq with rfl | ⟨he, rfl⟩
  · refine T.brT (by rw [hm]; rfl) (T.eq (y := 0) (by rw [ht]; rfl) (T.eq hnode (T.br (fun he => T.some ?_) fun he => T.asr rfl (T.ck (by dsimp only; omega) (hL _ (.inr ⟨?_, rfl⟩) (by dsimp only; omega))))))
    · have he : ¬ e = 0 := by simpa using he
      rw [if_neg he]
    · simpa using he
  · refine T.brF (by rw [hm]; rfl) (T.some ?_)
    rw [if_pos he]
end Go.Proofs.YtiibmpdjkdjbiaaGreatDoor


namespace Go.Proofs.YtiibmpdjkdjbiaaGreatDoor
open Go.Sy
set_option linter.unusedVariables false

structure Fl where
  name : List UInt8
  ts : KS
  sz : Nat
  ns : Nat → List GNode
  tail : KS
  opt : Bool
  has : Bool
  df : Val
def Fl.toks (f : Fl) : KS := (2, f.name) :: (f.ts ++ f.tail)
def Fl.fl (f : Fl) (g : Int) (i : Nat) : GFld := ⟨⟨f.name⟩, (i : Int), f.opt, f.has, f.df, g⟩
@[reducible] def zv : Val := Val.mk 0 0 [] [] 0 []
def addF (n : GNode) (f : GFld) : GNode := ⟨n.kind, n.name, n.mark, n.con, n.items, n.fields ++ [f], n.root, n.more, n.of⟩
structure Sep (k : Int) (t : List UInt8) : Prop where
  par : isK k t [40] = false
  opt : isK k t [79, 80, 84, 73, 79, 78, 65, 76] = false
  dft : isK k t [68, 69, 70, 65, 85, 76, 84] = false
theorem sep_comma : Sep 6 [44] := ⟨rfl, rfl, rfl⟩
theorem sep_brace : Sep 6 [125] := ⟨rfl, rfl, rfl⟩
theorem sep_brack : Sep 6 [93, 93] := ⟨rfl, rfl, rfl⟩
structure FldK (h : Nat) (kind : Int) (f : Fl) : Prop where
  len : ∀ i, (f.ns i).length = f.sz
  go : ∀ {n : Nat} {d : Int} {L : List GTok} {a : Int} {m : GMod} {k : Int} {t : List UInt8} {ks : KS} {nd : GNode} {g : Int}, 4 * h + 1 ≤ n → 0 ≤ d → d + h ≤ 16 → Sg L a (f.toks ++ (k, t) :: ks) → Sep k t → m.nodes.length + f.sz ≤ 300 → nd.kind = kind → nd.fields.length ≤ 1000 →
    r05_parser_field n ⟨L, a, m, 0, 0⟩ nd d g = some (⟨L, a + f.toks.length, addN m (f.ns m.nodes.length), 0, 0⟩, addF nd (f.fl g m.nodes.length))
theorem field_unf (n : Nat) : r05_parser_field (n + 1) = r05_parser_field_F (r05_parser_field n) (r05_parser_typ n) (r05_parser_base n) (r05_parser_fields n) := rfl
theorem fields_unf (n : Nat) : r05_parser_fields (n + 1) = r05_parser_fields_F (r05_parser_field n) (r05_parser_typ n) (r05_parser_base n) (r05_parser_fields n) := rfl
def ValK (vt : KS) (v : Val) : Prop := ∀ {L : List GTok} {a : Int} {m : GMod} {ks : KS}, Sg L a (vt ++ ks) → r05_parser_value ⟨L, a, m, 0, 0⟩ = some (v, ⟨L, a + vt.length, m, 0, 0⟩)
theorem fld_dflt {h sz : Nat} {ts vt : KS} {v : Val} {ns : Nat → List GNode} (hT : TypK h ts sz ns) (hV : ValK vt v) {kind : Int} (h9 : kind ≠ 9) (nm : List UInt8) : FldK h kind ⟨nm, ts, sz, ns, (5, [68, 69, 70, 65, 85, 76, 84]) :: vt, false, true, v⟩ := by
  refine ⟨hT.len, ?_⟩
  intro n d L a m k t ks nd g h1 h2 h3 hA hs hm hk hf
  obtain ⟨n, rfl⟩ : ∃ n', n = n' + 1 := ⟨n - 1, by omega⟩
  have a1 : Sg L (a + 1) (ts ++ (5, [68, 69, 70, 65, 85, 76, 84]) :: (vt ++ (k, t) :: ks)) := by
    have := Sg.tl hA
    simpa using this
  have a2 := a1.app
  have a3 := Sg.tl a2
  rw [field_unf]
  refine T.fin ?_
  unfold r05_parser_field_F
  refine T.eq (kind_yes hA) (T.ck (by omega) (T.eq (hT.go (by omega) (by omega) (by omega) a1 rfl hm) ?_))
  refine T.jp0 (T.brF (decide_eq_false (by rw [hk]; exact h9)) (T.eq (is_no a2 rfl) (T.brF rfl (T.eq (is_yes a2 rfl) (T.brT rfl (T.eq (hV a3) ?_))))))
  refine T.abl (by simp only [List.length_singleton]; omega) (T.some ?_)
  have e : a + ((Fl.toks ⟨nm, ts, sz, ns, (5, [68, 69, 70, 65, 85, 76, 84]) :: vt, false, true, v⟩).length : Int) = a + 1 + (ts.length : Int) + 1 + (vt.length : Int) := by
    unfold Fl.toks; simp only [List.length_cons, List.length_append]; omega
  rw [e]; rfl

/-! ### Some of them, with commas -/
def sepK : List KS → KS
  | [] => []
  | [x] => x
  | x :: y :: r => x ++ (6, [44]) :: sepK (y :: r)
def Fl.stp (g : Int) (s : GMod × GNode) (f : Fl) : GMod × GNode := (addN s.1 (f.ns s.1.nodes.length), addF s.2 (f.fl g s.1.nodes.length))
def szL (l : List Fl) : Nat := (l.map Fl.sz).sum
theorem grp_T {h : Nat} {kind : Int} {n : Nat} {d g : Int} {L : List GTok} {k : Int} {t : List UInt8} {ks : KS} {β : Type} {R : β → Prop} {J : GPar × GNode → Option β}
    (hn : 4 * h + 1 ≤ n) (hd : 0 ≤ d) (hdh : d + h ≤ 16) (hs : Sep k t) (hc : isK k t [44] = false) {fls : List Fl} {a : Int} {m : GMod} {nd : GNode} (hne : fls ≠ [])
    (hA : Sg L a (sepK (fls.map Fl.toks) ++ (k, t) :: ks)) (hm : m.nodes.length + szL fls ≤ 300) (hk : nd.kind = kind) (hf : nd.fields.length + fls.length ≤ 1000) (hF : ∀ f ∈ fls, FldK h kind f)
    (hJ : T R (J (⟨L, a + (sepK (fls.map Fl.toks)).length, (fls.foldl (Fl.stp g) (m, nd)).1, 0, 0⟩, (fls.foldl (Fl.stp g) (m, nd)).2))) :
    T R (lp (ι := GPar × GNode) (fun L81 q80 => br (decide (q80.1.e = (0 : Int))) (cal (r05_parser_field n q80.1 q80.2 d g) fun y91 => cal (r05_parser_is y91.1 (Str.mk [44])) fun y97 => br (!y97.1) (J (y97.2, y91.2)) (L81 (y97.2, y91.2))) (J (q80.1, q80.2))) ((⟨L, a, m, 0, 0⟩, nd))) := by
  let I : GPar × GNode → Prop := fun q => ∃ (rest : List Fl) (a1 : Int) (m1 : GMod) (nd1 : GNode), q = (⟨L, a1, m1, 0, 0⟩, nd1) ∧ rest ≠ [] ∧ Sg L a1 (sepK (rest.map Fl.toks) ++ (k, t) :: ks) ∧ a1 + (sepK (rest.map Fl.toks)).length = a + (sepK (fls.map Fl.toks)).length ∧ rest.foldl (Fl.stp g) (m1, nd1) = fls.foldl (Fl.stp g) (m, nd) ∧ m1.nodes.length + szL rest ≤ 300 ∧ nd1.kind = kind ∧ nd1.fields.length + rest.length ≤ 1000 ∧ (∀ f ∈ rest, FldK h kind f)
  have hI0 : I (⟨L, a, m, 0, 0⟩, nd) := ⟨fls, a, m, nd, rfl, hne, hA, rfl, rfl, hm, hk, hf, hF⟩
  refine T.lp I (fun q => ((L.length : Int) - q.1.at_).toNat) hI0 (by have := hA.a0; have := hA.len; dsimp only; omega) fun L2 q hq hL => ?_
  obtain ⟨rest, a1, m1, nd1, rfl, hne1, hA1, ha1, hfo, hm1, hk1, hf1, hF1⟩ := hq
  dsimp only at hL ⊢
  refine T.brT rfl ?_
  cases rest with
  | nil => exact absurd rfl hne1
  | cons f r =>
    have hfk := hF1 f (List.mem_cons_self ..)
    have hsz : szL (f :: r) = f.sz + szL r := by unfold szL; simp
    rw [List.length_cons] at hf1
    cases r with
    | nil =>
      have hA2 : Sg L a1 (f.toks ++ (k, t) :: ks) := hA1
      refine T.eq (hfk.go hn hd hdh hA2 hs (by omega) hk1 (by omega)) (T.eq (is_no hA2.app hc) (T.brT rfl ?_))
      have e1 : a1 + (f.toks.length : Int) = a + (sepK (fls.map Fl.toks)).length := ha1
      have e2 : (addN m1 (f.ns m1.nodes.length), addF nd1 (f.fl g m1.nodes.length)) = fls.foldl (Fl.stp g) (m, nd) := hfo
      rw [← e1, ← e2] at hJ
      exact hJ
    | cons f2 r =>
      have hA2 : Sg L a1 (f.toks ++ (6, [44]) :: (sepK ((f2 :: r).map Fl.toks) ++ (k, t) :: ks)) := by
        have e : sepK ((f :: f2 :: r).map Fl.toks) ++ (k, t) :: ks = f.toks ++ (6, [44]) :: (sepK ((f2 :: r).map Fl.toks) ++ (k, t) :: ks) := by
          show (f.toks ++ (6, [44]) :: sepK ((f2 :: r).map Fl.toks)) ++ (k, t) :: ks = _
          rw [List.append_assoc]; rfl
        rw [e] at hA1; exact hA1
      have hA3 := hA2.app
      refine T.eq (hfk.go hn hd hdh hA2 sep_comma (by omega) hk1 (by omega)) (T.eq (is_yes hA3 rfl) (T.brF rfl (hL _ ⟨f2 :: r, _, _, _, rfl, by simp, hA3.tl, ?_, hfo, ?_, hk1, ?_, fun x hx => hF1 x (List.mem_cons_of_mem _ hx)⟩ ?_)))
      · have e : (sepK ((f :: f2 :: r).map Fl.toks)).length = f.toks.length + ((sepK ((f2 :: r).map Fl.toks)).length + 1) := by
          show (f.toks ++ (6, [44]) :: sepK ((f2 :: r).map Fl.toks)).length = _
          rw [List.length_append, List.length_cons]
        rw [e] at ha1
        omega
      · rw [addN_len, hfk.len]; omega
      · unfold addF; dsimp only; rw [List.length_append, List.length_singleton]; rw [List.length_cons] at hf1 ⊢; omega
      · have := hA3.size
        have := hA3.a0
        have := hA1.a0
        dsimp only
        omega

/-! ### What stands within a bracket -/
inductive FI where
  | one (x : Fl)
  | dots
  | grp (l : List Fl)
def FI.toks : FI → KS
  | .one x => x.toks
  | .dots => [(6, [46, 46, 46])]
  | .grp l => (6, [91, 91]) :: (sepK (l.map Fl.toks) ++ [(6, [93, 93])])
def FI.stp (s : Int × GMod × GNode) : FI → Int × GMod × GNode
  | .one x => (s.1, Fl.stp 0 s.2 x)
  | .dots => (s.1, s.2.1, ⟨s.2.2.kind, s.2.2.name, s.2.2.mark, s.2.2.con, s.2.2.items, s.2.2.fields, (s.2.2.fields.length : Int), true, s.2.2.of⟩)
  | .grp l => (s.1 + 1, l.foldl (Fl.stp (s.1 + 1)) s.2)
def FI.fls : FI → List Fl
  | .one x => [x]
  | .dots => []
  | .grp l => l
def szI (l : List FI) : Nat := szL (l.flatMap FI.fls)
def okI (h : Nat) (kind : Int) : Bool → List FI → Prop
  | _, [] => True
  | b, .one x :: r => FldK h kind x ∧ okI h kind b r
  | b, .dots :: r => b = false ∧ okI h kind true r
  | b, .grp l :: r => b = true ∧ l ≠ [] ∧ (∀ f ∈ l, FldK h kind f) ∧ okI h kind true r
theorem fold_facts {h : Nat} {kind : Int} {g : Int} : ∀ {l : List Fl} {m : GMod} {nd : GNode}, (∀ f ∈ l, FldK h kind f) →
    (l.foldl (Fl.stp g) (m, nd)).1.nodes.length = m.nodes.length + szL l ∧ (l.foldl (Fl.stp g) (m, nd)).2.kind = nd.kind ∧ (l.foldl (Fl.stp g) (m, nd)).2.more = nd.more ∧ (l.foldl (Fl.stp g) (m, nd)).2.fields.length = nd.fields.length + l.length
  | [], m, nd, _ => ⟨rfl, rfl, rfl, rfl⟩
  | f :: r, m, nd, hF => by
    obtain ⟨h1, h2, h3, h4⟩ := fold_facts (g := g) (l := r) (m := addN m (f.ns m.nodes.length)) (nd := addF nd (f.fl g m.nodes.length)) fun x hx => hF x (List.mem_cons_of_mem _ hx)
    have e : (f :: r).foldl (Fl.stp g) (m, nd) = r.foldl (Fl.stp g) (addN m (f.ns m.nodes.length), addF nd (f.fl g m.nodes.length)) := rfl
    rw [e, h1, h2, h3, h4]
    refine ⟨?_, rfl, rfl, ?_⟩
    · rw [addN_len, (hF f (List.mem_cons_self ..)).len]; unfold szL; simp; omega
    · unfold addF; dsimp only; simp; omega
def endN (nd : GNode) : GNode := if nd.more then nd else ⟨nd.kind, nd.name, nd.mark, nd.con, nd.items, nd.fields, (nd.fields.length : Int), nd.more, nd.of⟩
theorem fi_first {x : FI} : ∃ k t r, x.toks = (k, t) :: r ∧ isK k t [125] = false ∧ (∀ f, x = .one f → k = 2) := by
  cases x with
  | one x => exact ⟨_, _, _, rfl, rfl, fun _ _ => rfl⟩
  | dots => exact ⟨_, _, _, rfl, rfl, fun _ h => by cases h⟩
  | grp l => exact ⟨_, _, _, rfl, rfl, fun _ h => by cases h⟩
theorem fields_T {h : Nat} {kind : Int} {n : Nat} {d : Int} {L : List GTok} {ks : KS} (hn : 4 * h + 2 ≤ n) (hd : 0 ≤ d) (hdh : d + h ≤ 16) {l : List FI} {a : Int} {m : GMod} {nd : GNode} (hne : l ≠ [])
    (hA : Sg L a (sepK (l.map FI.toks) ++ (6, [125]) :: ks)) (hm : m.nodes.length + szI l ≤ 300) (hk : nd.kind = kind) (hf : nd.fields.length + (l.flatMap FI.fls).length ≤ 1000) (hmo : nd.more = false) (hF : okI h kind false l) :
    r05_parser_fields n ⟨L, a, m, 0, 0⟩ nd d = some (⟨L, a + (sepK (l.map FI.toks)).length + 1, (l.foldl FI.stp (0, m, nd)).2.1, 0, 0⟩, endN (l.foldl FI.stp (0, m, nd)).2.2) := by
  obtain ⟨n, rfl⟩ : ∃ n', n = n' + 1 := ⟨n - 1, by omega⟩
  rw [fields_unf]
  have hfst : ∃ k t r, sepK (l.map FI.toks) ++ (6, [125]) :: ks = (k, t) :: r ∧ isK k t [125] = false := by
    cases l with
    | nil => exact absurd rfl hne
    | cons x r =>
      obtain ⟨k, t, r', e, h1, _⟩ := fi_first (x := x)
      cases r with
      | nil => exact ⟨k, t, r' ++ (6, [125]) :: ks, by show x.toks ++ _ = _; rw [e]; rfl, h1⟩
      | cons y r => exact ⟨k, t, _, by show (x.toks ++ (6, [44]) :: sepK ((y :: r).map FI.toks)) ++ _ = _; rw [e]; rfl, h1⟩
  obtain ⟨k0, t0, r0, e0, hno⟩ := hfst
  have hA0 := hA
  rw [e0] at hA0
  refine T.fin ?_
  unfold r05_parser_fields_F
  refine T.eq (is_no hA0 hno) (T.brF rfl ?_)
  refine T.jp (fun q => q = ((⟨L, a + (sepK (l.map FI.toks)).length, (l.foldl FI.stp (0, m, nd)).2.1, 0, 0⟩ : GPar), (l.foldl FI.stp (0, m, nd)).2.2)) (fun J hJ => ?_) fun q hq => ?_
  · let I : Int × GPar × GNode → Prop := fun q => ∃ (rest : List FI) (g1 a1 : Int) (m1 : GMod) (nd1 : GNode), q = (g1, ⟨L, a1, m1, 0, 0⟩, nd1) ∧ rest ≠ [] ∧ 0 ≤ g1 ∧ g1 ≤ a1 ∧ Sg L a1 (sepK (rest.map FI.toks) ++ (6, [125]) :: ks) ∧ a1 + (sepK (rest.map FI.toks)).length = a + (sepK (l.map FI.toks)).length ∧ rest.foldl FI.stp (g1, m1, nd1) = l.foldl FI.stp (0, m, nd) ∧ m1.nodes.length + szI rest ≤ 300 ∧ nd1.kind = kind ∧ nd1.fields.length + (rest.flatMap FI.fls).length ≤ 1000 ∧ okI h kind nd1.more rest
    have hI0 : I (0, ⟨L, a, m, 0, 0⟩, nd) := ⟨l, 0, a, m, nd, rfl, hne, Int.le_refl _, hA.a0, hA, rfl, rfl, hm, hk, hf, by rw [hmo]; exact hF⟩
    refine T.lp I (fun q => ((L.length : Int) - q.2.1.at_).toNat) hI0 (by have := hA.a0; have := hA.len; dsimp only; omega) fun L2 q hq hL => ?_
    obtain ⟨rest, g1, a1, m1, nd1, rfl, hne1, hg0, hg1, hA1, ha1, hfo, hm1, hk1, hf1, hF1⟩ := hq
    dsimp only at hL ⊢
    refine T.brT rfl ?_
    cases rest with
    | nil => exact absurd rfl hne1
    | cons x r =>
      -- behind the first one
      have hsz : szI (x :: r) = szL x.fls + szI r := by unfold szI szL; simp
      have hfl : ((x :: r).flatMap FI.fls).length = x.fls.length + (r.flatMap FI.fls).length := by simp
      rw [hsz] at hm1
      rw [hfl] at hf1
      have hnext : ∃ k t ks', sepK ((x :: r).map FI.toks) ++ (6, [125]) :: ks = x.toks ++ (k, t) :: ks' ∧ Sep k t ∧ ((r = [] ∧ k = 6 ∧ t = [125] ∧ ks' = ks) ∨ (r ≠ [] ∧ k = 6 ∧ t = [44] ∧ ks' = sepK (r.map FI.toks) ++ (6, [125]) :: ks)) := by
        cases r with
        | nil => exact ⟨6, [125], ks, rfl, sep_brace, .inl ⟨rfl, rfl, rfl, rfl⟩⟩
        | cons y r => exact ⟨6, [44], _, by show (x.toks ++ (6, [44]) :: sepK ((y :: r).map FI.toks)) ++ _ = _; rw [List.append_assoc]; rfl, sep_comma, .inr ⟨by simp, rfl, rfl, rfl⟩⟩
      obtain ⟨k, t, ks', ek, hsep, hcase⟩ := hnext
      rw [ek] at hA1
      have hA2 := hA1.app
      have hA2s := hA2.size
      have hA20 := hA2.a0
      have hA10 := hA1.a0
      have hAl := hA1.len
      have hpos : 1 ≤ x.toks.length := by obtain ⟨k, t, r, e, _⟩ := fi_first (x := x); rw [e]; simp
      have hstep : ∀ q : Int × GPar × GNode, q = ((FI.stp (g1, m1, nd1) x).1, ⟨L, a1 + x.toks.length, (FI.stp (g1, m1, nd1) x).2.1, 0, 0⟩, (FI.stp (g1, m1, nd1) x).2.2) → okI h kind (FI.stp (g1, m1, nd1) x).2.2.more r → (FI.stp (g1, m1, nd1) x).2.1.nodes.length = m1.nodes.length + szL x.fls → (FI.stp (g1, m1, nd1) x).2.2.kind = kind → (FI.stp (g1, m1, nd1) x).2.2.fields.length = nd1.fields.length + x.fls.length → 0 ≤ (FI.stp (g1, m1, nd1) x).1 → (FI.stp (g1, m1, nd1) x).1 ≤ a1 + x.toks.length → T (fun r => r = ((⟨L, a + (sepK (l.map FI.toks)).length + 1, (l.foldl FI.stp (0, m, nd)).2.1, 0, 0⟩ : GPar), endN (l.foldl FI.stp (0, m, nd)).2.2)) (cal (r05_parser_is q.2.1 (Str.mk [44])) fun y110 => br (!y110.1) (J (y110.2, q.2.2)) (L2 (q.1, y110.2, q.2.2))) := by
        intro q hq hok hn1 hk2 hf2 hg2 hg3
        subst hq
        rcases hcase with ⟨hr, hk', ht', hks⟩ | ⟨hr, hk', ht', hks⟩
        · subst hr; subst hk'; subst ht'; subst hks
          refine T.eq (is_no hA2 rfl) (T.brT rfl (hJ _ ?_))
          have e1 : a1 + (x.toks.length : Int) = a + (sepK (l.map FI.toks)).length := ha1
          have e2 : FI.stp (g1, m1, nd1) x = l.foldl FI.stp (0, m, nd) := hfo
          rw [← e1, ← e2]
        · subst hk'; subst ht'; subst hks
          refine T.eq (is_yes hA2 rfl) (T.brF rfl (hL _ ⟨r, _, _, _, _, rfl, hr, hg2, by omega, hA2.tl, ?_, hfo, by omega, hk2, by dsimp only; omega, hok⟩ (by dsimp only; omega)))
          have e : (sepK ((x :: r).map FI.toks)).length = x.toks.length + ((sepK (r.map FI.toks)).length + 1) := by
            cases r with
            | nil => exact absurd rfl hr
            | cons y r =>
              show (x.toks ++ (6, [44]) :: sepK ((y :: r).map FI.toks)).length = _
              rw [List.length_append, List.length_cons]
          rw [e] at ha1
          omega
      cases x with
      | one f =>
        obtain ⟨hfk, hF2⟩ := hF1
        have hs1 : szL (FI.fls (.one f)) = f.sz := by unfold szL FI.fls; simp
        have hgo := hfk.go (n := n) (g := 0) (m := m1) (nd := nd1) (by omega) hd hdh hA1 hsep (by rw [hs1] at hm1; omega) hk1 (by omega)
        refine T.jp (fun q => q = ((FI.stp (g1, m1, nd1) (.one f)).1, ⟨L, a1 + (FI.toks (.one f)).length, (FI.stp (g1, m1, nd1) (.one f)).2.1, 0, 0⟩, (FI.stp (g1, m1, nd1) (.one f)).2.2)) (fun J2 hJ2 => ?_) fun q hq => hstep q hq (by show okI h kind nd1.more r; exact hF2) (by show (addN m1 (f.ns m1.nodes.length)).nodes.length = _; rw [addN_len, hfk.len]; unfold FI.fls szL; simp) hk1 (by show (addF nd1 _).fields.length = _; unfold addF FI.fls; simp) hg0 (by show g1 ≤ _; omega)
        have hA1' : Sg L a1 ((2, f.name) :: (f.ts ++ f.tail ++ (k, t) :: ks')) := hA1
        refine T.jp (fun q => q = (false, (⟨L, a1, m1, 0, 0⟩ : GPar))) (fun J3 hJ3 => T.br (fun _ => T.eq (is_no hA1' rfl) (hJ3 _ rfl)) fun _ => hJ3 _ rfl) fun q hq => ?_
        subst hq
        refine T.brF rfl (T.jp (fun q => q = (false, (⟨L, a1, m1, 0, 0⟩ : GPar))) (fun J3 hJ3 => T.br (fun _ => T.eq (is_no hA1' rfl) (hJ3 _ rfl)) fun _ => hJ3 _ rfl) fun q hq => ?_)
        subst hq
        exact T.brF rfl (T.eq hgo (hJ2 _ rfl))
      | dots =>
        obtain ⟨hmo1, hF2⟩ := hF1
        refine T.jp (fun q => q = ((FI.stp (g1, m1, nd1) .dots).1, ⟨L, a1 + (FI.toks .dots).length, (FI.stp (g1, m1, nd1) .dots).2.1, 0, 0⟩, (FI.stp (g1, m1, nd1) .dots).2.2)) (fun J2 hJ2 => ?_) fun q hq => hstep q hq hF2 rfl hk1 rfl hg0 (by show g1 ≤ _; omega)
        have hA1' : Sg L a1 ((6, [46, 46, 46]) :: (k, t) :: ks') := hA1
        refine T.jp0 (T.brT (by rw [hmo1]; rfl) (T.eq (is_yes hA1' rfl) (T.brT rfl (hJ2 _ rfl))))
      | grp fl =>
        obtain ⟨hmo1, hfl0, hFl, hF2⟩ := hF1
        obtain ⟨f1, f2, f3, f4⟩ := fold_facts (g := g1 + 1) (m := m1) (nd := nd1) hFl
        refine T.jp (fun q => q = ((FI.stp (g1, m1, nd1) (.grp fl)).1, ⟨L, a1 + (FI.toks (.grp fl)).length, (FI.stp (g1, m1, nd1) (.grp fl)).2.1, 0, 0⟩, (FI.stp (g1, m1, nd1) (.grp fl)).2.2)) (fun J2 hJ2 => ?_) fun q hq => hstep q hq (by show okI h kind (fl.foldl (Fl.stp (g1 + 1)) (m1, nd1)).2.more r; rw [f3, hmo1]; exact hF2) (by show (fl.foldl (Fl.stp (g1 + 1)) (m1, nd1)).1.nodes.length = _; rw [f1]; rfl) (by show (fl.foldl (Fl.stp (g1 + 1)) (m1, nd1)).2.kind = _; rw [f2]; exact hk1) (by show (fl.foldl (Fl.stp (g1 + 1)) (m1, nd1)).2.fields.length = _; rw [f4]; rfl) (by show 0 ≤ g1 + 1; omega) (by show g1 + 1 ≤ _; omega)
        have hA1' : Sg L a1 ((6, [91, 91]) :: (sepK (fl.map Fl.toks) ++ (6, [93, 93]) :: (k, t) :: ks')) := by
          have e : FI.toks (.grp fl) ++ (k, t) :: ks' = (6, [91, 91]) :: (sepK (fl.map Fl.toks) ++ (6, [93, 93]) :: (k, t) :: ks') := by
            show ((6, [91, 91]) :: (sepK (fl.map Fl.toks) ++ [(6, [93, 93])])) ++ (k, t) :: ks' = _
            simp
          rw [← e]; exact hA1
        have hA3 := hA1'.tl
        have hA4 := hA3.app
        refine T.jp (fun q => q = (false, (⟨L, a1, m1, 0, 0⟩ : GPar))) (fun J3 hJ3 => T.br (fun _ => T.eq (is_no hA1' rfl) (hJ3 _ rfl)) fun _ => hJ3 _ rfl) fun q hq => ?_
        subst hq
        refine T.brF rfl (T.jp0 (T.brT hmo1 (T.eq (is_yes hA1' rfl) (T.brT rfl (T.ck (by omega) ?_)))))
        refine T.jp (fun q => q = ((⟨L, a1 + 1 + (sepK (fl.map Fl.toks)).length, (fl.foldl (Fl.stp (g1 + 1)) (m1, nd1)).1, 0, 0⟩ : GPar), (fl.foldl (Fl.stp (g1 + 1)) (m1, nd1)).2)) (fun J3 hJ3 => ?_) fun q hq => ?_
        · have hsl : szL (FI.fls (.grp fl)) = szL fl := rfl
          have hll : (FI.fls (.grp fl)).length = fl.length := rfl
          exact grp_T (h := h) (kind := kind) (by omega) hd hdh sep_brack rfl hfl0 hA3 (by omega) hk1 (by omega) hFl (hJ3 _ rfl)
        · subst hq
          refine T.eq (must_yes hA4 rfl) (hJ2 _ ?_)
          have e : a1 + ((FI.toks (.grp fl)).length : Int) = a1 + 1 + (sepK (fl.map Fl.toks)).length + 1 := by
            unfold FI.toks; simp only [List.length_cons, List.length_append, List.length_nil]; omega
          rw [e]; rfl
  · subst hq
    refine T.eq (must_yes hA.app rfl) ?_
    unfold endN
    cases hmf : (l.foldl FI.stp (0, m, nd)).2.2.more with
    | true => exact T.brF rfl (T.some (by rw [if_pos rfl]))
    | false => exact T.brT rfl (T.some (by rw [if_neg (by decide)]))
end Go.Proofs.YtiibmpdjkdjbiaaGreatDoor


namespace Go.Proofs.YtiibmpdjkdjbiaaGreatDoor
open Go.Sy
set_option linter.unusedVariables false

def nsF : List Fl → Nat → List GNode
  | [], _ => []
  | x :: r, i => x.ns i ++ nsF r (i + x.sz)
def ndF (g : Int) : List Fl → Nat → GNode → GNode
  | [], _, nd => nd
  | x :: r, i, nd => ndF g r (i + x.sz) (addF nd (x.fl g i))
def nsI (l : List FI) (i : Nat) : List GNode := nsF (l.flatMap FI.fls) i
def ndI : Int → List FI → Nat → GNode → GNode
  | _, [], _, nd => nd
  | g, .one x :: r, i, nd => ndI g r (i + x.sz) (addF nd (x.fl 0 i))
  | g, .dots :: r, i, nd => ndI g r i ⟨nd.kind, nd.name, nd.mark, nd.con, nd.items, nd.fields, (nd.fields.length : Int), true, nd.of⟩
  | g, .grp l :: r, i, nd => ndI (g + 1) r (i + szL l) (ndF (g + 1) l i nd)
theorem szL_cons (x : Fl) (r : List Fl) : szL (x :: r) = x.sz + szL r := by unfold szL; simp
theorem nsF_len {h : Nat} {kind : Int} : ∀ {l : List Fl} {i : Nat}, (∀ f ∈ l, FldK h kind f) → (nsF l i).length = szL l
  | [], _, _ => rfl
  | x :: r, i, hF => by
    have := nsF_len (l := r) (i := i + x.sz) fun y hy => hF y (List.mem_cons_of_mem _ hy)
    show (x.ns i ++ nsF r (i + x.sz)).length = _
    rw [List.length_append, this, (hF x (List.mem_cons_self ..)).len, szL_cons]
theorem nsF_app : ∀ {a b : List Fl} {i : Nat}, nsF (a ++ b) i = nsF a i ++ nsF b (i + szL a)
  | [], b, i => by show nsF b i = [] ++ nsF b (i + 0); rw [List.nil_append]; rfl
  | x :: r, b, i => by
    show x.ns i ++ nsF (r ++ b) (i + x.sz) = x.ns i ++ nsF r (i + x.sz) ++ _
    rw [nsF_app, szL_cons, List.append_assoc, Nat.add_assoc]
theorem fold_F {h : Nat} {kind g : Int} : ∀ {l : List Fl} {m : GMod} {nd : GNode}, (∀ f ∈ l, FldK h kind f) → l.foldl (Fl.stp g) (m, nd) = (addN m (nsF l m.nodes.length), ndF g l m.nodes.length nd)
  | [], m, nd, _ => by rw [nsF, addN_nil]; rfl
  | x :: r, m, nd, hF => by
    have hx := hF x (List.mem_cons_self ..)
    have := fold_F (g := g) (l := r) (m := addN m (x.ns m.nodes.length)) (nd := addF nd (x.fl g m.nodes.length)) fun y hy => hF y (List.mem_cons_of_mem _ hy)
    show r.foldl (Fl.stp g) (addN m (x.ns m.nodes.length), addF nd (x.fl g m.nodes.length)) = _
    rw [this, addN_len, hx.len, addN_addN]; rfl
theorem fold_I {h : Nat} {kind : Int} : ∀ {l : List FI} {b : Bool} {g : Int} {m : GMod} {nd : GNode}, okI h kind b l → (l.foldl FI.stp (g, m, nd)).2 = (addN m (nsI l m.nodes.length), ndI g l m.nodes.length nd)
  | [], _, g, m, nd, _ => by
    show (m, nd) = (addN m [], nd)
    rw [addN_nil]
  | .one x :: r, b, g, m, nd, hF => by
    obtain ⟨hx, hr⟩ := hF
    have := fold_I (l := r) (b := b) (g := g) (m := addN m (x.ns m.nodes.length)) (nd := addF nd (x.fl 0 m.nodes.length)) hr
    show (r.foldl FI.stp (g, addN m (x.ns m.nodes.length), addF nd (x.fl 0 m.nodes.length))).2 = _
    rw [this, addN_len, hx.len, addN_addN]; rfl
  | .dots :: r, b, g, m, nd, hF => fold_I (l := r) (b := true) (g := g) (m := m) hF.2
  | .grp l :: r, b, g, m, nd, hF => by
    obtain ⟨_, _, hl, hr⟩ := hF
    have hf := fold_F (g := g + 1) (m := m) (nd := nd) hl
    have := fold_I (l := r) (b := true) (g := g + 1) (m := addN m (nsF l m.nodes.length)) (nd := ndF (g + 1) l m.nodes.length nd) hr
    show (r.foldl FI.stp (g + 1, l.foldl (Fl.stp (g + 1)) (m, nd))).2 = _
    rw [hf, this, addN_len, nsF_len hl, addN_addN]
    unfold nsI
    rw [show (FI.grp l :: r).flatMap FI.fls = l ++ r.flatMap FI.fls from rfl, nsF_app]; rfl
theorem okI_all {h : Nat} {kind : Int} : ∀ {l : List FI} {b : Bool}, okI h kind b l → ∀ f ∈ l.flatMap FI.fls, FldK h kind f
  | [], _, _, f, hf => by cases hf
  | .one x :: r, b, ⟨hx, hr⟩, f, hf => by
    rcases List.mem_cons.1 (show f ∈ x :: r.flatMap FI.fls from hf) with e | e
    · rw [e]; exact hx
    · exact okI_all hr f e
  | .dots :: r, b, hF, f, hf => okI_all hF.2 f hf
  | .grp l :: r, b, ⟨_, _, hl, hr⟩, f, hf => by
    rcases List.mem_append.1 (show f ∈ l ++ r.flatMap FI.fls from hf) with e | e
    · exact hl f e
    · exact okI_all hr f e
def kwF (kind : Int) : List UInt8 := if kind = 7 then [83, 69, 81, 85, 69, 78, 67, 69] else if kind = 8 then [83, 69, 84] else [67, 72, 79, 73, 67, 69]
def fldsT (kind : Int) (l : List FI) : KS := (5, kwF kind) :: (6, [123]) :: (sepK (l.map FI.toks) ++ [(6, [125])])
theorem base_fields {h : Nat} {kind : Int} (hk : kind = 7 ∨ kind = 8 ∨ kind = 9) {l : List FI} (hne : l ≠ []) (hF : okI h kind false l) (hs : szI l ≤ 300) (hl : (l.flatMap FI.fls).length ≤ 1000) :
    BaseK h (fldsT kind l) (szI l) (nsI l) (fun μ i => endN (ndI 0 l i { zm μ with kind := kind })) := by
  refine ⟨fun i => nsF_len (okI_all hF), ?_⟩
  intro n d L a m k t ks μ h1 h2 h3 hA hkt hm
  obtain ⟨n, rfl⟩ : ∃ n', n = n' + 1 := ⟨n - 1, by omega⟩
  rw [base_unf]
  obtain ⟨y, e1, e2, e3⟩ := now_at (m := m) (p := 0) (e := 0) hA
  have a1 := Sg.tl hA
  have a2 : Sg L (a + 1 + 1) (sepK (l.map FI.toks) ++ (6, [125]) :: (k, t) :: ks) := by
    have := Sg.tl a1
    simpa using this
  have hgo := fields_T (h := h) (kind := kind) (n := n) (d := d) (m := m) (nd := { zm μ with kind := kind }) (by omega) h2 (by omega) hne a2 (by omega) rfl (by show 0 + _ ≤ _; omega) rfl hF
  rw [fold_I hF] at hgo
  have e : a + ((fldsT kind l).length : Int) = a + 1 + 1 + ((sepK (l.map FI.toks)).length : Int) + 1 := by
    unfold fldsT; simp only [List.length_cons, List.length_append, List.length_nil]; omega
  rw [e]
  have no : ∀ s : List UInt8, isK 5 (kwF kind) s = false → r05_parser_is ⟨L, a, m, 0, 0⟩ ⟨s⟩ = some (false, ⟨L, a, m, 0, 0⟩) := fun s hs => is_no hA hs
  refine T.fin ?_
  unfold r05_parser_base_F
  rcases hk with rfl | rfl | rfl
  · exact T.eq e1 (T.brF rfl (T.eq (no _ rfl) (T.brF rfl (T.eq (no _ rfl) (T.brF rfl (T.eq (no _ rfl) (T.brF rfl (T.eq (no _ rfl) (T.brF rfl (T.eq (no _ rfl) (T.brF rfl (T.eq (no _ rfl) (T.brF rfl (T.eq (no _ rfl) (T.brF rfl (T.eq (no _ rfl) (T.brF rfl (T.eq (is_yes hA rfl) (T.brT rfl (T.eq (is_yes a1 rfl) (T.brT rfl (T.eq hgo (T.some rfl)))))))))))))))))))))))
  · exact T.eq e1 (T.brF rfl (T.eq (no _ rfl) (T.brF rfl (T.eq (no _ rfl) (T.brF rfl (T.eq (no _ rfl) (T.brF rfl (T.eq (no _ rfl) (T.brF rfl (T.eq (no _ rfl) (T.brF rfl (T.eq (no _ rfl) (T.brF rfl (T.eq (is_yes hA rfl) (T.brT rfl (T.eq (must_yes a1 rfl) (T.eq hgo (T.some rfl))))))))))))))))))
  · exact T.eq e1 (T.brF rfl (T.eq (no _ rfl) (T.brF rfl (T.eq (no _ rfl) (T.brF rfl (T.eq (no _ rfl) (T.brF rfl (T.eq (no _ rfl) (T.brF rfl (T.eq (no _ rfl) (T.brF rfl (T.eq (no _ rfl) (T.brF rfl (T.eq (no _ rfl) (T.brF rfl (T.eq (is_yes hA rfl) (T.brT rfl (T.eq (must_yes a1 rfl) (T.eq hgo (T.some rfl))))))))))))))))))))

/-! ### Modules -/
structure As where
  name : List UInt8
  ts : KS
  sz : Nat
  ns : Nat → List GNode
  h : Nat
structure AsK (x : As) : Prop where
  t : TypK x.h x.ts x.sz x.ns
  h : x.h ≤ 17
def As.toks (x : As) : KS := (1, x.name) :: (6, [58, 58, 61]) :: x.ts
def typesA : List As → Nat → List Int
  | [], _ => []
  | x :: r, i => (i : Int) :: typesA r (i + x.sz)
def nodesA : List As → Nat → List GNode
  | [], _ => []
  | x :: r, i => x.ns i ++ nodesA r (i + x.sz)
def szA (l : List As) : Nat := (l.map As.sz).sum
def tagT (g : Int) : KS := if g = 1 then [(5, [73, 77, 80, 76, 73, 67, 73, 84]), (5, [84, 65, 71, 83])] else if g = 2 then [(5, [65, 85, 84, 79, 77, 65, 84, 73, 67]), (5, [84, 65, 71, 83])] else if g = 3 then [(5, [69, 88, 80, 76, 73, 67, 73, 84]), (5, [84, 65, 71, 83])] else []
def tagOf (g : Int) : Int := if g = 1 then 1 else if g = 2 then 2 else 0
def modT (nm : List UInt8) (g : Int) (l : List As) : KS := (1, nm) :: (5, [68, 69, 70, 73, 78, 73, 84, 73, 79, 78, 83]) :: (tagT g ++ (6, [58, 58, 61]) :: (5, [66, 69, 71, 73, 78]) :: (l.flatMap As.toks ++ [(5, [69, 78, 68])]))
def modM (nm : List UInt8) (g : Int) (l : List As) : GMod := ⟨⟨nm⟩, tagOf g, l.map fun x => ⟨x.name⟩, typesA l 0, nodesA l 0⟩
theorem typesA_snoc : ∀ {a : List As} {x : As} {i : Nat}, typesA (a ++ [x]) i = typesA a i ++ [((i + szA a : Nat) : Int)]
  | [], x, i => by show [(i : Int)] = [] ++ [((i + 0 : Nat) : Int)]; rfl
  | y :: r, x, i => by
    show (i : Int) :: typesA (r ++ [x]) (i + y.sz) = (i : Int) :: (typesA r (i + y.sz) ++ _)
    rw [typesA_snoc]
    have : szA (y :: r) = y.sz + szA r := by unfold szA; simp
    rw [this, Nat.add_assoc]
theorem nodesA_snoc : ∀ {a : List As} {x : As} {i : Nat}, nodesA (a ++ [x]) i = nodesA a i ++ x.ns (i + szA a)
  | [], x, i => by show x.ns i ++ [] = [] ++ x.ns (i + 0); rw [List.append_nil]; rfl
  | y :: r, x, i => by
    show y.ns i ++ nodesA (r ++ [x]) (i + y.sz) = y.ns i ++ nodesA r (i + y.sz) ++ _
    rw [nodesA_snoc]
    have : szA (y :: r) = y.sz + szA r := by unfold szA; simp
    rw [this, Nat.add_assoc, List.append_assoc]
theorem nodesA_len : ∀ {a : List As} {i : Nat}, (∀ x ∈ a, AsK x) → (nodesA a i).length = szA a
  | [], _, _ => rfl
  | y :: r, i, h => by
    have := nodesA_len (a := r) (i := i + y.sz) fun x hx => h x (List.mem_cons_of_mem _ hx)
    show (y.ns i ++ nodesA r (i + y.sz)).length = _
    rw [List.length_append, this, (h y (List.mem_cons_self ..)).t.len]; unfold szA; simp
theorem parse_mod {s : Str} {nm : List UInt8} {g : Int} (hg : 0 ≤ g ∧ g ≤ 3) {l : List As} (hk : KT s.b (modT nm g l)) (hs : s.b.length ≤ 8000) (hl : l.length ≤ 40) (hz : szA l ≤ 300) (hF : ∀ x ∈ l, AsK x) :
    r05_Parse s = some (modM nm g l, 0, 0) := by
  obtain ⟨ts, e1, e2⟩ := toks_KT hk hs
  have htk := (tokens_tot s).get? (tokens_eq s) (by rw [e1])
  rw [e1] at htk
  have hlen : ts.length ≤ 8001 := htk.len
  have hA : Sg ts 0 (modT nm g l) := ⟨Int.le_refl _, by omega, by rw [show (0 : Int).toNat = 0 from rfl, List.drop_zero]; exact e2⟩
  refine T.fin ?_
  unfold r05_Parse
  refine T.eq (tokens_eq s) ?_
  rw [e1]
  have a1 := Sg.tl hA
  have a2 := Sg.tl a1
  refine T.brF rfl (T.eq (kind_yes hA) (T.eq (must_yes a1 rfl) ?_))
  have a3 := Sg.app (L := ts) (xs := tagT g) a2
  refine T.jp (fun x => x = (⟨ts, 0 + 1 + 1 + (tagT g).length, ⟨⟨nm⟩, tagOf g, [], [], []⟩, 0, 0⟩ : GPar)) (fun J hJ => ?_) fun x hx => ?_
  · have hc : g = 0 ∨ g = 1 ∨ g = 2 ∨ g = 3 := by omega
    rcases hc with rfl | rfl | rfl | rfl
    · have b : Sg ts (0 + 1 + 1) ((6, [58, 58, 61]) :: (5, [66, 69, 71, 73, 78]) :: (l.flatMap As.toks ++ [(5, [69, 78, 68])])) := a2
      exact T.eq (is_no b rfl) (T.brF rfl (T.eq (is_no b rfl) (T.brF rfl (T.eq (is_no b rfl) (T.brF rfl (hJ _ rfl))))))
    · have b : Sg ts (0 + 1 + 1) ((5, [73, 77, 80, 76, 73, 67, 73, 84]) :: (5, [84, 65, 71, 83]) :: (6, [58, 58, 61]) :: (5, [66, 69, 71, 73, 78]) :: (l.flatMap As.toks ++ [(5, [69, 78, 68])])) := a2
      exact T.eq (is_no b rfl) (T.brF rfl (T.eq (is_yes b rfl) (T.brT rfl (T.eq (must_yes b.tl rfl) (hJ _ rfl)))))
    · have b : Sg ts (0 + 1 + 1) ((5, [65, 85, 84, 79, 77, 65, 84, 73, 67]) :: (5, [84, 65, 71, 83]) :: (6, [58, 58, 61]) :: (5, [66, 69, 71, 73, 78]) :: (l.flatMap As.toks ++ [(5, [69, 78, 68])])) := a2
      exact T.eq (is_no b rfl) (T.brF rfl (T.eq (is_no b rfl) (T.brF rfl (T.eq (is_yes b rfl) (T.brT rfl (T.eq (must_yes b.tl rfl) (hJ _ rfl)))))))
    · have b : Sg ts (0 + 1 + 1) ((5, [69, 88, 80, 76, 73, 67, 73, 84]) :: (5, [84, 65, 71, 83]) :: (6, [58, 58, 61]) :: (5, [66, 69, 71, 73, 78]) :: (l.flatMap As.toks ++ [(5, [69, 78, 68])])) := a2
      exact T.eq (is_yes b rfl) (T.brT rfl (T.eq (must_yes b.tl rfl) (hJ _ rfl)))
  subst hx
  have a4 := Sg.tl a3
  have a5 := Sg.tl a4
  refine T.eq (must_yes a3 rfl) (T.eq (must_yes a4 rfl) ?_)
  generalize hb : (0 : Int) + 1 + 1 + ((tagT g).length : Int) + 1 + 1 = b at a5
  have hb0 := a5.a0
  have hbz := a5.size
  refine T.lp (ι := GPar) (fun x => ∃ (dn rest : List As) (a : Int), l = dn ++ rest ∧ x = ⟨ts, a, ⟨⟨nm⟩, tagOf g, dn.map fun x => ⟨x.name⟩, typesA dn 0, nodesA dn 0⟩, 0, 0⟩ ∧ Sg ts a (rest.flatMap As.toks ++ [(5, [69, 78, 68])])) (fun x => ((ts.length : Int) - x.at_).toNat) ⟨[], l, b, rfl, rfl, a5⟩ (by dsimp only; omega) fun L x hx hL => ?_
  obtain ⟨dn, rest, a, hdr, rfl, ha⟩ := hx
  dsimp only at hL ⊢
  cases rest with
  | nil =>
    rw [List.append_nil] at hdr
    subst hdr
    have ha' : Sg ts a [(5, [69, 78, 68])] := ha
    refine T.jp0 (T.brT rfl (T.eq (is_yes ha' rfl) (T.brF rfl ?_)))
    obtain ⟨y, y1, y2⟩ := ha'.tl.end_
    refine T.jp0 (T.brT rfl (T.eq (y := (y, (⟨ts, a + 1, ⟨⟨nm⟩, tagOf g, l.map fun x => ⟨x.name⟩, typesA l 0, nodesA l 0⟩, 0, 0⟩ : GPar))) (by unfold r05_parser_now; dsimp only; rw [getI_at ha'.tl.a0 y1]; rfl) ?_))
    refine T.jp0 (T.brF (by dsimp only; rw [y2]; rfl) (T.brF rfl (T.some rfl)))
  | cons x rest =>
    have hx := hF x (by rw [hdr]; exact List.mem_append_right _ (List.mem_cons_self ..))
    have hll : dn.length + (rest.length + 1) ≤ 40 := by rw [hdr, List.length_append, List.length_cons] at hl; exact hl
    have hzz : szA dn + x.sz ≤ 300 := by
      have : szA l = szA dn + (x.sz + szA rest) := by rw [hdr]; unfold szA; simp
      omega
    have hdk : ∀ y ∈ dn, AsK y := fun y hy => hF y (by rw [hdr]; exact List.mem_append_left _ hy)
    have hnl : (nodesA dn 0).length = szA dn := nodesA_len hdk
    have htl : (typesA dn 0).length = dn.length := by
      have : ∀ (a : List As) (i : Nat), (typesA a i).length = a.length := fun a => by
        induction a with
        | nil => intro i; rfl
        | cons y r ih => intro i; show (typesA r (i + y.sz)).length + 1 = _; rw [ih]; rfl
      exact this _ _
    have ha1 : Sg ts a ((1, x.name) :: (6, [58, 58, 61]) :: (x.ts ++ (rest.flatMap As.toks ++ [(5, [69, 78, 68])]))) := by
      have e : (x :: rest).flatMap As.toks ++ [(5, [69, 78, 68])] = (1, x.name) :: (6, [58, 58, 61]) :: (x.ts ++ (rest.flatMap As.toks ++ [(5, [69, 78, 68])])) := by
        show As.toks x ++ rest.flatMap As.toks ++ _ = _
        unfold As.toks; simp
      rw [e] at ha; exact ha
    have ha2 := Sg.tl ha1
    have ha3 := Sg.tl ha2
    have hnx : ∃ k t ks', rest.flatMap As.toks ++ [(5, [69, 78, 68])] = (k, t) :: ks' ∧ isK k t [40] = false := by
      cases rest with
      | nil => exact ⟨5, [69, 78, 68], [], rfl, rfl⟩
      | cons y r => exact ⟨1, y.name, _, rfl, rfl⟩
    obtain ⟨k, t, ks', ek, hkt⟩ := hnx
    have ha3' := ha3
    rw [ek] at ha3'
    obtain ⟨y, f1, f2, f3⟩ := now_at (m := ⟨⟨nm⟩, tagOf g, dn.map fun x => ⟨x.name⟩, typesA dn 0, nodesA dn 0⟩) (p := 0) (e := 0) ha1
    have hty := hx.t.go (n := fuel) (d := 0) (m := ⟨⟨nm⟩, tagOf g, dn.map fun x => ⟨x.name⟩, typesA dn 0, nodesA dn 0⟩) (by have := hx.h; unfold fuel; omega) (Int.le_refl _) (by have := hx.h; omega) ha3' hkt (by dsimp only; rw [hnl]; exact hzz)
    dsimp only at hty
    rw [hnl] at hty
    have hsz := ha3.size
    have hal := ha3.app.size
    have ha0 := ha1.a0
    refine T.jp0 (T.brT rfl (T.eq (is_no ha1 rfl) (T.brT rfl (T.eq f1 (T.eq (kind_yes ha1) ?_)))))
    refine T.jp (fun b => b = false) (fun J hJ => T.brT rfl (hJ _ (decide_eq_false (by dsimp only; rw [List.length_map]; omega)))) fun b hb2 => ?_
    subst hb2
    refine T.jp0 (T.brF rfl (T.eq (must_yes ha2 rfl) (T.eq hty (T.abl ?_ (T.abl ?_ (hL _ ⟨dn ++ [x], rest, a + 1 + 1 + (x.ts.length : Int), by rw [hdr, List.append_assoc]; rfl, ?_, ha3.app⟩ ?_))))))
    · show (dn.map fun x => (⟨x.name⟩ : Str)).length + 1 ≤ _; rw [List.length_map]; omega
    · show (typesA dn 0).length + 1 ≤ _; rw [htl]; omega
    · dsimp only
      rw [List.map_append, typesA_snoc, nodesA_snoc, Nat.zero_add]; rfl
    · dsimp only; omega
end Go.Proofs.YtiibmpdjkdjbiaaGreatDoor


namespace Go.Proofs.YtiibmpdjkdjbiaaGreatDoor
open Go.Sy
set_option maxRecDepth 4000
def table_Find (a_t : GTab) (a_name : Str) : Option (Int) :=
  cal (slices_Index_Lstring_string a_t.names a_name) fun y1 => jp (ι := Bool) (fun J3 => br (decide (y1 < (0 : Int))) (J3 (true)) (J3 ((decide ((a_t.roots.length : Int) ≤ y1))))) (fun q2 => br q2 (some ((-1 : Int))) (cal (getI a_t.roots y1) fun y5 => some (y5)))

def law10_awake  : Option (Bool) :=
  cal (r05_Parse (Str.mk [77, 32, 68, 69, 70, 73, 78, 73, 84, 73, 79, 78, 83, 32, 58, 58, 61, 32, 66, 69, 71, 73, 78, 32, 65, 32, 58, 58, 61, 32, 83, 69, 81, 85, 69, 78, 67, 69, 32, 123, 32, 120, 32, 73, 78, 84, 69, 71, 69, 82, 32, 40, 48, 46, 46, 55, 41, 44, 32, 46, 46, 46, 32, 125, 32, 69, 78, 68])) fun y1 => cal (table_Make y1.1) fun y3 => jp (ι := Bool) (fun J6 => br (decide (y3.2.2 = (0 : Int))) (J6 ((decide ((y3.1.types.length : Int) = (2 : Int))))) (J6 (false))) (fun q5 => jp (ι := Bool) (fun J9 => br q5 (cal (table_Find y3.1 (Str.mk [65])) fun y11 => J9 ((decide (y11 = (0 : Int))))) (J9 (false))) (fun q8 => jp (ι := Bool) (fun J13 => br q8 (cal (getI y3.1.types (1 : Int)) fun y15 => J13 ((decide ((y15.tags.length : Int) = (1 : Int))))) (J13 (false))) (fun q12 => some (q12))))
end Go.Proofs.YtiibmpdjkdjbiaaGreatDoor


namespace Go.Proofs.YtiibmpdjkdjbiaaGreatDoor
open Go.Sy
set_option maxRecDepth 4000
def h_Digits_F (h_Digits' : UInt64 → Option (Str)) (a_v : UInt64) : Option (Str) :=
  br (decide (a_v < (10 : UInt64))) (some ((Str.mk ([((48 : UInt64) + a_v).toUInt8] : (List UInt8))))) (jp (ι := Str) (fun J3 => asr (!decide ((10 : UInt64) = 0)) <| asr (!decide ((10 : UInt64) = 0)) <| cal (h_Digits' (a_v / (10 : UInt64))) fun y6 => asr (Nat.ble (y6.b.length + (Str.mk ([((48 : UInt64) + (a_v % (10 : UInt64))).toUInt8] : (List UInt8))).b.length) 4611686018427387904) <| J3 ((Str.mk (y6.b ++ (Str.mk ([((48 : UInt64) + (a_v % (10 : UInt64))).toUInt8] : (List UInt8))).b)))) (fun q2 => some (q2)))
def h_Digits_grp : Nat → (UInt64 → Option (Str))
  | 0 => (fun _ => none)
  | n + 1 => let p := h_Digits_grp n; (h_Digits_F p)
def h_Digits (n : Nat) : UInt64 → Option (Str) := (h_Digits_grp n)

def h_Number (a_v : Int) : Option (Str) :=
  br (decide (a_v < (0 : Int))) (ck ((a_v + (1 : Int))) <| ck ((-(a_v + (1 : Int)))) <| cal (h_Digits fuel ((UInt64.ofNat ((-(a_v + (1 : Int))) % 18446744073709551616).toNat) + (1 : UInt64))) fun y3 => asr (Nat.ble ((Str.mk [45]).b.length + y3.b.length) 4611686018427387904) <| some ((Str.mk ((Str.mk [45]).b ++ y3.b)))) (cal (h_Digits fuel (UInt64.ofNat (a_v % 18446744073709551616).toNat)) fun y5 => some (y5))

end Go.Proofs.YtiibmpdjkdjbiaaGreatDoor


namespace Go.Proofs.YtiibmpdjkdjbiaaGreatDoor
open Go.Sy
set_option linter.unusedVariables false
set_option maxRecDepth 4000

def dgl (v : Nat) : List UInt8 := match h_Digits 20 (UInt64.ofNat v) with
  | some s => s.b
  | none => []
def nameOk (w : List UInt8) (k : Int) : Bool := isLetter (hd w) && nmAll w 32 && !decide (w.getLast? = some 45) && decide (w.length ≤ 60) && decide (kindN w = k)
structure Dg (v : Nat) : Prop where
  eq : h_Digits fuel (UInt64.ofNat v) = some ⟨dgl v⟩
  num : numOk false (dgl v) = true
  val : Num (dgl v) v
  len : (dgl v).length ≤ 3
  f : nameOk (102 :: dgl v) 2 = true
  t : nameOk (84 :: dgl v) 1 = true
  i : nameOk (105 :: dgl v) 2 = true
  a : nameOk (97 :: dgl v) 2 = true
  inj : dval (dgl v) = v
theorem KT.word {w x : List UInt8} {k : Int} {ks : KS} (h : nameOk w k = true) (hx : KT (32 :: x) ks) : KT (w ++ 32 :: x) ((k, w) :: ks) := by
  unfold nameOk at h
  simp only [Bool.and_eq_true, decide_eq_true_eq, Bool.not_eq_true', decide_eq_false_iff_not] at h
  obtain ⟨⟨⟨⟨h1, h2⟩, h3⟩, h4⟩, h5⟩ := h
  have := KT.name (x := 32 :: x) h1 h2 rfl h3 h4 hx
  rw [h5] at this
  exact this
end Go.Proofs.YtiibmpdjkdjbiaaGreatDoor


namespace Go.Proofs.YtiibmpdjkdjbiaaGreatDoor
open Go.Sy
set_option linter.unusedVariables false

end Go.Proofs.YtiibmpdjkdjbiaaGreatDoor


namespace Go.Proofs.YtiibmpdjkdjbiaaGreatDoor
open Go.Sy
set_option linter.unusedVariables false
set_option maxRecDepth 4000

def asV (kind : Int) (l : List FI) : As := ⟨[65], fldsT kind l, szI l + 1, fun i => endN (ndI 0 l (i + 1) { zm noM with kind := kind }) :: nsI l (i + 1), 2⟩
theorem asV_K {kind : Int} (hk : kind = 7 ∨ kind = 8 ∨ kind = 9) {l : List FI} (hne : l ≠ []) (hF : okI 1 kind false l) (hs : szI l ≤ 300) (hl : (l.flatMap FI.fls).length ≤ 1000) : AsK (asV kind l) := by
  have hb := base_fields hk hne hF hs hl
  have hB : Beg 5 (kwF kind) := by
    rcases hk with rfl | rfl | rfl <;> exact fun ⟨_, _, _⟩ h1 h2 => by dsimp only at h1 h2; subst h1; subst h2; kernel_rfl
  exact ⟨typ_un hb hB (by rcases hk with rfl | rfl | rfl <;> rfl), by show 2 ≤ 17; omega⟩
end Go.Proofs.YtiibmpdjkdjbiaaGreatDoor


namespace Go.Proofs.YtiibmpdjkdjbiaaGreatDoor
open Go.Sy
set_option linter.unusedVariables false
set_option maxRecDepth 4000

structure LexP (b : List UInt8) (t : KS) : Prop where
  go : ∀ {c : UInt8} {y : List UInt8} {ks : KS}, c = 44 ∨ c = 32 → KT (c :: y) ks → KT (b ++ c :: y) (t ++ ks)
end Go.Proofs.YtiibmpdjkdjbiaaGreatDoor


namespace Go.Proofs.YtiibmpdjkdjbiaaGreatDoor
open Go.Sy
set_option linter.unusedVariables false
set_option maxRecDepth 4000

end Go.Proofs.YtiibmpdjkdjbiaaGreatDoor


namespace Go.Proofs.YtiibmpdjkdjbiaaGreatDoor
open Go.Sy
set_option linter.unusedVariables false
set_option maxRecDepth 4000

theorem dch10 : ∀ j : Fin 10, isDigit (((48 : UInt64) + UInt64.ofNat j.val).toUInt8) = true ∧ (((48 : UInt64) + UInt64.ofNat j.val).toUInt8).toNat - 48 = j.val ∧ (j.val ≠ 0 → ((48 : UInt64) + UInt64.ofNat j.val).toUInt8 ≠ 48) := by decide +kernel
theorem dch {v : UInt64} (h : v.toNat < 10) : isDigit (((48 : UInt64) + v).toUInt8) = true ∧ (((48 : UInt64) + v).toUInt8).toNat - 48 = v.toNat ∧ (v.toNat ≠ 0 → ((48 : UInt64) + v).toUInt8 ≠ 48) := by
  have := dch10 ⟨v.toNat, h⟩
  simp only [UInt64.ofNat_toNat] at this
  exact this
structure DigOk (k : Nat) (v : UInt64) (d : List UInt8) : Prop where
  all : digs2 d = true
  len : 1 ≤ d.length ∧ d.length ≤ k
  val : dval d = v.toNat
  one : v.toNat < 10 → d.length = 1
  hd0 : v.toNat ≠ 0 → hd d ≠ 48
theorem digitsT : ∀ (k n : Nat) (v : UInt64), v.toNat < 10 ^ k → 1 ≤ k → k ≤ 100 → k ≤ n → T (fun r => DigOk k v r.b) (h_Digits n v)
  | 0, _, _, _, h, _, _ => absurd h (by omega)
  | k + 1, n, v, hv, _, hk, hn => by
    obtain ⟨n, rfl⟩ : ∃ m, n = m + 1 := ⟨n - 1, by omega⟩
    show T _ (h_Digits_F (h_Digits n) v)
    unfold h_Digits_F
    have h10 : (10 : UInt64).toNat = 10 := rfl
    refine T.br (fun h => T.some ?_) fun h => ?_
    · have h := UInt64.lt_iff_toNat_lt.1 (of_decide_eq_true h)
      obtain ⟨a, b, c⟩ := dch (v := v) (by omega)
      exact ⟨by show (isDigit (48 + v).toUInt8 && true) = true; rw [a]; rfl, by simp, by simpa [dval] using b, fun _ => rfl, c⟩
    · have h : ¬ v.toNat < 10 := fun e => of_decide_eq_false h (UInt64.lt_iff_toNat_lt.2 (by omega))
      have hd' : (v / 10).toNat = v.toNat / 10 := UInt64.toNat_div _ _
      have hm' : (v % 10).toNat = v.toNat % 10 := UInt64.toNat_mod _ _
      rw [Nat.pow_succ] at hv
      have hk1 : 1 ≤ k := by
        rcases Nat.eq_zero_or_pos k with e | e
        · subst e; simp at hv; omega
        · exact e
      refine T.jp (fun s => DigOk (k + 1) v s.b) (fun J hJ => T.asr rfl (T.asr rfl ?_)) fun s hs => T.some hs
      refine T.cal (digitsT k n (v / 10) (by rw [hd']; omega) hk1 (by omega) (by omega)) fun y _ hy => ?_
      have hl := hy.len
      refine T.abl (by simp only [List.length_singleton]; omega) (hJ _ ?_)
      obtain ⟨a, b, c⟩ := dch (v := v % 10) (by omega)
      have hne : y.b ≠ [] := fun e => by rw [e] at hl; simp at hl
      refine ⟨?_, ?_, ?_, fun h2 => absurd h2 h, fun _ => ?_⟩
      · have := hy.all
        unfold digs2 at this ⊢
        show (y.b ++ [((48 : UInt64) + v % 10).toUInt8]).all isDigit = true
        rw [List.all_append, this]
        show (true && (isDigit (48 + v % 10).toUInt8 && true)) = true
        rw [a]; rfl
      · simp only [List.length_append, List.length_singleton]; omega
      · show dval (y.b ++ [_]) = _
        rw [dval_snoc, hy.val, b, hd', hm']; omega
      · show hd (y.b ++ [_]) ≠ 48
        rw [hd_appl hne]
        exact hy.hd0 (by omega)
theorem fuel_big : 100 ≤ fuel := by unfold fuel; omega
theorem digitsF (v : UInt64) (h : v.toNat < 10 ^ 19) : T (fun r => DigOk 19 v r.b) (h_Digits fuel v) := digitsT 19 fuel v h (by omega) (by omega) (Nat.le_trans (by omega) fuel_big)
theorem digs_of {d : List UInt8} (h : digs2 d = true) : digs d := fun x hx => List.all_eq_true.1 h x hx
theorem DigOk.num {v : UInt64} {d : List UInt8} (h : DigOk 19 v d) (m : Bool) (hm : m = true → v.toNat ≠ 0) (hv : v.toNat ≤ (if m then 9223372036854775808 else 9223372036854775807)) : numOk m d = true := by
  obtain ⟨l1, l2⟩ := h.len
  have hu : (uval d).toNat = v.toNat := by rw [uval_dval d (digs_of h.all) l2, h.val]
  unfold numOk
  rw [h.all, decide_eq_true l1, decide_eq_true l2, hu, decide_eq_true hv]
  have e1 : (decide (d.length ≤ 1) || !decide (hd d = 48)) = true := by
    by_cases h10 : v.toNat < 10
    · rw [decide_eq_true (by rw [h.one h10]; omega)]; rfl
    · rw [decide_eq_false (h.hd0 (by omega))]; simp
  have e2 : (!m || !decide (hd d = 48)) = true := by
    cases m with
    | false => rfl
    | true => rw [decide_eq_false (h.hd0 (hm rfl))]; rfl
  rw [e1, e2]; rfl
theorem p19 : 10 ^ 19 = 10000000000000000000 := by decide
theorem whole_val {ds : List UInt8} (hd : digs ds) (hne : ds ≠ []) (hlen : ds.length ≤ 19) {m : Bool} (h1 : m = true → 1 ≤ dval ds ∧ dval ds ≤ 9223372036854775808) (h2 : m = false → dval ds < 9223372036854775808) : r05_Whole ⟨bif m then 45 :: ds else ds⟩ = some (bif m then -(dval ds : Int) else (dval ds : Int)) := by
  refine T.fin ?_
  unfold r05_Whole
  have hl0 : 0 < ds.length := List.length_pos_iff.2 hne
  obtain ⟨y1, hy1, hy2⟩ : ∃ y1, getI (bif m then 45 :: ds else ds) (0 : Int) = some y1 ∧ decide (y1 = 45) = m := by
    cases m with
    | true => exact ⟨45, rfl, rfl⟩
    | false =>
      cases ds with
      | nil => exact absurd rfl hne
      | cons c r =>
        refine ⟨c, rfl, decide_eq_false fun e => ?_⟩
        have := digit_range (hd c (List.mem_cons_self ..))
        rw [e] at this
        have e : (45 : UInt8).toNat = 45 := rfl
        omega
  refine T.eq hy1 ?_
  rw [hy2]
  refine T.jp (ι := Str) (fun q => q = ⟨ds⟩) (fun J hJ => T.br (fun e => ?_) fun e => hJ _ ?_) fun q hq => ?_
  · subst e
    refine T.asd ⟨by omega, by simp only [cond_true, List.length_cons]; omega, by omega⟩ (hJ _ ?_)
    simp
  · subst e; rfl
  subst hq
  refine T.lp (fun (p : UInt64 × Int) => 0 ≤ p.2 ∧ p.2 ≤ (ds.length : Int) ∧ p.1 = uval (ds.take p.2.toNat)) (fun (p : UInt64 × Int) => ((ds.length : Int) - p.2).toNat) ⟨Int.le_refl _, by dsimp only; omega, rfl⟩ (by dsimp only; omega) fun L p hp hL => ?_
  obtain ⟨v, k⟩ := p
  obtain ⟨p1, p2, p3⟩ := hp
  dsimp only at p1 p2 p3 ⊢
  refine T.br (fun h1 => ?_) fun h3 => ?_
  · have h1 := of_decide_eq_true h1
    refine T.get p1 h1 fun y hy => T.ck (by omega) (hL _ ⟨by dsimp only; omega, by dsimp only; omega, ?_⟩ (by dsimp only; omega))
    have e : (k + 1).toNat = k.toNat + 1 := by omega
    dsimp only
    rw [e, List.take_add_one, hy, Option.toList_some, uval_snoc, p3]
  · have h3 := of_decide_eq_false h3
    rw [List.take_of_length_le (by omega)] at p3
    have hn := uval_dval ds hd hlen
    rw [← p3] at hn
    refine T.br (fun e => ?_) fun e => ?_
    · subst e
      have h1 := h1 rfl
      have e : (v - 1).toNat = dval ds - 1 := by
        have e1 : (1 : UInt64).toNat = 1 := rfl
        rw [UInt64.toNat_sub_of_le v 1 (by rw [UInt64.le_iff_toNat_le, e1]; omega), e1, hn]
      rw [e]
      exact T.ck (by omega) (T.ck (by omega) (T.ck (by omega) (T.some (by simp only [cond_true]; omega))))
    · subst e
      have h2 := h2 rfl
      exact T.ck (by omega) (T.some (by simp only [cond_false]; omega))
structure NumT (b : List UInt8) (v : Int) : Prop where
  num : Num b v
  len : b.length ≤ 20
  kt : ∀ {x : List UInt8} {ks : KS}, isDigit (hd x) = false → isLetter (hd x) = false → KT x ks → KT (b ++ x) ((3, b) :: ks)
  hd1 : isDigit (hd b) = true ∨ hd b = 45
theorem numberT {v : Int} (h : inI64 v) : ∃ b, h_Number v = some ⟨b⟩ ∧ NumT b v := by
  unfold inI64 at h
  have key : T (fun r => NumT r.b v) (h_Number v) := by
    unfold h_Number
    refine T.br (fun h0 => ?_) fun h0 => ?_
    · have h0 := of_decide_eq_true h0
      have e : ((UInt64.ofNat ((-(v + (1 : Int))) % 18446744073709551616).toNat) + (1 : UInt64)).toNat = (-v).toNat := by
        rw [UInt64.toNat_add, UInt64.toNat_ofNat']
        have h1 : (1 : UInt64).toNat = 1 := rfl
        rw [h1]; omega
      refine T.ck (by omega) (T.ck (by omega) (T.cal (digitsF _ (by rw [e, p19]; omega)) fun y _ hy => T.abl (by have := hy.len; simp only [List.length_singleton]; omega) (T.some ?_)))
      have hn := hy.num true (fun _ => by rw [e]; omega) (by rw [e]; simp only [if_true]; omega)
      have hv := hy.val
      rw [e] at hv
      have hl := hy.len
      have hw := whole_val (m := true) (digs_of hy.all) (numOk_ne hn) (by omega) (fun _ => by omega) (fun e => by cases e)
      simp only [cond_true] at hw
      rw [show -((dval y.b : Nat) : Int) = v by omega] at hw
      refine ⟨⟨by simp, hw⟩, by simp only [List.length_append, List.length_singleton]; omega, fun {x ks} h1 h2 h3 => ?_, .inr rfl⟩
      exact KT.neg hn h1 h2 h3
    · have h0 := of_decide_eq_false h0
      have e : (UInt64.ofNat (v % 18446744073709551616).toNat).toNat = v.toNat := by
        rw [UInt64.toNat_ofNat']; omega
      refine T.cal (digitsF _ (by rw [e, p19]; omega)) fun y _ hy => T.some ?_
      have hn := hy.num false (fun h => by cases h) (by rw [e]; simp only [Bool.false_eq_true, if_false]; omega)
      have hv := hy.val
      rw [e] at hv
      have hl := hy.len
      have hw := whole_val (m := false) (digs_of hy.all) (numOk_ne hn) (by omega) (fun e => by cases e) (fun _ => by omega)
      simp only [cond_false] at hw
      rw [show ((dval y.b : Nat) : Int) = v by omega] at hw
      exact ⟨⟨numOk_ne hn, hw⟩, by omega, fun {x ks} h1 h2 h3 => KT.num hn h1 h2 h3, .inl (numOk_hd hn)⟩
  obtain ⟨⟨b⟩, h1, h2⟩ := key
  exact ⟨b, h1, h2⟩
end Go.Proofs.YtiibmpdjkdjbiaaGreatDoor


namespace Go.Proofs.YtiibmpdjkdjbiaaGreatDoor
open Go.Sy
set_option maxRecDepth 4000
def law10_made (a_tagging : Str) (a_t : Str) : Option (GTab × Int × Int) :=
  asr (Nat.ble ((Str.mk [77, 32, 68, 69, 70, 73, 78, 73, 84, 73, 79, 78, 83, 32]).b.length + a_tagging.b.length) 4611686018427387904) <| asr (Nat.ble ((Str.mk ((Str.mk [77, 32, 68, 69, 70, 73, 78, 73, 84, 73, 79, 78, 83, 32]).b ++ a_tagging.b)).b.length + (Str.mk [58, 58, 61, 32, 66, 69, 71, 73, 78, 32]).b.length) 4611686018427387904) <| asr (Nat.ble ((Str.mk ((Str.mk ((Str.mk [77, 32, 68, 69, 70, 73, 78, 73, 84, 73, 79, 78, 83, 32]).b ++ a_tagging.b)).b ++ (Str.mk [58, 58, 61, 32, 66, 69, 71, 73, 78, 32]).b)).b.length + a_t.b.length) 4611686018427387904) <| asr (Nat.ble ((Str.mk ((Str.mk ((Str.mk ((Str.mk [77, 32, 68, 69, 70, 73, 78, 73, 84, 73, 79, 78, 83, 32]).b ++ a_tagging.b)).b ++ (Str.mk [58, 58, 61, 32, 66, 69, 71, 73, 78, 32]).b)).b ++ a_t.b)).b.length + (Str.mk [32, 69, 78, 68]).b.length) 4611686018427387904) <| cal (r05_Parse (Str.mk ((Str.mk ((Str.mk ((Str.mk ((Str.mk [77, 32, 68, 69, 70, 73, 78, 73, 84, 73, 79, 78, 83, 32]).b ++ a_tagging.b)).b ++ (Str.mk [58, 58, 61, 32, 66, 69, 71, 73, 78, 32]).b)).b ++ a_t.b)).b ++ (Str.mk [32, 69, 78, 68]).b))) fun y6 => br (!decide (y6.2.2 = (0 : Int))) (some ((GTab.mk (Str.mk []) ([] : (List Str)) ([] : (List Int)) ([] : (List GTyp))), (-1 : Int), y6.2.2)) (cal (table_Make y6.1) fun y8 => some (y8.1, y8.2.1, y8.2.2))
end Go.Proofs.YtiibmpdjkdjbiaaGreatDoor


namespace Go.Proofs.YtiibmpdjkdjbiaaGreatDoor
open Go.Sy
set_option maxRecDepth 4000
def law10_TableDefaults_c1 (a_ok : Bool) : Option (Int) :=
  br a_ok (some ((0 : Int))) (some ((13 : Int)))

def law10_TableDefaults (a_low : Int) (a_high : Int) (a_v : Int) (a_n_ : Int) (a_item : Int) : Option (Bool) :=
  asr (!decide ((6 : UInt64) = 0)) <| ck ((((UInt64.ofNat (a_n_ % 18446744073709551616).toNat) % (6 : UInt64)).toNat : Int)) <| asr (!decide ((4 : UInt64) = 0)) <| ck ((((UInt64.ofNat (a_item % 18446744073709551616).toNat) % (4 : UInt64)).toNat : Int)) <| lp (ι := Str × Int) (fun L6 q5 => br (decide (q5.2 < (((UInt64.ofNat (a_n_ % 18446744073709551616).toNat) % (6 : UInt64)).toNat : Int))) (asr (Nat.ble (q5.1.b.length + (Str.mk [48, 65]).b.length) 4611686018427387904) <| ck ((q5.2 + (1 : Int))) <| L6 ((Str.mk (q5.1.b ++ (Str.mk [48, 65]).b)), (q5.2 + (1 : Int)))) (cal (h_Number (min a_low a_high)) fun y51 => asr (Nat.ble ((Str.mk [65, 32, 58, 58, 61, 32, 83, 69, 81, 85, 69, 78, 67, 69, 32, 123, 32, 97, 32, 73, 78, 84, 69, 71, 69, 82, 32, 40]).b.length + y51.b.length) 4611686018427387904) <| asr (Nat.ble ((Str.mk ((Str.mk [65, 32, 58, 58, 61, 32, 83, 69, 81, 85, 69, 78, 67, 69, 32, 123, 32, 97, 32, 73, 78, 84, 69, 71, 69, 82, 32, 40]).b ++ y51.b)).b.length + (Str.mk [46, 46]).b.length) 4611686018427387904) <| cal (h_Number (max a_low a_high)) fun y54 => asr (Nat.ble ((Str.mk ((Str.mk ((Str.mk [65, 32, 58, 58, 61, 32, 83, 69, 81, 85, 69, 78, 67, 69, 32, 123, 32, 97, 32, 73, 78, 84, 69, 71, 69, 82, 32, 40]).b ++ y51.b)).b ++ (Str.mk [46, 46]).b)).b.length + y54.b.length) 4611686018427387904) <| asr (Nat.ble ((Str.mk ((Str.mk ((Str.mk ((Str.mk [65, 32, 58, 58, 61, 32, 83, 69, 81, 85, 69, 78, 67, 69, 32, 123, 32, 97, 32, 73, 78, 84, 69, 71, 69, 82, 32, 40]).b ++ y51.b)).b ++ (Str.mk [46, 46]).b)).b ++ y54.b)).b.length + (Str.mk [41, 32, 68, 69, 70, 65, 85, 76, 84, 32]).b.length) 4611686018427387904) <| cal (h_Number a_v) fun y57 => asr (Nat.ble ((Str.mk ((Str.mk ((Str.mk ((Str.mk ((Str.mk [65, 32, 58, 58, 61, 32, 83, 69, 81, 85, 69, 78, 67, 69, 32, 123, 32, 97, 32, 73, 78, 84, 69, 71, 69, 82, 32, 40]).b ++ y51.b)).b ++ (Str.mk [46, 46]).b)).b ++ y54.b)).b ++ (Str.mk [41, 32, 68, 69, 70, 65, 85, 76, 84, 32]).b)).b.length + y57.b.length) 4611686018427387904) <| asr (Nat.ble ((Str.mk ((Str.mk ((Str.mk ((Str.mk ((Str.mk ((Str.mk [65, 32, 58, 58, 61, 32, 83, 69, 81, 85, 69, 78, 67, 69, 32, 123, 32, 97, 32, 73, 78, 84, 69, 71, 69, 82, 32, 40]).b ++ y51.b)).b ++ (Str.mk [46, 46]).b)).b ++ y54.b)).b ++ (Str.mk [41, 32, 68, 69, 70, 65, 85, 76, 84, 32]).b)).b ++ y57.b)).b.length + (Str.mk [32, 125]).b.length) 4611686018427387904) <| cal (law10_made (Str.mk []) (Str.mk ((Str.mk ((Str.mk ((Str.mk ((Str.mk ((Str.mk ((Str.mk [65, 32, 58, 58, 61, 32, 83, 69, 81, 85, 69, 78, 67, 69, 32, 123, 32, 97, 32, 73, 78, 84, 69, 71, 69, 82, 32, 40]).b ++ y51.b)).b ++ (Str.mk [46, 46]).b)).b ++ y54.b)).b ++ (Str.mk [41, 32, 68, 69, 70, 65, 85, 76, 84, 32]).b)).b ++ y57.b)).b ++ (Str.mk [32, 125]).b))) fun y60 => asr (Nat.ble ((Str.mk [65, 32, 58, 58, 61, 32, 83, 69, 81, 85, 69, 78, 67, 69, 32, 123, 32, 97, 32, 79, 67, 84, 69, 84, 32, 83, 84, 82, 73, 78, 71, 32, 40, 83, 73, 90, 69, 32, 40, 49, 46, 46, 51, 41, 41, 32, 68, 69, 70, 65, 85, 76, 84, 32, 39]).b.length + q5.1.b.length) 4611686018427387904) <| asr (Nat.ble ((Str.mk ((Str.mk [65, 32, 58, 58, 61, 32, 83, 69, 81, 85, 69, 78, 67, 69, 32, 123, 32, 97, 32, 79, 67, 84, 69, 84, 32, 83, 84, 82, 73, 78, 71, 32, 40, 83, 73, 90, 69, 32, 40, 49, 46, 46, 51, 41, 41, 32, 68, 69, 70, 65, 85, 76, 84, 32, 39]).b ++ q5.1.b)).b.length + (Str.mk [39, 72, 32, 125]).b.length) 4611686018427387904) <| cal (law10_made (Str.mk []) (Str.mk ((Str.mk ((Str.mk [65, 32, 58, 58, 61, 32, 83, 69, 81, 85, 69, 78, 67, 69, 32, 123, 32, 97, 32, 79, 67, 84, 69, 84, 32, 83, 84, 82, 73, 78, 71, 32, 40, 83, 73, 90, 69, 32, 40, 49, 46, 46, 51, 41, 41, 32, 68, 69, 70, 65, 85, 76, 84, 32, 39]).b ++ q5.1.b)).b ++ (Str.mk [39, 72, 32, 125]).b))) fun y64 => cal (getI ([(Str.mk [120]), (Str.mk [121]), (Str.mk [122]), (Str.mk [113])] : (List Str)) (((UInt64.ofNat (a_item % 18446744073709551616).toNat) % (4 : UInt64)).toNat : Int)) fun y67 => asr (Nat.ble ((Str.mk [65, 32, 58, 58, 61, 32, 83, 69, 81, 85, 69, 78, 67, 69, 32, 123, 32, 97, 32, 69, 78, 85, 77, 69, 82, 65, 84, 69, 68, 32, 123, 32, 120, 44, 32, 121, 44, 32, 46, 46, 46, 44, 32, 122, 32, 125, 32, 68, 69, 70, 65, 85, 76, 84, 32]).b.length + y67.b.length) 4611686018427387904) <| asr (Nat.ble ((Str.mk ((Str.mk [65, 32, 58, 58, 61, 32, 83, 69, 81, 85, 69, 78, 67, 69, 32, 123, 32, 97, 32, 69, 78, 85, 77, 69, 82, 65, 84, 69, 68, 32, 123, 32, 120, 44, 32, 121, 44, 32, 46, 46, 46, 44, 32, 122, 32, 125, 32, 68, 69, 70, 65, 85, 76, 84, 32]).b ++ y67.b)).b.length + (Str.mk [32, 125]).b.length) 4611686018427387904) <| cal (law10_made (Str.mk []) (Str.mk ((Str.mk ((Str.mk [65, 32, 58, 58, 61, 32, 83, 69, 81, 85, 69, 78, 67, 69, 32, 123, 32, 97, 32, 69, 78, 85, 77, 69, 82, 65, 84, 69, 68, 32, 123, 32, 120, 44, 32, 121, 44, 32, 46, 46, 46, 44, 32, 122, 32, 125, 32, 68, 69, 70, 65, 85, 76, 84, 32]).b ++ y67.b)).b ++ (Str.mk [32, 125]).b))) fun y70 => cal (law10_awake ) fun y72 => jp (ι := Bool) (fun J74 => br y72 (jp (ι := Bool) (fun J77 => br (decide ((min a_low a_high) ≤ a_v)) (J77 ((decide (a_v ≤ (max a_low a_high))))) (J77 (false))) (fun q76 => cal (law10_TableDefaults_c1 q76) fun y79 => J74 ((decide (y60.2.2 = y79))))) (J74 (false))) (fun q73 => jp (ι := Bool) (fun J81 => br q73 (jp (ι := Bool) (fun J84 => br (decide ((1 : Int) ≤ (((UInt64.ofNat (a_n_ % 18446744073709551616).toNat) % (6 : UInt64)).toNat : Int))) (J84 ((decide ((((UInt64.ofNat (a_n_ % 18446744073709551616).toNat) % (6 : UInt64)).toNat : Int) ≤ (3 : Int))))) (J84 (false))) (fun q83 => cal (law10_TableDefaults_c1 q83) fun y86 => J81 ((decide (y64.2.2 = y86))))) (J81 (false))) (fun q80 => jp (ι := Bool) (fun J88 => br q80 (cal (law10_TableDefaults_c1 (decide ((((UInt64.ofNat (a_item % 18446744073709551616).toNat) % (4 : UInt64)).toNat : Int) < (2 : Int)))) fun y90 => J88 ((decide (y70.2.2 = y90)))) (J88 (false))) (fun q87 => some (q87)))))) (((Str.mk []), (0 : Int)))
end Go.Proofs.YtiibmpdjkdjbiaaGreatDoor


namespace Go.Proofs.YtiibmpdjkdjbiaaGreatDoor
open Go.Sy
set_option maxRecDepth 4000
def tokF (s : Str) : Option (List GTok × Int × Int) := some (toks s.b)
theorem tokF_eq : r04_Tokens = tokF := funext tokens_eq
def r05_ParseF (a_text : Str) : Option (GMod × Int × Int) :=
  cal (tokF a_text) fun y2 => br (!decide (y2.2.2 = (0 : Int))) (some ((GMod.mk (Str.mk []) (0 : Int) ([] : (List Str)) ([] : (List Int)) ([] : (List GNode))), y2.2.1, y2.2.2)) (cal (r05_parser_kind (GPar.mk y2.1 (0 : Int) (GMod.mk (Str.mk []) (0 : Int) ([] : (List Str)) ([] : (List Int)) ([] : (List GNode))) (0 : Int) (0 : Int)) (1 : Int)) fun y7 => cal (r05_parser_must (GPar.mk y7.2.l y7.2.at_ (GMod.mk y7.1 y7.2.m.tagging y7.2.m.names y7.2.m.types y7.2.m.nodes) y7.2.e y7.2.p) (Str.mk [68, 69, 70, 73, 78, 73, 84, 73, 79, 78, 83])) fun y10 => jp (ι := GPar) (fun J14 => cal (r05_parser_is y10 (Str.mk [69, 88, 80, 76, 73, 67, 73, 84])) fun y15 => br y15.1 (cal (r05_parser_must y15.2 (Str.mk [84, 65, 71, 83])) fun y18 => J14 (y18)) (cal (r05_parser_is y15.2 (Str.mk [73, 77, 80, 76, 73, 67, 73, 84])) fun y21 => br y21.1 (cal (r05_parser_must (GPar.mk y21.2.l y21.2.at_ (GMod.mk y21.2.m.name (1 : Int) y21.2.m.names y21.2.m.types y21.2.m.nodes) y21.2.e y21.2.p) (Str.mk [84, 65, 71, 83])) fun y24 => J14 (y24)) (cal (r05_parser_is y21.2 (Str.mk [65, 85, 84, 79, 77, 65, 84, 73, 67])) fun y27 => br y27.1 (cal (r05_parser_must (GPar.mk y27.2.l y27.2.at_ (GMod.mk y27.2.m.name (2 : Int) y27.2.m.names y27.2.m.types y27.2.m.nodes) y27.2.e y27.2.p) (Str.mk [84, 65, 71, 83])) fun y30 => J14 (y30)) (J14 (y27.2))))) (fun q13 => cal (r05_parser_must q13 (Str.mk [58, 58, 61])) fun y33 => cal (r05_parser_must y33 (Str.mk [66, 69, 71, 73, 78])) fun y36 => lp (ι := GPar) (fun L40 q39 => jp (ι := Bool × GPar) (fun J92 => br (decide (q39.e = (0 : Int))) (cal (r05_parser_is q39 (Str.mk [69, 78, 68])) fun y94 => J92 ((!y94.1), y94.2)) (J92 (false, q39))) (fun q91 => br q91.1 (cal (r05_parser_now q91.2) fun y97 => cal (r05_parser_kind y97.2 (1 : Int)) fun y101 => jp (ι := Bool) (fun J105 => br (decide (y101.2.e = (0 : Int))) (J105 ((decide ((40 : Int) ≤ (y101.2.m.names.length : Int))))) (J105 (false))) (fun q104 => jp (ι := GPar) (fun J108 => br q104 (cal (r05_parser_fail y101.2 (5 : Int) y97.1) fun y109 => J108 (y109)) (J108 (y101.2))) (fun q107 => cal (r05_parser_must q107 (Str.mk [58, 58, 61])) fun y112 => cal (r05_parser_typ fuel y112 (0 : Int)) fun y115 => asr (Nat.ble (y115.2.m.names.length + ([y101.1] : (List Str)).length) 68719476736) <| asr (Nat.ble (y115.2.m.types.length + ([y115.1] : (List Int)).length) 68719476736) <| L40 ((GPar.mk y115.2.l y115.2.at_ (GMod.mk y115.2.m.name y115.2.m.tagging (y115.2.m.names ++ ([y101.1] : (List Str))) (y115.2.m.types ++ ([y115.1] : (List Int))) y115.2.m.nodes) y115.2.e y115.2.p))))) (jp (ι := Bool × GPar) (fun J126 => br (decide (q91.2.e = (0 : Int))) (cal (r05_parser_now q91.2) fun y128 => J126 ((!decide (y128.1.kind = (0 : Int))), y128.2)) (J126 (false, q91.2))) (fun q125 => jp (ι := GPar) (fun J132 => br q125.1 (cal (r05_parser_now q125.2) fun y133 => cal (r05_parser_fail y133.2 (7 : Int) y133.1) fun y136 => J132 (y136)) (J132 (q125.2))) (fun q131 => br (!decide (q131.e = (0 : Int))) (some ((GMod.mk (Str.mk []) (0 : Int) ([] : (List Str)) ([] : (List Int)) ([] : (List GNode))), q131.p, q131.e)) (some (q131.m, (0 : Int), (0 : Int)))))))) ((y36))))
theorem r05_ParseF_eq : r05_Parse = r05_ParseF := by
  funext a_text
  unfold r05_Parse r05_ParseF
  rw [tokF_eq]
def law10_awakeF : Option (Bool) :=
  cal (r05_ParseF (Str.mk [77, 32, 68, 69, 70, 73, 78, 73, 84, 73, 79, 78, 83, 32, 58, 58, 61, 32, 66, 69, 71, 73, 78, 32, 65, 32, 58, 58, 61, 32, 83, 69, 81, 85, 69, 78, 67, 69, 32, 123, 32, 120, 32, 73, 78, 84, 69, 71, 69, 82, 32, 40, 48, 46, 46, 55, 41, 44, 32, 46, 46, 46, 32, 125, 32, 69, 78, 68])) fun y1 => cal (table_Make y1.1) fun y3 => jp (ι := Bool) (fun J6 => br (decide (y3.2.2 = (0 : Int))) (J6 ((decide ((y3.1.types.length : Int) = (2 : Int))))) (J6 (false))) (fun q5 => jp (ι := Bool) (fun J9 => br q5 (cal (table_Find y3.1 (Str.mk [65])) fun y11 => J9 ((decide (y11 = (0 : Int))))) (J9 (false))) (fun q8 => jp (ι := Bool) (fun J13 => br q8 (cal (getI y3.1.types (1 : Int)) fun y15 => J13 ((decide ((y15.tags.length : Int) = (1 : Int))))) (J13 (false))) (fun q12 => some (q12))))
theorem law10_awakeF_eq : law10_awake = law10_awakeF := by
  unfold law10_awake law10_awakeF
  rw [r05_ParseF_eq]
def law10_madeF (a_tagging : Str) (a_t : Str) : Option (GTab × Int × Int) :=
  asr (Nat.ble ((Str.mk [77, 32, 68, 69, 70, 73, 78, 73, 84, 73, 79, 78, 83, 32]).b.length + a_tagging.b.length) 4611686018427387904) <| asr (Nat.ble ((Str.mk ((Str.mk [77, 32, 68, 69, 70, 73, 78, 73, 84, 73, 79, 78, 83, 32]).b ++ a_tagging.b)).b.length + (Str.mk [58, 58, 61, 32, 66, 69, 71, 73, 78, 32]).b.length) 4611686018427387904) <| asr (Nat.ble ((Str.mk ((Str.mk ((Str.mk [77, 32, 68, 69, 70, 73, 78, 73, 84, 73, 79, 78, 83, 32]).b ++ a_tagging.b)).b ++ (Str.mk [58, 58, 61, 32, 66, 69, 71, 73, 78, 32]).b)).b.length + a_t.b.length) 4611686018427387904) <| asr (Nat.ble ((Str.mk ((Str.mk ((Str.mk ((Str.mk [77, 32, 68, 69, 70, 73, 78, 73, 84, 73, 79, 78, 83, 32]).b ++ a_tagging.b)).b ++ (Str.mk [58, 58, 61, 32, 66, 69, 71, 73, 78, 32]).b)).b ++ a_t.b)).b.length + (Str.mk [32, 69, 78, 68]).b.length) 4611686018427387904) <| cal (r05_ParseF (Str.mk ((Str.mk ((Str.mk ((Str.mk ((Str.mk [77, 32, 68, 69, 70, 73, 78, 73, 84, 73, 79, 78, 83, 32]).b ++ a_tagging.b)).b ++ (Str.mk [58, 58, 61, 32, 66, 69, 71, 73, 78, 32]).b)).b ++ a_t.b)).b ++ (Str.mk [32, 69, 78, 68]).b))) fun y6 => br (!decide (y6.2.2 = (0 : Int))) (some ((GTab.mk (Str.mk []) ([] : (List Str)) ([] : (List Int)) ([] : (List GTyp))), (-1 : Int), y6.2.2)) (cal (table_Make y6.1) fun y8 => some (y8.1, y8.2.1, y8.2.2))
theorem law10_madeF_eq : law10_made = law10_madeF := by
  funext a_tagging a_t
  unfold law10_made law10_madeF
  rw [r05_ParseF_eq]
end Go.Proofs.YtiibmpdjkdjbiaaGreatDoor


namespace Go.Proofs.YtiibmpdjkdjbiaaGreatDoor
open Go.Sy
set_option linter.unusedVariables false
set_option maxRecDepth 4000

@[reducible] def intV (v : Int) : Val := Val.mk 2 v [] [] 0 []
theorem val_num {b : List UInt8} {v : Int} (h : Num b v) : ValK [(3, b)] (intV v) := by
  intro L a m ks hA
  have hA : Sg L a ((3, b) :: ks) := hA
  obtain ⟨y, e1, e2, e3⟩ := now_at (m := m) (p := 0) (e := 0) hA
  obtain ⟨z, n1, n2, n3⟩ := next_at (m := m) (p := 0) (e := 0) hA
  refine T.fin ?_
  unfold r05_parser_value
  refine T.eq e1 (T.jp0 (T.brF rfl (T.eq (is_no hA rfl) (T.brF rfl (T.eq (is_no hA rfl) (T.brF rfl (T.eq (is_no hA rfl) (T.brF rfl (T.brT (decide_eq_true e2) (T.eq n1 ?_))))))))))
  dsimp only
  rw [n3]
  exact T.eq h.val (T.some rfl)
def fldD (lo hi vb : List UInt8) (l h v : Int) : Fl := ⟨[97], (5, [73, 78, 84, 69, 71, 69, 82]) :: (6, [40]) :: (spanT lo hi false ++ [(6, [41])]), 1, fun _ => [{ zm noM with kind := 2, con := ⟨true, true, true, false, l, h⟩ }], (5, [68, 69, 70, 65, 85, 76, 84]) :: [(3, vb)], false, true, intV v⟩
theorem beg_intD : Beg 5 [73, 78, 84, 69, 71, 69, 82] := fun ⟨_, _, _⟩ h1 h2 => by dsimp only at h1 h2; subst h1; subst h2; kernel_rfl
theorem fldD_K {lo hi vb : List UInt8} {l h v : Int} (h1 : Num lo l) (h2 : Num hi h) (h3 : Num vb v) : FldK 1 7 (fldD lo hi vb l h v) := fld_dflt (typ_un (base_int (more := false) h1 h2) beg_intD rfl) (val_num h3) (by decide) _
def fD (v : Int) : GFld := ⟨⟨[97]⟩, 1, false, true, intV v, 0⟩
def ndD (v : Int) : GNode := ⟨7, ⟨[]⟩, noM, ⟨false, false, false, false, 0, 0⟩, [], [fD v], 1, false, 0⟩
def niD (l h : Int) : GNode := ⟨2, ⟨[]⟩, noM, ⟨true, true, true, false, l, h⟩, [], [], 0, false, 0⟩
def modD (l h v : Int) : GMod := ⟨⟨[77]⟩, 0, [⟨[65]⟩], [0], [ndD v, niD l h]⟩
theorem digit_sg2 {c : UInt8} (h : isDigit c = true ∨ c = 45) : sgN [46, 46] c = true := by
  have : c ≠ 46 := fun e => by
    subst e
    rcases h with h | h
    · cases h
    · cases h
  unfold sgN
  rw [decide_eq_false this]
  simp
theorem any_sg {c : UInt8} : sgN [40] c = true := by unfold sgN; simp
theorem parse_D {lo hi vb : List UInt8} {l h v : Int} (h1 : NumT lo l) (h2 : NumT hi h) (h3 : NumT vb v) {s : Str} (hs : s.b = [77, 32, 68, 69, 70, 73, 78, 73, 84, 73, 79, 78, 83, 32, 58, 58, 61, 32, 66, 69, 71, 73, 78, 32, 65, 32, 58, 58, 61, 32, 83, 69, 81, 85, 69, 78, 67, 69, 32, 123, 32, 97, 32, 73, 78, 84, 69, 71, 69, 82, 32] ++ ([40] ++ (lo ++ ([46, 46] ++ (hi ++ ([41, 32, 68, 69, 70, 65, 85, 76, 84, 32] ++ (vb ++ [32, 125, 32, 69, 78, 68]))))))) : r05_Parse s = some (modD l h v, 0, 0) := by
  have e : modT [77] 0 [asV 7 [FI.one (fldD lo hi vb l h v)]] = (1, [77]) :: (5, [68, 69, 70, 73, 78, 73, 84, 73, 79, 78, 83]) :: (6, [58, 58, 61]) :: (5, [66, 69, 71, 73, 78]) :: (1, [65]) :: (6, [58, 58, 61]) :: (5, [83, 69, 81, 85, 69, 78, 67, 69]) :: (6, [123]) :: (2, [97]) :: (5, [73, 78, 84, 69, 71, 69, 82]) :: (6, [40]) :: (3, lo) :: (6, [46, 46]) :: (3, hi) :: (6, [41]) :: (5, [68, 69, 70, 65, 85, 76, 84]) :: (3, vb) :: [(6, [125]), (5, [69, 78, 68])] := by
    unfold modT asV fldsT As.toks
    simp only [List.flatMap_cons, List.flatMap_nil, List.append_nil, List.map_cons, List.map_nil, FI.toks, Fl.toks, fldD, spanT, dotsT, sepK]
    simp [tagT, kwF]
  have k1 : KT [32, 125, 32, 69, 78, 68] [(6, [125]), (5, [69, 78, 68])] := .tok rfl rfl (.tok rfl rfl (.fin rfl))
  have k2 := h3.kt rfl rfl k1
  have k3 : KT ([41, 32, 68, 69, 70, 65, 85, 76, 84] ++ 32 :: (vb ++ [32, 125, 32, 69, 78, 68])) _ := .tok rfl rfl (.tok rfl rfl (KT.sp k2))
  have k4 := h2.kt rfl rfl k3
  have hne : ∀ {b : List UInt8} {v : Int} (x : List UInt8), NumT b v → hd (b ++ x) = hd b := fun x hb => hd_appl hb.num.ne
  have k5 := KT.sign (s := [46, 46]) (by decide) (by rw [hne _ h2]; exact digit_sg2 h2.hd1) k4
  have k6 := h1.kt rfl rfl k5
  have k7 := KT.sign (s := [40]) (by decide) any_sg k6
  have hkt : KT s.b (modT [77] 0 [asV 7 [FI.one (fldD lo hi vb l h v)]]) := by
    rw [e, hs]
    exact .tok rfl rfl (.tok rfl rfl (.tok rfl rfl (.tok rfl rfl (.tok rfl rfl (.tok rfl rfl (.tok rfl rfl (.tok rfl rfl (.tok rfl rfl (.tok rfl rfl (KT.sp k7))))))))))
  have hAs := asV_K (.inl rfl) (l := [FI.one (fldD lo hi vb l h v)]) (by simp) ⟨fldD_K h1.num h2.num h3.num, trivial⟩ (by show 1 ≤ 300; omega) (by show 1 ≤ 1000; omega)
  have l1 := h1.len
  have l2 := h2.len
  have l3 := h3.len
  exact parse_mod (s := s) (g := 0) (by omega) hkt (by
    rw [hs]
    simp only [List.length_append, List.length_cons, List.length_nil]
    omega) (by show 1 ≤ 40; omega) (by show (1 + 1) + 0 ≤ 300; omega) (fun x hx => by rw [List.mem_singleton.1 hx]; exact hAs)
/-! ### What is made of it -/
theorem within_eq (l h v : Int) : bounds_Within ⟨true, true, true, false, l, h⟩ v = some (decide (l ≤ v) && decide (v ≤ h)) := by
  refine T.fin ?_
  unfold bounds_Within
  refine T.jp (fun b => b = (decide (l ≤ v) && decide (v ≤ h))) (fun J hJ => T.brF rfl (T.jp (fun b => b = decide (l ≤ v)) (fun J2 h2 => T.brF rfl (h2 _ rfl)) fun b hb => T.jp (fun c => c = (decide (l ≤ v) && decide (v ≤ h))) (fun J2 h2 => T.br (fun e => T.jp (fun c => c = decide (v ≤ h)) (fun J3 h3 => T.brF rfl (h3 _ rfl)) fun c hc => h2 _ (by rw [hc, ← hb, e]; rfl)) fun e => h2 _ (by rw [← hb, e]; rfl)) fun c hc => hJ _ hc)) fun b hb => T.some hb
theorem check_eq {l h : Int} (hl : l ≤ h) : bounds_Check ⟨true, true, true, false, l, h⟩ false = some 0 := by
  have hx : bounds_checked_crossed ⟨⟨true, true, true, false, l, h⟩⟩ = some false := by
    refine T.fin ?_
    unfold bounds_checked_crossed
    exact T.eq (y := true) (by kernel_rfl) (T.jp (fun b => b = false) (fun J hJ => T.brT rfl (hJ _ (decide_eq_false (by dsimp only; omega)))) fun b hb => T.some hb)
  refine T.fin ?_
  unfold bounds_Check
  exact T.jp (fun b => b = false) (fun J hJ => T.brT rfl (T.eq hx (T.jp (fun b => b = false) (fun J2 h2 => T.brF rfl (T.jp (fun b => b = false) (fun J3 h3 => T.brF rfl (h3 _ rfl)) fun b hb => h2 _ hb)) fun b hb => hJ _ hb))) fun b hb => T.brF hb (T.some rfl)
def tiD (l h : Int) : GTyp := ⟨2, [⟨0, 2⟩], ⟨true, true, true, false, l, h⟩, [], [], 0, false, 0⟩
theorem std_eq (l h v : Int) (m : GMod) (t : GTyp) : table_maker_standard ⟨⟨[t, tiD l h]⟩, m⟩ 1 (intV v) = some (intV v, decide (l ≤ v) && decide (v ≤ h), ⟨⟨[t, tiD l h]⟩, m⟩) := by
  refine T.fin ?_
  unfold table_maker_standard
  refine T.asr rfl (T.eq (y := tiD l h) rfl (T.brF rfl (T.eq (y := []) (by kernel_rfl) (T.jp0 (T.jp (fun b => b = false) (fun J hJ => T.brF rfl (hJ _ rfl)) fun b hb => T.brF hb (T.brT rfl (T.eq (within_eq l h v) (T.some rfl))))))))
theorem made_D {l h v : Int} (hl : l ≤ h) : ∃ ts, table_maker_made (fuel - 1) ⟨⟨[]⟩, modD l h v⟩ (ndD v) 0 = some (0, if l ≤ v ∧ v ≤ h then 0 else 13, ⟨⟨ts⟩, modD l h v⟩) := by
  obtain ⟨n, hn⟩ : ∃ n, fuel - 1 = n + 3 := ⟨fuel - 4, by unfold fuel; rfl⟩
  have hn9 : 9 ≤ n := by have : fuel - 1 = n + 3 := hn; unfold fuel at this; omega
  rw [hn]
  have hNT : NT (modD l h v) ((1 : Nat) : Int) 0 1 (fun _ => [tiD l h]) := nt_un (k := 1) (nd := niD l h) rfl (by show (2 : Int) ≠ 11; decide) rfl (mt_int rfl (check_eq hl))
  have hfield : table_maker_field (n + 1) ⟨⟨[conP (ndD v) []]⟩, modD l h v⟩ (ndD v) 0 0 false = some (fD v, if l ≤ v ∧ v ≤ h then 0 else 13, ⟨⟨[conP (ndD v) [], tiD l h]⟩, modD l h v⟩) := by
    rw [fieldP_unf]
    refine T.fin ?_
    unfold table_maker_field_F
    have hgo := hNT.go (n := n) (d := 0 + 1) (l := [conP (ndD v) []]) (by omega) (by omega) (by omega) (by show 1 + 1 ≤ 300; omega)
    refine T.eq (y := fD v) rfl (T.asr rfl (T.eq (names_no (l := []) (f := fD v) (Nat.zero_le _) (fun g hg => by cases hg)) (T.brF rfl (T.ck (by omega) (T.eq hgo (T.brF rfl ?_))))))
    by_cases hw : l ≤ v ∧ v ≤ h
    · rw [if_pos hw]
      refine T.jp (ι := GFld × GTmk) (fun q => q = (fD v, ⟨⟨[conP (ndD v) [], tiD l h]⟩, modD l h v⟩)) (fun J hJ => T.brT rfl (T.eq (std_eq l h v (modD l h v) (conP (ndD v) [])) (T.brF (by rw [decide_eq_true hw.1, decide_eq_true hw.2]; rfl) (hJ _ rfl)))) fun q hq => ?_
      subst hq
      exact T.jp (ι := Int × GTmk) (fun q => q = (0, ⟨⟨[conP (ndD v) [], tiD l h]⟩, modD l h v⟩)) (fun J hJ => T.brF rfl (hJ _ rfl)) fun q hq => T.some (by rw [hq])
    · rw [if_neg hw]
      have hw' : (decide (l ≤ v) && decide (v ≤ h)) = false := by
        cases hb : (decide (l ≤ v) && decide (v ≤ h)) with
        | false => rfl
        | true =>
          simp only [Bool.and_eq_true, decide_eq_true_eq] at hb
          exact absurd hb hw
      exact T.jp0 (T.brT rfl (T.eq (std_eq l h v (modD l h v) (conP (ndD v) [])) (T.brT (by rw [hw']; rfl) (T.some rfl))))
  have hap : table_types_apart ⟨⟨[conP (ndD v) [fD v], tiD l h]⟩, modD l h v⟩ (conP (ndD v) [fD v]) = some (true, ⟨⟨[conP (ndD v) [fD v], tiD l h]⟩, modD l h v⟩) := by
    have htold : table_types_told ⟨⟨[conP (ndD v) [fD v], tiD l h]⟩, modD l h v⟩ [fD v] false = some (true, ⟨⟨[conP (ndD v) [fD v], tiD l h]⟩, modD l h v⟩) := by
      have := toldP (l := [conP (ndD v) [fD v], tiD l h]) (m := modD l h v) (fs := [fD v]) (tg := [⟨0, 2⟩]) (o := false) (by show 1 ≤ 1000; omega) rfl fun k f x hk hx => by
        cases k with
        | zero => cases hk; cases hx; exact ⟨1, tiD l h, [], rfl, rfl, rfl⟩
        | succ k => cases hk
      exact this
    have hloose : table_Loose (conP (ndD v) [fD v]) 0 = some true := by
      refine T.fin ?_
      unfold table_Loose
      exact T.eq (y := fD v) rfl (T.jp (fun b => b = true) (fun J hJ => T.brF rfl (T.eq (y := fD v) rfl (hJ _ rfl))) fun b hb => T.jp (fun b => b = true) (fun J hJ => T.brT hb (hJ _ rfl)) fun b hb => T.some hb)
    refine T.fin ?_
    unfold table_types_apart
    refine T.brF rfl (T.lp (ι := Int × GTmk) (fun q => (q.1 = 0 ∨ q.1 = 1) ∧ q.2 = ⟨⟨[conP (ndD v) [fD v], tiD l h]⟩, modD l h v⟩) (fun q => (1 - q.1).toNat) ⟨.inl rfl, rfl⟩ (by dsimp only; omega) fun L q ⟨q1, q2⟩ hL => ?_)
    obtain ⟨k, x⟩ := q
    dsimp only at q1 q2 hL ⊢
    subst q2
    rcases q1 with rfl | rfl
    · refine T.brT rfl (T.jp (ι := GTmk) (fun z => z = ⟨⟨[conP (ndD v) [fD v], tiD l h]⟩, modD l h v⟩) (fun J hJ => T.eq hloose (T.brF rfl (T.ck (by omega) ?_))) fun z hz => T.ck (by omega) (hL _ ⟨.inr rfl, hz⟩ (by dsimp only; omega)))
      refine T.lp (ι := Int) (fun e => e = 1) (fun _ => 0) rfl (by omega) fun L2 e he _ => ?_
      subst he
      exact T.jp (fun b => b = false) (fun J2 h2 => T.brF rfl (h2 _ rfl)) fun b hb => T.brF hb (T.asr rfl (T.eq htold (T.brF rfl (hJ _ rfl))))
    · exact T.brF rfl (T.jp (ι := Bool × GTmk) (fun z => z = (true, ⟨⟨[conP (ndD v) [fD v], tiD l h]⟩, modD l h v⟩)) (fun J hJ => T.brT rfl (hJ _ rfl)) fun z hz => T.some (by rw [hz]))
  have hfields : ∃ ts, table_maker_fields (n + 2) ⟨⟨[conP (ndD v) []]⟩, modD l h v⟩ 0 (ndD v) 0 = some (if l ≤ v ∧ v ≤ h then 0 else 13, ⟨⟨ts⟩, modD l h v⟩) := by
    have key : T (fun r => r.1 = (if l ≤ v ∧ v ≤ h then 0 else 13) ∧ r.2.m = modD l h v) (table_maker_fields (n + 2) ⟨⟨[conP (ndD v) []]⟩, modD l h v⟩ 0 (ndD v) 0) := by
      rw [fieldsP_unf]
      unfold table_maker_fields_F
      refine T.jp (fun b => b = false) (fun J hJ => T.brF rfl (hJ _ rfl)) fun b hb => T.jp (fun b => b = false) (fun J hJ => T.brF hb (hJ _ rfl)) fun b hb => T.brF hb (T.eq (aut_off (m := modD l h v) (by show (0 : Int) ≠ 2; decide) _) ?_)
      refine T.lp (ι := List GFld × Int × GTmk) (fun q => q = ([], 0, ⟨⟨[conP (ndD v) []]⟩, modD l h v⟩) ∨ ((l ≤ v ∧ v ≤ h) ∧ q = ([fD v], 1, ⟨⟨[conP (ndD v) [], tiD l h]⟩, modD l h v⟩))) (fun q => (1 - q.2.1).toNat) (.inl rfl) (by dsimp only; omega) fun L q hq hL => ?_
      rcases hq with rfl | ⟨hw, rfl⟩
      · refine T.brT rfl (T.eq hfield ?_)
        by_cases hw : l ≤ v ∧ v ≤ h
        · rw [if_pos hw] at hL ⊢
          exact T.brF rfl (T.asr rfl (T.ck (by dsimp only; omega) (hL _ (.inr ⟨hw, rfl⟩) (by dsimp only; omega))))
        · rw [if_neg hw]
          exact T.brT rfl (T.some ⟨rfl, rfl⟩)
      · rw [if_pos hw]
        exact T.brF rfl (T.asr rfl (T.eq (y := conP (ndD v) []) rfl (T.asr rfl (T.eq (y := conP (ndD v) [fD v]) rfl (T.eq hap (T.brF rfl (T.some ⟨rfl, rfl⟩)))))))
    obtain ⟨⟨e, ⟨ts, m⟩⟩, k1, k2, k3⟩ := key
    dsimp only at k2 k3
    subst k3
    rw [k2] at k1
    exact ⟨ts.l, k1⟩
  obtain ⟨ts, hts⟩ := hfields
  refine ⟨ts, ?_⟩
  rw [madeP_unf]
  refine T.fin ?_
  unfold table_maker_made_F
  refine T.jp (fun b => b = false) (fun J hJ => T.brF rfl (hJ _ rfl)) fun b hb => T.brF hb ?_
  refine T.jp (ι := GTyp) (fun t => t = conP (ndD v) []) (fun J hJ => T.brT rfl (T.eq (y := ⟨0, 16⟩) (by kernel_rfl) (hJ _ rfl))) fun t ht => ?_
  subst ht
  refine T.eq (add_at (l := []) (Nat.zero_le _)) ?_
  exact T.jp (ι := Int × GTmk) (fun q => q = (if l ≤ v ∧ v ≤ h then 0 else 13, ⟨⟨ts⟩, modD l h v⟩)) (fun J hJ => T.brF rfl (T.jp (fun b => b = false) (fun J2 h2 => T.brF rfl (h2 _ rfl)) fun b hb => T.brF hb (T.brF rfl (T.brF rfl (T.jp (fun b => b = true) (fun J2 h2 => T.brT rfl (h2 _ rfl)) fun b hb => T.brT hb (T.eq hts (hJ _ rfl))))))) fun q hq => T.some (by rw [hq]; rfl)
theorem make_D {l h v : Int} (hl : l ≤ h) : T (fun r => r.2.2 = if l ≤ v ∧ v ≤ h then 0 else 13) (table_Make (modD l h v)) := by
  obtain ⟨ts, hts⟩ := made_D (v := v) hl
  have := make_one (m := modD l h v) (s := ⟨[65]⟩) rfl rfl ⟨by show 2 ≤ 1000; omega, fun z hz => by
    rcases List.mem_cons.1 (show z ∈ [ndD v, niD l h] from hz) with e | e
    · rw [e]; exact ⟨by show (7 : Int) ≠ 11; decide, by show 1 ≤ 1000; omega⟩
    · rw [List.mem_singleton.1 e]; exact ⟨by show (2 : Int) ≠ 11; decide, Nat.zero_le _⟩⟩ (i := 0) (nd := ndD v) rfl (by show (7 : Int) ≠ 11; decide) rfl hts
  refine T.of this ?_
  by_cases hw : l ≤ v ∧ v ≤ h
  · rw [if_pos hw]; rfl
  · rw [if_neg hw]; rfl
end Go.Proofs.YtiibmpdjkdjbiaaGreatDoor


namespace Go.Proofs.YtiibmpdjkdjbiaaGreatDoor
open Go.Sy
set_option linter.unusedVariables false
set_option maxRecDepth 4000

theorem awake10 : law10_awake = some true := by rw [law10_awakeF_eq]; kernel_rfl
def octT (n : Nat) : List UInt8 := (List.replicate n [(48 : UInt8), 65]).flatten
def octP : List UInt8 := [65, 32, 58, 58, 61, 32, 83, 69, 81, 85, 69, 78, 67, 69, 32, 123, 32, 97, 32, 79, 67, 84, 69, 84, 32, 83, 84, 82, 73, 78, 71, 32, 40, 83, 73, 90, 69, 32, 40, 49, 46, 46, 51, 41, 41, 32, 68, 69, 70, 65, 85, 76, 84, 32, 39]
def enP : List UInt8 := [65, 32, 58, 58, 61, 32, 83, 69, 81, 85, 69, 78, 67, 69, 32, 123, 32, 97, 32, 69, 78, 85, 77, 69, 82, 65, 84, 69, 68, 32, 123, 32, 120, 44, 32, 121, 44, 32, 46, 46, 46, 44, 32, 122, 32, 125, 32, 68, 69, 70, 65, 85, 76, 84, 32]
theorem oct_all {n : Nat} (h : n < 6) : (law10_made (Str.mk []) (Str.mk ((octP ++ octT n) ++ [39, 72, 32, 125]))).map (fun r => r.2.2) = some (if 1 ≤ n ∧ n ≤ 3 then 0 else 13) := by
  rw [law10_madeF_eq]
  have : n = 0 ∨ n = 1 ∨ n = 2 ∨ n = 3 ∨ n = 4 ∨ n = 5 := by omega
  rcases this with rfl | rfl | rfl | rfl | rfl | rfl <;> (show _ = _; kernel_rfl)
def itD (k : Nat) : List UInt8 := if k = 0 then [120] else if k = 1 then [121] else if k = 2 then [122] else [113]
theorem en_all {k : Nat} (h : k < 4) : (law10_made (Str.mk []) (Str.mk ((enP ++ itD k) ++ [32, 125]))).map (fun r => r.2.2) = some (if k < 2 then 0 else 13) := by
  rw [law10_madeF_eq]
  have : k = 0 ∨ k = 1 ∨ k = 2 ∨ k = 3 := by omega
  rcases this with rfl | rfl | rfl | rfl <;> (show _ = _; kernel_rfl)
theorem of_map {α β : Type} {o : Option α} {f : α → β} {y : β} (h : o.map f = some y) : T (fun r => f r = y) o := by
  cases o with
  | none => cases h
  | some r => exact ⟨r, rfl, Option.some.inj h⟩
theorem want_eq (b : Bool) : law10_TableDefaults_c1 b = some (if b = true then 0 else 13) := by cases b <;> rfl
theorem int_made {lo hi v : Int} (hl : lo ≤ hi) {b1 b2 b3 : List UInt8} (h1 : NumT b1 lo) (h2 : NumT b2 hi) (h3 : NumT b3 v) {s : Str} (hs : s.b = [65, 32, 58, 58, 61, 32, 83, 69, 81, 85, 69, 78, 67, 69, 32, 123, 32, 97, 32, 73, 78, 84, 69, 71, 69, 82, 32, 40] ++ (b1 ++ ([46, 46] ++ (b2 ++ ([41, 32, 68, 69, 70, 65, 85, 76, 84, 32] ++ (b3 ++ [32, 125])))))) :
    T (fun r => r.2.2 = if lo ≤ v ∧ v ≤ hi then 0 else 13) (law10_made (Str.mk []) s) := by
  have l1 := h1.len
  have l2 := h2.len
  have l3 := h3.len
  have hsl : s.b.length ≤ 1000 := by
    rw [hs]
    simp only [List.length_append, List.length_cons, List.length_nil]
    omega
  unfold law10_made
  refine T.abl (by simp only [List.length_cons, List.length_nil]; omega) (T.abl (by simp only [List.length_append, List.length_cons, List.length_nil]; omega) (T.abl (by simp only [List.length_append, List.length_cons, List.length_nil]; omega) (T.abl (by simp only [List.length_append, List.length_cons, List.length_nil]; omega) ?_)))
  refine T.eq (parse_D h1 h2 h3 ?_) (T.brF rfl (T.cal (make_D hl) fun r _ hr => T.some hr))
  dsimp only
  rw [hs]
  simp
theorem defaults_true (low high v n item : Int) (hl : inI64 low) (hh : inI64 high) (hv : inI64 v) : law10_TableDefaults low high v n item = some true := by
  refine T.fin ?_
  unfold law10_TableDefaults
  obtain ⟨N, hN⟩ : ∃ N : Nat, N = ((UInt64.ofNat (n % 18446744073709551616).toNat) % (6 : UInt64)).toNat := ⟨_, rfl⟩
  obtain ⟨K, hK⟩ : ∃ K : Nat, K = ((UInt64.ofNat (item % 18446744073709551616).toNat) % (4 : UInt64)).toNat := ⟨_, rfl⟩
  have hN6 : N < 6 := by rw [hN, UInt64.toNat_mod]; exact Nat.mod_lt _ (by decide)
  have hK4 : K < 4 := by rw [hK, UInt64.toNat_mod]; exact Nat.mod_lt _ (by decide)
  rw [← hN, ← hK]
  clear hN hK
  refine T.asr rfl (T.ck (by omega) (T.asr rfl (T.ck (by omega) ?_)))
  refine T.lp (ι := Str × Int) (fun q => 0 ≤ q.2 ∧ q.2 ≤ N ∧ q.1.b = octT q.2.toNat) (fun q => ((N : Int) - q.2).toNat) ⟨Int.le_refl _, by dsimp only; omega, rfl⟩ (by dsimp only; omega) fun L q ⟨q1, q2, q3⟩ hL => ?_
  obtain ⟨tx, i⟩ := q
  dsimp only at q1 q2 q3 hL ⊢
  obtain ⟨k, rfl⟩ : ∃ k : Nat, i = k := ⟨i.toNat, by omega⟩
  rw [Int.toNat_natCast] at q3
  have hol : ∀ k, (octT k).length = 2 * k := fun k => by
    unfold octT
    induction k with
    | zero => rfl
    | succ k ih => rw [List.replicate_succ, List.flatten_cons, List.length_append, ih]; show 2 + 2 * k = _; omega
  have htl := hol k
  rw [← q3] at htl
  refine T.br (fun hb => ?_) fun hb => ?_
  · have hb := of_decide_eq_true hb
    refine T.abl (by simp only [List.length_cons, List.length_nil]; omega) (T.ck (by omega) (hL _ ⟨by dsimp only; omega, by dsimp only; omega, ?_⟩ (by dsimp only; omega)))
    dsimp only
    rw [show ((k : Int) + 1).toNat = k + 1 by omega, q3]
    unfold octT
    rw [List.replicate_succ', List.flatten_append]; rfl
  have hb := of_decide_eq_false hb
  have hkN : k = N := by omega
  subst hkN
  have hmm : min low high ≤ max low high ∧ inI64 (min low high) ∧ inI64 (max low high) := by unfold inI64 at *; omega
  obtain ⟨m1, m2, m3⟩ := hmm
  obtain ⟨b1, e1, t1⟩ := numberT m2
  obtain ⟨b2, e2, t2⟩ := numberT m3
  obtain ⟨b3, e3, t3⟩ := numberT hv
  have l1 := t1.len
  have l2 := t2.len
  have l3 := t3.len
  have hI := int_made (v := v) m1 t1 t2 t3 (s := Str.mk ((Str.mk ((Str.mk ((Str.mk ((Str.mk ((Str.mk ((Str.mk [65, 32, 58, 58, 61, 32, 83, 69, 81, 85, 69, 78, 67, 69, 32, 123, 32, 97, 32, 73, 78, 84, 69, 71, 69, 82, 32, 40]).b ++ (Str.mk b1).b)).b ++ (Str.mk [46, 46]).b)).b ++ (Str.mk b2).b)).b ++ (Str.mk [41, 32, 68, 69, 70, 65, 85, 76, 84, 32]).b)).b ++ (Str.mk b3).b)).b ++ (Str.mk [32, 125]).b)) (by simp)
  refine T.eq e1 (T.abl (by simp only [List.length_cons, List.length_nil]; omega) (T.abl (by simp only [List.length_append, List.length_cons, List.length_nil]; omega) (T.eq e2 (T.abl (by simp only [List.length_append, List.length_cons, List.length_nil]; omega) (T.abl (by simp only [List.length_append, List.length_cons, List.length_nil]; omega) (T.eq e3 (T.abl (by simp only [List.length_append, List.length_cons, List.length_nil]; omega) (T.abl (by simp only [List.length_append, List.length_cons, List.length_nil]; omega) (T.cal hI fun y60 _ h60 => ?_)))))))))
  have hO := oct_all hN6
  rw [← q3] at hO
  refine T.abl (by simp only [List.length_cons, List.length_nil]; omega) (T.abl (by simp only [List.length_append, List.length_cons, List.length_nil]; omega) (T.cal (of_map hO) fun y64 _ h64 => ?_))
  have hkw : getI ([(Str.mk [120]), (Str.mk [121]), (Str.mk [122]), (Str.mk [113])] : (List Str)) (K : Int) = some ⟨itD K⟩ := by
    have : K = 0 ∨ K = 1 ∨ K = 2 ∨ K = 3 := by omega
    rcases this with rfl | rfl | rfl | rfl <;> rfl
  have hkl : (itD K).length = 1 := by
    have : K = 0 ∨ K = 1 ∨ K = 2 ∨ K = 3 := by omega
    rcases this with rfl | rfl | rfl | rfl <;> rfl
  refine T.eq hkw (T.abl (by simp only [List.length_cons, List.length_nil]; omega) (T.abl (by simp only [List.length_append, List.length_cons, List.length_nil]; omega) (T.cal (of_map (en_all hK4)) fun y70 _ h70 => T.eq awake10 ?_)))
  refine T.jp (fun b => b = true) (fun J hJ => T.brT rfl (T.jp (fun b => b = (decide (min low high ≤ v) && decide (v ≤ max low high))) (fun J2 h2 => T.br (fun e => h2 _ (by rw [e]; rfl)) fun e => h2 _ (by rw [e]; rfl)) fun b hb => T.eq (want_eq b) (hJ _ ?_))) fun b hb => ?_
  · refine decide_eq_true ?_
    rw [h60, hb]
    by_cases hw : min low high ≤ v ∧ v ≤ max low high
    · rw [if_pos hw, if_pos (by rw [decide_eq_true hw.1, decide_eq_true hw.2]; rfl)]
    · rw [if_neg hw, if_neg (fun e => by simp only [Bool.and_eq_true, decide_eq_true_eq] at e; exact hw e)]
  refine T.jp (fun b => b = true) (fun J hJ => T.brT hb (T.jp (fun b => b = (decide ((1 : Int) ≤ (k : Int)) && decide ((k : Int) ≤ 3))) (fun J2 h2 => T.br (fun e => h2 _ (by rw [e]; rfl)) fun e => h2 _ (by rw [e]; rfl)) fun b hb => T.eq (want_eq b) (hJ _ ?_))) fun b hb => ?_
  · refine decide_eq_true ?_
    rw [h64, hb]
    by_cases hw : 1 ≤ k ∧ k ≤ 3
    · rw [if_pos hw, if_pos (by rw [decide_eq_true (show (1 : Int) ≤ (k : Int) by omega), decide_eq_true (show (k : Int) ≤ 3 by omega)]; rfl)]
    · rw [if_neg hw, if_neg (fun e => by simp only [Bool.and_eq_true, decide_eq_true_eq] at e; omega)]
  refine T.jp (fun b => b = true) (fun J hJ => T.brT hb (T.eq (want_eq _) (hJ _ ?_))) fun b hb => T.some hb
  refine decide_eq_true ?_
  rw [h70]
  by_cases hw : K < 2
  · rw [if_pos hw, if_pos (decide_eq_true (by omega))]
  · rw [if_neg hw, if_neg (fun e => by have := of_decide_eq_true e; omega)]
end Go.Proofs.YtiibmpdjkdjbiaaGreatDoor

