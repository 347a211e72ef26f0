/- OrderTells: for every text and place the law's model answers true. No condition. -/
import Derived.Test.YtnnijoepfgnlfaaGreatDoorOtA
import Derived.Test.YtnnijoepfgnlfaaGreatDoorOtB
import Derived.Test.YtnnijoepfgnlfaaGreatDoorOtC
import Derived.KernelRfl
set_option linter.unusedVariables false
set_option linter.unusedSimpArgs false

namespace Go.Proofs.Q
open Go.Sy
set_option linter.unusedVariables false

/-! ### Signs -/
def isPre : List UInt8 → List UInt8 → Bool
  | [], _ => true
  | _ :: _, [] => false
  | p :: ps, c :: r => bif decide (p = c) then isPre ps r else false
def sgF : List (List UInt8) → List UInt8 → Nat
  | [], _ => 0
  | p :: ps, b => bif isPre p b then p.length else sgF ps b
def sgs : List (List UInt8) := [[58, 58, 61], [46, 46, 46], [46, 46], [91, 91], [93, 93], [123], [125], [91], [93], [40], [41], [44], [58]]
def sg (b : List UInt8) : Nat := sgF sgs b
theorem zg9 : ∀ (p b : List UInt8), isPre p b = true ↔ p.length ≤ b.length ∧ b.take p.length = p
  | [], b => by simp [isPre]
  | _ :: _, [] => by simp [isPre]
  | p :: ps, c :: r => by
    have ih := zg9 ps r
    unfold isPre
    by_cases h : p = c
    · subst h; simp [ih]
    · simp only [zDF h, cond_false, List.length_cons, List.take_succ_cons, List.cons.injEq]
      exact ⟨(fun h => by cases h), fun h2 => absurd h2.2.1.symm h⟩
theorem zn8 {k : Nat} {y : Str} (h : ([(Str.mk [58, 58, 61]), (Str.mk [46, 46, 46]), (Str.mk [46, 46]), (Str.mk [91, 91]), (Str.mk [93, 93]), (Str.mk [123]), (Str.mk [125]), (Str.mk [91]), (Str.mk [93]), (Str.mk [40]), (Str.mk [41]), (Str.mk [44]), (Str.mk [58])] : List Str)[k]? = some y) : sgs.drop k = y.b :: sgs.drop (k + 1) := by
  have e : ([(Str.mk [58, 58, 61]), (Str.mk [46, 46, 46]), (Str.mk [46, 46]), (Str.mk [91, 91]), (Str.mk [93, 93]), (Str.mk [123]), (Str.mk [125]), (Str.mk [91]), (Str.mk [93]), (Str.mk [40]), (Str.mk [41]), (Str.mk [44]), (Str.mk [58])] : List Str) = sgs.map Str.mk := rfl
  rw [e, List.getElem?_map] at h
  obtain ⟨z, h1, h2⟩ := Option.map_eq_some_iff.1 h
  subst h2
  obtain ⟨h3, h4⟩ := List.getElem?_eq_some_iff.1 h1
  rw [List.drop_eq_getElem_cons h3, h4]
theorem zoA (s : Str) (i : Int) (h0 : 0 ≤ i) (h1 : i < s.b.length) (hl : s.b.length ≤ 1000000) : zfb s i = some ((sg (s.b.drop i.toNat) : Nat) : Int) := by
  refine tx ?_
  unfold zfb
  refine T.asd (by omega) (T.lp (fun (k : Int) => 0 ≤ k ∧ k ≤ 13 ∧ sgF (sgs.drop k.toNat) (s.b.drop i.toNat) = sg (s.b.drop i.toNat)) (fun (k : Int) => (13 - k).toNat) ⟨Int.le_refl _, by omega, rfl⟩ (by omega) fun L k ⟨k1, k2, k3⟩ hL => ?_)
  have er : (s.b.take ((s.b.length : Int)).toNat).drop i.toNat = s.b.drop i.toNat := by rw [List.take_of_length_le (by omega)]
  refine T.br (fun h2 => ?_) fun h2 => T.some ?_
  rotate_left
  · have h2 : ¬ k < 13 := zOF h2
    have : k = 13 := by omega
    subst this
    rw [← k3]; rfl
  have h2 := zOT h2
  refine T.get k1 h2 fun y hy => ?_
  have hs := zn8 hy
  rw [hs] at k3
  unfold sgF at k3
  rw [er]
  refine T.jp (fun b => b = isPre y.b (s.b.drop i.toNat)) (fun J h => T.br (fun h3 => ?_) fun h3 => h _ ?_) fun b hb => ?_
  · have h3 := zOT h3
    refine T.asd ⟨Int.le_refl _, by omega, h3⟩ (T.get k1 h2 fun y2 hy2 => h _ ?_)
    rw [hy] at hy2; cases hy2
    have h4 : y.b.length ≤ (s.b.drop i.toNat).length := by simp only [List.length_drop] at h3 ⊢; omega
    rw [Bool.eq_iff_iff, decide_eq_true_eq, zg9]
    constructor
    · intro h5
      refine ⟨h4, ?_⟩
      have := congrArg Str.b h5
      simpa using this
    · intro h5
      obtain ⟨yb⟩ := y
      simp only [Str.mk.injEq]
      simpa using h5.2
  · have h3 := zOF h3
    symm
    rw [Bool.eq_false_iff]
    intro h5
    have := (zg9 _ _).1 h5
    simp only [List.length_drop] at h3 this
    omega
  · rw [hb]
    refine T.br (fun h3 => T.some ?_) fun h3 => T.ck (by have h2 : k < 13 := h2; omega) (hL _ ⟨by omega, by have h2 : k < 13 := h2; omega, ?_⟩ (by have h2 : k < 13 := h2; omega))
    · rw [h3, cond_true] at k3; rw [← k3]
    · rw [h3, cond_false] at k3
      have e : (k + 1).toNat = k.toNat + 1 := by omega
      rw [e, k3]

/-! ### Words -/
def wordsL : List Str := [(Str.mk [68, 69, 70, 73, 78, 73, 84, 73, 79, 78, 83]), (Str.mk [69, 88, 80, 76, 73, 67, 73, 84]), (Str.mk [73, 77, 80, 76, 73, 67, 73, 84]), (Str.mk [65, 85, 84, 79, 77, 65, 84, 73, 67]), (Str.mk [84, 65, 71, 83]), (Str.mk [66, 69, 71, 73, 78]), (Str.mk [69, 78, 68]), (Str.mk [66, 79, 79, 76, 69, 65, 78]), (Str.mk [73, 78, 84, 69, 71, 69, 82]), (Str.mk [69, 78, 85, 77, 69, 82, 65, 84, 69, 68]), (Str.mk [78, 85, 76, 76]), (Str.mk [79, 67, 84, 69, 84]), (Str.mk [83, 84, 82, 73, 78, 71]), (Str.mk [85, 84, 70, 56, 83, 116, 114, 105, 110, 103]), (Str.mk [83, 69, 81, 85, 69, 78, 67, 69]), (Str.mk [83, 69, 84]), (Str.mk [67, 72, 79, 73, 67, 69]), (Str.mk [79, 70]), (Str.mk [79, 80, 84, 73, 79, 78, 65, 76]), (Str.mk [68, 69, 70, 65, 85, 76, 84]), (Str.mk [83, 73, 90, 69]), (Str.mk [77, 73, 78]), (Str.mk [77, 65, 88]), (Str.mk [84, 82, 85, 69]), (Str.mk [70, 65, 76, 83, 69])]
def sameB : List UInt8 → List UInt8 → Bool
  | [], [] => true
  | a :: r, b :: t => bif decide (a = b) then sameB r t else false
  | _, _ => false
theorem zip : ∀ a b : List UInt8, sameB a b = true ↔ a = b
  | [], [] => by simp [sameB]
  | [], _ :: _ => by simp [sameB]
  | _ :: _, [] => by simp [sameB]
  | a :: r, b :: t => by
    have ih := zip r t
    unfold sameB
    by_cases h : a = b
    · subst h; simp [ih]
    · simp [h]
def isWord (t : List UInt8) : Bool := wordsL.any fun w => sameB w.b t
theorem zoK (s : Str) : zfa s = some (isWord s.b) := by
  refine tx ?_
  unfold zfa
  refine T.eq (y := wordsL) rfl (T.cal (zfJ wordsL s (by decide)) fun y _ hy => T.some ?_)
  rw [hy, Bool.eq_iff_iff, decide_eq_true_eq]
  unfold isWord
  rw [List.any_eq_true]
  constructor
  · intro h; exact ⟨s, h, (zip _ _).2 rfl⟩
  · rintro ⟨w, h1, h2⟩
    have := (zip _ _).1 h2
    obtain ⟨wb⟩ := w; obtain ⟨sb⟩ := s
    simp only at this; subst this; exact h1

/-! ### One sign, all signs -/
/-- The kind and the text of what comes first, and what is left behind it. -/
def oneS (b : List UInt8) : Option (Int × List UInt8 × List UInt8) :=
  let c := hd b
  bif zbV c then bif nmBad b then none else some (bif isWord (b.take (nm b)) then 5 else bif decide (c ≤ 90) then 1 else 2, b.take (nm b), b.drop (nm b))
  else bif isDigit c || (decide (c = 45) && isDigit (hd (b.drop 1))) then match numLen b with
    | none => none
    | some n => some (3, b.take n, b.drop n)
  else bif decide (c = 39) then bif hexBad (b.drop 1) then none else some (4, (b.drop 1).take (hx (b.drop 1)), (b.drop 1).drop (hx (b.drop 1) + 2))
  else bif decide (c = 34) then match qd false (b.drop 1) [] with
    | none => none
    | some (t, r) => some (7, t, r)
  else bif decide (0 < sg b) then some (6, b.take (sg b), b.drop (sg b)) else none
theorem zj3 : ∀ (b : List UInt8) (f : Bool) (acc t r : List UInt8), qd f b acc = some (t, r) → r.length < b.length
  | [], f, acc, t, r, h => by cases f <;> simp [qd] at h
  | c :: b, true, acc, t, r, h => by
    simp only [qd] at h
    have := zj3 b _ _ _ _ h
    simp; omega
  | c :: b, false, acc, t, r, h => by
    simp only [qd] at h
    by_cases h1 : c = 34
    · simp only [zDT h1, cond_true] at h
      by_cases h2 : hd b = 34
      · simp only [zDT h2, cond_true] at h
        have := zj3 b _ _ _ _ h
        simp; omega
      · simp only [zDF h2, cond_false] at h
        cases hv : Lib.validD acc with
        | true => rw [hv] at h; simp at h; rw [← h.2]; simp
        | false => rw [hv] at h; cases h
    · simp only [zDF h1, cond_false] at h
      have := zj3 b _ _ _ _ h
      simp; omega
theorem zjB {b : List UInt8} {n : Nat} (h : numLen b = some n) : 0 < n ∧ n ≤ b.length := by
  unfold numLen at h
  by_cases h1 : hd b = 45
  · simp only [zDT h1, cond_true] at h
    cases hb : numBad true (b.drop 1) with
    | true => rw [hb] at h; cases h
    | false =>
      rw [hb] at h; simp only [cond_false, Option.some.injEq] at h
      have := znN (b.drop 1)
      rw [List.length_drop] at this
      have : b ≠ [] := fun e => by rw [e] at h1; cases h1
      have := List.length_pos_iff.2 this
      omega
  · simp only [zDF h1, cond_false] at h
    cases hb : numBad false b with
    | true => rw [hb] at h; cases h
    | false =>
      rw [hb] at h; simp at h
      have := znN b
      have : decide (dg b < 1) = false := by
        unfold numBad at hb
        simp only [Bool.or_eq_false_iff] at hb
        exact hb.1.1.1.1.1.1
      have := zOF this
      omega
theorem zo5 {b : List UInt8} (h : zbV (hd b) = true) : 0 < nm b := by
  cases b with
  | nil => simp [hd, zbV] at h
  | cons c r =>
    rw [zmb]
    simp only [hd] at h
    unfold inName
    rw [h]; simp
theorem znu : ∀ (l : List (List UInt8)) (b : List UInt8), sgF l b ≤ b.length
  | [], b => Nat.zero_le _
  | p :: ps, b => by
    unfold sgF
    cases h : isPre p b with
    | true => exact ((zg9 _ _).1 h).1
    | false => exact znu ps b
theorem znq {b t r : List UInt8} {k : Int} (h : oneS b = some (k, t, r)) : r.length < b.length := by
  unfold oneS at h
  simp only at h
  cases h1 : zbV (hd b) with
  | true =>
    rw [h1, cond_true] at h
    cases h2 : nmBad b with
    | true => rw [h2] at h; cases h
    | false =>
      rw [h2] at h
      simp only [cond_false, Option.some.injEq, Prod.mk.injEq] at h
      rw [← h.2.2, List.length_drop]
      have := zo5 h1
      have := zlf b
      omega
  | false =>
    rw [h1, cond_false] at h
    cases h2 : isDigit (hd b) || (decide (hd b = 45) && isDigit (hd (b.drop 1))) with
    | true =>
      rw [h2, cond_true] at h
      cases h3 : numLen b with
      | none => rw [h3] at h; cases h
      | some n =>
        rw [h3] at h
        simp only [Option.some.injEq, Prod.mk.injEq] at h
        have := zjB h3
        rw [← h.2.2, List.length_drop]; omega
    | false =>
      rw [h2, cond_false] at h
      by_cases h3 : hd b = 39
      · rw [zDT h3, cond_true] at h
        cases h4 : hexBad (b.drop 1) with
        | true => rw [h4] at h; cases h
        | false =>
          rw [h4] at h
          simp only [cond_false, Option.some.injEq, Prod.mk.injEq] at h
          have : b ≠ [] := fun e => by rw [e] at h3; cases h3
          have := List.length_pos_iff.2 this
          rw [← h.2.2, List.length_drop, List.length_drop]; omega
      · rw [zDF h3, cond_false] at h
        by_cases h4 : hd b = 34
        · rw [zDT h4, cond_true] at h
          cases h5 : qd false (b.drop 1) [] with
          | none => rw [h5] at h; cases h
          | some q =>
            rw [h5] at h
            obtain ⟨t', r'⟩ := q
            simp only [Option.some.injEq, Prod.mk.injEq] at h
            have := zj3 _ _ _ _ _ h5
            rw [List.length_drop] at this
            rw [← h.2.2]; omega
        · rw [zDF h4, cond_false] at h
          by_cases h5 : 0 < sg b
          · rw [zDT h5, cond_true] at h
            simp only [Option.some.injEq, Prod.mk.injEq] at h
            have := znu sgs b
            have e : sgF sgs b = sg b := rfl
            rw [← h.2.2, List.length_drop]; omega
          · rw [zDF h5] at h; cases h
theorem zo3 (s : Str) (i : Int) (h0 : 0 ≤ i) (h1 : i < s.b.length) (hl : s.b.length ≤ 1000000) :
    T (fun (q : GTok × Int) => match oneS (s.b.drop i.toNat) with
      | none => q.2 < 0
      | some (k, t, r) => q = (⟨k, ⟨t⟩, i⟩, (s.b.length : Int) - (r.length : Int))) (zgp s i) := by
  unfold zgp
  refine T.get h0 h1 fun y hy => ?_
  have ed := dropc hy
  have hy0 : hd (s.b.drop i.toNat) = y := by rw [ed]; rfl
  have ed1 : (s.b.drop i.toNat).drop 1 = s.b.drop (i.toNat + 1) := by rw [List.drop_drop]
  have elen : (s.b.drop i.toNat).length = s.b.length - i.toNat := List.length_drop
  have etake : ∀ (n : Nat), (s.b.take (i + (n : Int)).toNat).drop i.toNat = (s.b.drop i.toNat).take n := fun n => by
    rw [seg]; congr 1; omega
  have erest : ∀ (n : Nat), n ≤ (s.b.drop i.toNat).length → i + (n : Int) = (s.b.length : Int) - (((s.b.drop i.toNat).drop n).length : Int) := fun n hn => by
    rw [List.length_drop, elen]; rw [elen] at hn; omega
  refine T.jp (ι := Int × GTok) (fun (q : Int × GTok) => match oneS (s.b.drop i.toNat) with
      | none => q.1 < 0
      | some (k, t, r) => (q.2, q.1) = (⟨k, ⟨t⟩, i⟩, (s.b.length : Int) - (r.length : Int))) (fun J h => ?_) fun q hq => T.some hq
  unfold oneS at h ⊢
  simp only [hy0] at h ⊢
  refine T.eq (ze1 y) (T.br (fun hle => ?_) fun hle => T.eq (zdE y) ?_)
  · rw [hle, cond_true] at h ⊢
    have hcl : zbV (hd (s.b.drop i.toNat)) = true := by rw [hy0]; exact hle
    refine T.eq (zou s i h0 h1 hl hcl) ?_
    cases hb : nmBad (s.b.drop i.toNat) with
    | true =>
      rw [hb, cond_true] at h
      simp only [cond_true] at h ⊢
      exact T.br (fun _ => T.some (by dsimp only; omega)) fun hn => by have := zOF hn; omega
    | false =>
      rw [hb, cond_false] at h
      simp only [cond_false] at h ⊢
      have hnl := zlf (s.b.drop i.toNat)
      rw [elen] at hnl
      refine T.br (fun hn => by have := zOT hn; omega) fun _ => T.asd (by omega) ?_
      rw [etake]
      refine T.jp (ι := GTok) (fun t => t = ⟨bif decide (y ≤ 90) then 1 else 2, ⟨(s.b.drop i.toNat).take (nm (s.b.drop i.toNat))⟩, i⟩) (fun J2 h2 => T.br (fun h3 => h2 _ (by rw [h3]; rfl)) fun h3 => h2 _ (by rw [h3]; rfl)) fun t ht => ?_
      subst ht
      refine T.eq (zoK _) (T.br (fun h3 => h _ ?_) fun h3 => h _ ?_)
      · dsimp only at h3 ⊢; rw [h3, ← erest _ (zlf _)]; rfl
      · dsimp only at h3 ⊢; rw [h3, ← erest _ (zlf _)]; rfl
  · rw [hle, cond_false] at h ⊢
    refine T.jp (fun b => b = (isDigit y || (decide (y = 45) && isDigit (hd ((s.b.drop i.toNat).drop 1))))) (fun J2 h2 => T.br (fun h3 => h2 _ (by rw [h3]; rfl)) fun h3 => ?_) fun b hb => ?_
    · refine T.jp (fun b => b = (decide (y = 45) && isDigit (hd ((s.b.drop i.toNat).drop 1)))) (fun J3 h4 => T.br (fun h5 => T.ck (by omega) (T.eq (ziy s (i + 1) (by omega)) (T.eq (zdE _) (h4 _ ?_)))) fun h5 => h4 _ (by rw [h5]; rfl)) fun b hb => h2 _ (by rw [h3, hb]; rfl)
      rw [h5, ed1, show (i + 1).toNat = i.toNat + 1 by omega]; rfl
    rw [← hb] at h ⊢
    refine T.br (fun h3 => T.eq (zmN s i h0 h1 hl) ?_) fun h3 => ?_
    · rw [h3, cond_true] at h ⊢
      cases hn : numLen (s.b.drop i.toNat) with
      | none =>
        simp only [hn] at h ⊢
        exact T.br (fun _ => T.some (by dsimp only; omega)) fun hn => by have := zOF hn; omega
      | some n =>
        simp only [hn] at h ⊢
        have hbd := zjB hn
        have hbd2 := hbd.2
        rw [elen] at hbd2
        refine T.br (fun hn => by have := zOT hn; omega) fun _ => T.asd (by omega) (h _ ?_)
        rw [etake, ← erest n hbd.2]
    · rw [h3, cond_false] at h ⊢
      refine T.br (fun h4 => T.eq (zoY s i h0 h1 hl) (h _ ?_)) fun h4 => ?_
      · rw [h4, cond_true, ed1]
        cases hb : hexBad (s.b.drop (i.toNat + 1)) with
        | true => simp only [cond_true]; omega
        | false =>
          simp only [cond_false]
          have h5 : hx (s.b.drop (i.toNat + 1)) + 1 < (s.b.drop (i.toNat + 1)).length := by
            unfold hexBad at hb
            have := (Bool.or_eq_false_iff.1 hb).2
            have h72 : hd ((s.b.drop (i.toNat + 1)).drop (hx (s.b.drop (i.toNat + 1)) + 1)) = 72 := by simpa using this
            exact znM (by rw [h72]; decide)
          rw [List.length_drop] at h5
          rw [List.length_drop, List.length_drop]
          have e : i + 1 + (hx (s.b.drop (i.toNat + 1)) : Int) + 2 = (s.b.length : Int) - ((s.b.length - (i.toNat + 1) - (hx (s.b.drop (i.toNat + 1)) + 2) : Nat) : Int) := by omega
          rw [e]
      · rw [h4, cond_false] at h ⊢
        refine T.br (fun h5 => T.eq (zmS s i h0 h1 hl) (h _ ?_)) fun h5 => ?_
        · rw [h5, cond_true, ed1]
          cases hq : qd false (s.b.drop (i.toNat + 1)) [] with
          | none => simp only; omega
          | some q => rfl
        · rw [h5, cond_false] at h ⊢
          refine T.eq (zoA s i h0 h1 hl) (T.br (fun h6 => ?_) fun h6 => h _ ?_)
          · have h6 := zOT h6
            have hsl := znu sgs (s.b.drop i.toNat)
            have esg : sgF sgs (s.b.drop i.toNat) = sg (s.b.drop i.toNat) := rfl
            have hpos : 0 < sg (s.b.drop i.toNat) := by omega
            have hsl2 := hsl
            rw [elen] at hsl2
            refine T.ck (by omega) (T.asd (by omega) (T.ck (by omega) (h _ ?_)))
            rw [zDT hpos, cond_true]
            dsimp only
            rw [etake, ← erest (sg (s.b.drop i.toNat)) hsl]
          · have h6 := zOF h6
            rw [zDF (show ¬ 0 < sg (s.b.drop i.toNat) by omega)]
            simp only [cond_false]; omega

def toksF (n : Nat) : Nat → List UInt8 → List GTok → List GTok × Int × Int
  | 0, _, _ => ([], 0, 0)
  | f + 1, b, acc => match wh .out b with
    | [] => (acc ++ [⟨0, ⟨[]⟩, (n : Int)⟩], 0, 0)
    | c :: r => match oneS (c :: r) with
      | none => ([], (n : Int) - ((c :: r).length : Int), 6)
      | some (k, t, r') => toksF n f r' (acc ++ [⟨k, ⟨t⟩, (n : Int) - ((c :: r).length : Int)⟩])
theorem zlS (n f : Nat) (b : List UInt8) (acc : List GTok) : toksF n (f + 1) b acc = match wh .out b with
    | [] => (acc ++ [⟨0, ⟨[]⟩, (n : Int)⟩], 0, 0)
    | c :: r => match oneS (c :: r) with
      | none => ([], (n : Int) - ((c :: r).length : Int), 6)
      | some (k, t, r') => toksF n f r' (acc ++ [⟨k, ⟨t⟩, (n : Int) - ((c :: r).length : Int)⟩]) := rfl
def toks (b : List UInt8) : List GTok × Int × Int := bif decide (8000 < b.length) then ([], 0, 5) else toksF b.length (b.length + 1) b []
theorem zgR : ∀ (b : List UInt8) (st : Wst), (wh st b).length ≤ b.length
  | [], st => by cases st <;> simp [wh]
  | c :: r, .out => by
    have h1 := zgR r .out
    have h2 := zgR r .start
    simp only [wh]
    cases isWh c <;> simp only [cond_true, cond_false]
    · cases decide (c = 45) && decide (hd r = 45) <;> simp only [cond_true, cond_false, List.length_cons] <;> omega
    · simp only [List.length_cons]; omega
  | c :: r, .start => by have := zgR r .ins; simp only [wh, List.length_cons]; omega
  | c :: r, .ins => by
    have h1 := zgR r .out
    have h2 := zgR r .fin
    have h3 := zgR r .ins
    simp only [wh, List.length_cons]
    cases decide (c = 10) <;> simp only [cond_true, cond_false]
    · cases decide (c = 45) && decide (hd r = 45) <;> simp only [cond_true, cond_false] <;> omega
    · omega
  | c :: r, .fin => by have := zgR r .out; simp only [wh, List.length_cons]; omega
theorem zgZ : ∀ (b : List UInt8) (st : Wst), ∃ n, wh st b = b.drop n
  | [], st => ⟨0, by cases st <;> simp [wh]⟩
  | c :: r, .out => by
    obtain ⟨n1, h1⟩ := zgZ r .out
    obtain ⟨n2, h2⟩ := zgZ r .start
    simp only [wh]
    cases isWh c <;> simp only [cond_true, cond_false]
    · cases decide (c = 45) && decide (hd r = 45) <;> simp only [cond_true, cond_false]
      · exact ⟨0, rfl⟩
      · exact ⟨n2 + 1, h2⟩
    · exact ⟨n1 + 1, h1⟩
  | c :: r, .start => by obtain ⟨n, h⟩ := zgZ r .ins; exact ⟨n + 1, h⟩
  | c :: r, .ins => by
    obtain ⟨n1, h1⟩ := zgZ r .out
    obtain ⟨n2, h2⟩ := zgZ r .fin
    obtain ⟨n3, h3⟩ := zgZ r .ins
    simp only [wh]
    cases decide (c = 10) <;> simp only [cond_true, cond_false]
    · cases decide (c = 45) && decide (hd r = 45) <;> simp only [cond_true, cond_false]
      · exact ⟨n3 + 1, h3⟩
      · exact ⟨n2 + 1, h2⟩
    · exact ⟨n1 + 1, h1⟩
  | c :: r, .fin => by obtain ⟨n, h⟩ := zgZ r .out; exact ⟨n + 1, h⟩
theorem zkr : ∀ (b : List UInt8) (f : Bool) (acc t r : List UInt8), qd f b acc = some (t, r) → ∃ n, r = b.drop n
  | [], f, acc, t, r, h => by cases f <;> simp [qd] at h
  | c :: b, true, acc, t, r, h => by
    simp only [qd] at h
    obtain ⟨n, e⟩ := zkr b _ _ _ _ h
    exact ⟨n + 1, e⟩
  | c :: b, false, acc, t, r, h => by
    simp only [qd] at h
    by_cases h1 : c = 34
    · simp only [zDT h1, cond_true] at h
      by_cases h2 : hd b = 34
      · simp only [zDT h2, cond_true] at h
        obtain ⟨n, e⟩ := zkr b _ _ _ _ h
        exact ⟨n + 1, e⟩
      · simp only [zDF h2, cond_false] at h
        cases hv : Lib.validD acc with
        | true => rw [hv] at h; simp at h; exact ⟨1, h.2.symm⟩
        | false => rw [hv] at h; cases h
    · simp only [zDF h1, cond_false] at h
      obtain ⟨n, e⟩ := zkr b _ _ _ _ h
      exact ⟨n + 1, e⟩
theorem znn {b t r : List UInt8} {k : Int} (h : oneS b = some (k, t, r)) : ∃ n, r = b.drop n := by
  unfold oneS at h
  simp only at h
  cases h1 : zbV (hd b) with
  | true =>
    rw [h1, cond_true] at h
    cases h2 : nmBad b with
    | true => rw [h2] at h; cases h
    | false =>
      rw [h2] at h
      simp only [cond_false, Option.some.injEq, Prod.mk.injEq] at h
      exact ⟨_, h.2.2.symm⟩
  | false =>
    rw [h1, cond_false] at h
    cases h2 : isDigit (hd b) || (decide (hd b = 45) && isDigit (hd (b.drop 1))) with
    | true =>
      rw [h2, cond_true] at h
      cases h3 : numLen b with
      | none => rw [h3] at h; cases h
      | some n =>
        rw [h3] at h
        simp only [Option.some.injEq, Prod.mk.injEq] at h
        exact ⟨_, h.2.2.symm⟩
    | false =>
      rw [h2, cond_false] at h
      by_cases h3 : hd b = 39
      · rw [zDT h3, cond_true] at h
        cases h4 : hexBad (b.drop 1) with
        | true => rw [h4] at h; cases h
        | false =>
          rw [h4] at h
          simp only [cond_false, Option.some.injEq, Prod.mk.injEq, List.drop_drop] at h
          exact ⟨_, h.2.2.symm⟩
      · rw [zDF h3, cond_false] at h
        by_cases h4 : hd b = 34
        · rw [zDT h4, cond_true] at h
          cases h5 : qd false (b.drop 1) [] with
          | none => rw [h5] at h; cases h
          | some q =>
            rw [h5] at h
            obtain ⟨t', r'⟩ := q
            simp only [Option.some.injEq, Prod.mk.injEq] at h
            obtain ⟨n, e⟩ := zkr _ _ _ _ _ h5
            rw [List.drop_drop] at e
            exact ⟨_, h.2.2.symm.trans e⟩
        · rw [zDF h4, cond_false] at h
          by_cases h5 : 0 < sg b
          · rw [zDT h5, cond_true] at h
            simp only [Option.some.injEq, Prod.mk.injEq] at h
            exact ⟨_, h.2.2.symm⟩
          · rw [zDF h5] at h; cases h
theorem zkF {b r : List UInt8} {n : Nat} (h : r = b.drop n) : b.drop (b.length - r.length) = r := by
  subst h
  rw [List.length_drop]
  rcases Nat.lt_or_ge b.length n with h2 | h2
  · rw [List.drop_eq_nil_of_le (show b.length ≤ n by omega), List.drop_eq_nil_of_le (by omega)]
  · congr 1; omega

theorem zmo (s : Str) : zdi s = some (toks s.b) := by
  refine tx ?_
  unfold zdi toks
  refine T.br (fun h => T.some ?_) fun h => ?_
  · have h := zOT h
    rw [zDT (show 8000 < s.b.length by omega)]; rfl
  have hl := zOF h
  rw [zDF (show ¬ 8000 < s.b.length by omega), cond_false]
  refine T.lp (ι := List GTok × Int) (fun (q : List GTok × Int) => 0 ≤ q.2 ∧ q.2 ≤ (s.b.length : Int) ∧ (q.1.length : Int) ≤ q.2 ∧ ∃ f, (s.b.drop q.2.toNat).length < f ∧ toksF s.b.length (s.b.length + 1) s.b [] = toksF s.b.length f (s.b.drop q.2.toNat) q.1) (fun (q : List GTok × Int) => ((s.b.length : Int) - q.2).toNat) ⟨Int.le_refl _, by dsimp only; omega, by simp, s.b.length + 1, by simp, rfl⟩ (by dsimp only; omega) fun L q hq hL => ?_
  obtain ⟨l, k⟩ := q
  obtain ⟨h1, h2, h3, f, h4, h5⟩ := hq
  simp only at h1 h2 h3 h4 h5 ⊢
  rw [h5] at hL ⊢
  cases f with
  | zero => omega
  | succ f =>
    have hwl := zgR (s.b.drop k.toNat) .out
    rw [List.length_drop] at hwl h4
    obtain ⟨nw, hw⟩ := zgZ (s.b.drop k.toNat) .out
    rw [List.drop_drop] at hw
    have hsw := zkF hw
    refine T.eq (zn1 s k h1 h2 (by omega)) ?_
    rw [zlS] at hL ⊢
    cases hwh : wh .out (s.b.drop k.toNat) with
    | nil =>
      simp only [hwh] at hL ⊢
      refine T.br (fun _ => T.abl (by simp only [List.length_cons, List.length_nil]; omega) (T.some rfl)) fun h6 => ?_
      have := zOF h6
      simp at this
    | cons c r =>
      simp only [hwh] at hL ⊢ 
      rw [hwh] at hwl hsw
      have hcl : 0 < (c :: r).length := by simp
      refine T.br (fun h6 => by have := zOT h6; omega) fun _ => ?_
      have hi : ((s.b.length : Int) - ((c :: r).length : Int)).toNat = s.b.length - (c :: r).length := by omega
      refine T.cal (zo3 s ((s.b.length : Int) - ((c :: r).length : Int)) (by omega) (by omega) (by omega)) fun q _ hq => ?_
      rw [hi, hsw] at hq
      cases ho : oneS (c :: r) with
      | none =>
        rw [ho] at hq
        simp only [ho] at hL ⊢
        simp only at hq
        exact T.br (fun _ => T.some rfl) fun h7 => by have := zOF h7; omega
      | some p =>
        obtain ⟨kd, t, r'⟩ := p
        rw [ho] at hq
        simp only [ho] at hL ⊢
        simp only at hq
        subst hq
        have hol := znq ho
        obtain ⟨no, hso⟩ := znn ho
        have hso2 : r' = s.b.drop (s.b.length - (c :: r).length + no) := by rw [hso, ← List.drop_drop, hsw]
        have hsd := zkF hso2
        refine T.br (fun h7 => by have := zOT h7; dsimp only at this; omega) fun _ => T.abl (by simp only [List.length_cons, List.length_nil]; omega) (hL _ ⟨by dsimp only; omega, by dsimp only; omega, ?_, f, ?_, ?_⟩ (by dsimp only; omega))
        · dsimp only; rw [List.length_append, List.length_singleton]; omega
        · dsimp only
          rw [show ((s.b.length : Int) - (r'.length : Int)).toNat = s.b.length - r'.length by omega, hsd]
          omega
        · dsimp only
          rw [show ((s.b.length : Int) - (r'.length : Int)).toNat = s.b.length - r'.length by omega, hsd]
end Go.Proofs.Q


namespace Go.Proofs.Q
open Go.Sy
set_option maxRecDepth 4000
def tokF (s : Str) : Option (List GTok × Int × Int) := some (toks s.b)
theorem zog : zdi = tokF := funext zmo
def zhw (za0 : Str) : Option (GMod × Int × Int) :=
  cal (tokF za0) fun y2 => br (!decide (y2.2.2 = (0 : Int))) (some ((GMod.mk (Str.mk []) (0 : Int) ([] : (List Str)) ([] : (List Int)) ([] : (List GNode))), y2.2.1, y2.2.2)) (cal (za3 (GPar.mk y2.1 (0 : Int) (GMod.mk (Str.mk []) (0 : Int) ([] : (List Str)) ([] : (List Int)) ([] : (List GNode))) (0 : Int) (0 : Int)) (1 : Int)) fun y7 => cal (zV (GPar.mk y7.2.l y7.2.at_ (GMod.mk y7.1 y7.2.m.tagging y7.2.m.names y7.2.m.types y7.2.m.nodes) y7.2.e y7.2.p) (Str.mk [68, 69, 70, 73, 78, 73, 84, 73, 79, 78, 83])) fun y10 => jp (ι := GPar) (fun J14 => cal (zP y10 (Str.mk [69, 88, 80, 76, 73, 67, 73, 84])) fun y15 => br y15.1 (cal (zV y15.2 (Str.mk [84, 65, 71, 83])) fun y18 => J14 (y18)) (cal (zP y15.2 (Str.mk [73, 77, 80, 76, 73, 67, 73, 84])) fun y21 => br y21.1 (cal (zV (GPar.mk y21.2.l y21.2.at_ (GMod.mk y21.2.m.name (1 : Int) y21.2.m.names y21.2.m.types y21.2.m.nodes) y21.2.e y21.2.p) (Str.mk [84, 65, 71, 83])) fun y24 => J14 (y24)) (cal (zP y21.2 (Str.mk [65, 85, 84, 79, 77, 65, 84, 73, 67])) fun y27 => br y27.1 (cal (zV (GPar.mk y27.2.l y27.2.at_ (GMod.mk y27.2.m.name (2 : Int) y27.2.m.names y27.2.m.types y27.2.m.nodes) y27.2.e y27.2.p) (Str.mk [84, 65, 71, 83])) fun y30 => J14 (y30)) (J14 (y27.2))))) (fun q13 => cal (zV q13 (Str.mk [58, 58, 61])) fun y33 => cal (zV y33 (Str.mk [66, 69, 71, 73, 78])) fun y36 => lp (ι := GPar) (fun L40 q39 => jp (ι := Bool × GPar) (fun J92 => br (decide (q39.e = (0 : Int))) (cal (zP q39 (Str.mk [69, 78, 68])) fun y94 => J92 ((!y94.1), y94.2)) (J92 (false, q39))) (fun q91 => br q91.1 (cal (zav q91.2) fun y97 => cal (za3 y97.2 (1 : Int)) fun y101 => jp (ι := Bool) (fun J105 => br (decide (y101.2.e = (0 : Int))) (J105 ((decide ((40 : Int) ≤ (y101.2.m.names.length : Int))))) (J105 (false))) (fun q104 => jp (ι := GPar) (fun J108 => br q104 (cal (zaE y101.2 (5 : Int) y97.1) fun y109 => J108 (y109)) (J108 (y101.2))) (fun q107 => cal (zV q107 (Str.mk [58, 58, 61])) fun y112 => cal (zbr fuel y112 (0 : Int)) fun y115 => asr (Nat.ble (y115.2.m.names.length + ([y101.1] : (List Str)).length) 68719476736) <| asr (Nat.ble (y115.2.m.types.length + ([y115.1] : (List Int)).length) 68719476736) <| L40 ((GPar.mk y115.2.l y115.2.at_ (GMod.mk y115.2.m.name y115.2.m.tagging (y115.2.m.names ++ ([y101.1] : (List Str))) (y115.2.m.types ++ ([y115.1] : (List Int))) y115.2.m.nodes) y115.2.e y115.2.p))))) (jp (ι := Bool × GPar) (fun J126 => br (decide (q91.2.e = (0 : Int))) (cal (zav q91.2) fun y128 => J126 ((!decide (y128.1.kind = (0 : Int))), y128.2)) (J126 (false, q91.2))) (fun q125 => jp (ι := GPar) (fun J132 => br q125.1 (cal (zav q125.2) fun y133 => cal (zaE y133.2 (7 : Int) y133.1) fun y136 => J132 (y136)) (J132 (q125.2))) (fun q131 => br (!decide (q131.e = (0 : Int))) (some ((GMod.mk (Str.mk []) (0 : Int) ([] : (List Str)) ([] : (List Int)) ([] : (List GNode))), q131.p, q131.e)) (some (q131.m, (0 : Int), (0 : Int)))))))) ((y36))))
theorem zjq : zel = zhw := by
  funext za0
  unfold zel zhw
  rw [zog]
def zew (za0 : Str) : Option (GTab × Bool) :=
  br (decide ((3000 : Int) < (za0.b.length : Int))) (some ((GTab.mk (Str.mk []) ([] : (List Str)) ([] : (List Int)) ([] : (List GTyp))), false)) (cal (zhw za0) fun y2 => br (!decide (y2.2.2 = (0 : Int))) (some ((GTab.mk (Str.mk []) ([] : (List Str)) ([] : (List Int)) ([] : (List GTyp))), false)) (cal (zfZ y2.1) fun y4 => jp (ι := Bool) (fun J7 => br (decide (y4.2.2 = (0 : Int))) (J7 ((decide ((y4.1.types.length : Int) ≤ (120 : Int))))) (J7 (false))) (fun q6 => some (y4.1, q6))))
theorem zhk : zbF = zew := by
  funext za0
  unfold zbF zew
  rw [zjq]
def zhW : Option (Bool) :=
  cal (zew (Str.mk [77, 32, 68, 69, 70, 73, 78, 73, 84, 73, 79, 78, 83, 32, 58, 58, 61, 32, 66, 69, 71, 73, 78, 32, 65, 32, 58, 58, 61, 32, 83, 69, 84, 32, 123, 32, 97, 32, 91, 49, 93, 32, 78, 85, 76, 76, 44, 32, 98, 32, 91, 48, 93, 32, 78, 85, 76, 76, 32, 125, 32, 69, 78, 68])) fun y1 => cal (zcX y1.1 (0 : Int)) fun y3 => jp (ι := Bool) (fun J5 => br y1.2 (J5 ((decide ((y3.length : Int) = (2 : Int))))) (J5 (false))) (fun q4 => jp (ι := Bool) (fun J8 => br q4 (cal (getI y3 (0 : Int)) fun y10 => J8 ((decide (y10 = (1 : Int))))) (J8 (false))) (fun q7 => jp (ι := Bool) (fun J12 => br q7 (cal (getI y3 (1 : Int)) fun y14 => J12 ((decide (y14 = (0 : Int))))) (J12 (false))) (fun q11 => some (q11))))
theorem ziF : zdn = zhW := by
  unfold zdn zhW
  rw [zhk]
end Go.Proofs.Q


namespace Go.Proofs.Q
open Go.Sy
set_option linter.unusedVariables false
set_option maxRecDepth 4000

theorem awake11 : zdn = some true := by rw [ziF]; kernel_rfl
theorem zhq (l : List Int) (hl : l.length ≤ 1000000) : zdl l l = some true := by
  refine T.eqs ?_
  unfold zdl
  refine T.cal (Q := fun r => r = true) ?_ fun r _ hr => T.some hr
  unfold zgj
  refine T.br (fun h => by simp at h) fun _ => ?_
  refine T.lp (fun (k : Int) => 0 ≤ k ∧ k ≤ (l.length : Int)) (fun (k : Int) => ((l.length : Int) - k).toNat) ⟨Int.le_refl _, by omega⟩ (by omega) fun L k ⟨h1, h2⟩ hL => ?_
  refine T.br (fun hb => ?_) fun _ => T.some rfl
  have hb := zOT hb
  refine T.get h1 hb fun y hy => T.get h1 hb fun y' hy' => ?_
  rw [hy] at hy'; cases hy'
  exact T.eq (y := true) (by unfold zdY; rw [zDT rfl]) (T.br (fun h => by cases h) fun _ => T.ck (by omega) (hL _ ⟨by omega, by omega⟩ (by omega)))
theorem zlV (l : List (List Int)) (hl : l.length ≤ 1000000) (hs : ∀ s ∈ l, s.length ≤ 1000000) : zeH l l = some true := by
  refine T.eqs ?_
  unfold zeH
  refine T.cal (Q := fun r => r = true) ?_ fun r _ hr => T.some hr
  unfold zfx
  refine T.br (fun h => by simp at h) fun _ => ?_
  refine T.lp (fun (k : Int) => 0 ≤ k ∧ k ≤ (l.length : Int)) (fun (k : Int) => ((l.length : Int) - k).toNat) ⟨Int.le_refl _, by omega⟩ (by omega) fun L k ⟨h1, h2⟩ hL => ?_
  refine T.br (fun hb => ?_) fun _ => T.some rfl
  have hb := zOT hb
  refine T.get h1 hb fun y hy => T.get h1 hb fun y' hy' => ?_
  rw [hy] at hy'; cases hy'
  exact T.eq (zhq y (hs y (List.mem_of_getElem? hy))) (T.br (fun h => by cases h) fun _ => T.ck (by omega) (hL _ ⟨by omega, by omega⟩ (by omega)))
theorem Std.len {R : Int → Int → Prop} {root n : Int} {l : List Int} (h : Std R root n l) (h0 : 0 ≤ root) (h1 : root ≤ n) : (l.length : Int) = n := by
  obtain ⟨s, rfl, p, _⟩ := h
  have := p.length_eq
  rw [zcC] at this
  rw [List.length_append, this, zcC]; omega
theorem znc {t : GTab} (ht : TabOk t) {i : Int} {l : List Int} (h : FldsS t i l) : l.length ≤ 1000 := by
  unfold FldsS at h
  generalize hy : (if 0 ≤ i then t.types[i.toNat]? else none) = o at h
  cases o with
  | none =>
    have h : l = [] := h
    rw [h]; simp
  | some x =>
    have hi : 0 ≤ i := by
      by_cases h : 0 ≤ i
      · exact h
      · rw [if_neg h] at hy; cases hy
    rw [if_pos hi] at hy
    obtain ⟨ok, hfl⟩ := ht.typ hi hy
    by_cases h7 : x.kind = 7
    · rw [h.1 h7, zcC]; omega
    · by_cases h8 : x.kind = 8 ∨ x.kind = 9
      · have := (h.2.1 h8).len ok.root0 (ok.rootF (.inr h8)); omega
      · rw [h.2.2 (by omega)]; simp
theorem znW {t : GTab} (ht : TabOk t) {i : Int} {l : List Int} (h : ItmsS t i l) : l.length ≤ 10000 := by
  unfold ItmsS at h
  generalize hy : (if 0 ≤ i then t.types[i.toNat]? else none) = o at h
  cases o with
  | none =>
    have h : l = [] := h
    rw [h]; simp
  | some x =>
    have hi : 0 ≤ i := by
      by_cases h : 0 ≤ i
      · exact h
      · rw [if_neg h] at hy; cases hy
    rw [if_pos hi] at hy
    obtain ⟨ok, hfl⟩ := ht.typ hi hy
    by_cases h3 : x.kind = 3
    · have := (h.1 h3).len ok.root0 (ok.rootI h3); have := ok.ilen; omega
    · rw [h.2 h3]; simp
theorem zmL {t : GTab} (ht : TabOk t) (i : Int) : (slotsT t i).length ≤ 1000 ∧ ∀ s ∈ slotsT t i, s.length ≤ 1000 := by
  unfold slotsT
  generalize hy : (if 0 ≤ i then t.types[i.toNat]? else none) = o
  cases o with
  | none => exact ⟨Nat.zero_le _, fun s hs => by cases hs⟩
  | some x =>
    have hi : 0 ≤ i := by
      by_cases h : 0 ≤ i
      · exact h
      · rw [if_neg h] at hy; cases hy
    rw [if_pos hi] at hy
    obtain ⟨ok, hfl⟩ := ht.typ hi hy
    have hr0 := ok.root0
    show (if x.kind = 7 ∨ x.kind = 8 ∨ x.kind = 9 then slots x else []).length ≤ 1000 ∧ ∀ s ∈ (if x.kind = 7 ∨ x.kind = 8 ∨ x.kind = 9 then slots x else []), s.length ≤ 1000
    split
    · unfold slots
      have := zhz (c := !decide (x.kind = 9)) (fs := x.fields) (rng x.root x.fields.length) [] 0 (Nat.le_refl _) (fun s hs => by cases hs)
      rw [zcC] at this
      exact ⟨by omega, fun s hs => by have := this.2 s hs; omega⟩
    · exact ⟨Nat.zero_le _, fun s hs => by cases hs⟩
theorem zky (text : Str) (i : Int) : zdy text i = some true := by
  refine T.eqs ?_
  unfold zdy
  refine T.cal (zmF text) fun y _ ht => T.br (fun _ => T.eq awake11 (T.some rfl)) fun _ => T.eq awake11 ?_
  refine T.jp (fun b => b = true) (fun J hJ => T.brT rfl (T.eq (zin ht i) (T.eq (zhx ht i) (hJ _ (zDT rfl))))) fun b hb => ?_
  subst hb
  refine T.jp (fun b => b = true) (fun J hJ => T.brT rfl (T.cal (zmn ht i) fun a _ ha => T.cal (zlP ht i) fun b _ hb => ?_)) fun b hb => ?_
  · have e := ha.uniq hb
    subst e
    exact T.eq (zhq a (by have := znc ht ha; omega)) (hJ _ rfl)
  subst hb
  refine T.jp (fun b => b = true) (fun J hJ => T.brT rfl (T.cal (zn0 ht i) fun a _ ha => T.cal (zmJ ht i) fun b _ hb => ?_)) fun b hb => ?_
  · have e := ha.uniq hb
    subst e
    exact T.eq (zhq a (by have := znW ht ha; omega)) (hJ _ rfl)
  subst hb
  refine T.jp (fun b => b = true) (fun J hJ => T.brT rfl (T.eq (zmP ht i) (T.eq (zlQ ht i) ?_))) fun b hb => T.some hb
  have := zmL ht i
  exact T.eq (zlV _ (by omega) fun s hs => by have := this.2 s hs; omega) (hJ _ rfl)
end Go.Proofs.Q

