/- OrderOnce: whatever its arguments are, the law's model answers true. No condition. -/
import Derived.Test.YtnnijoepfgnlfaaDoorOoA
import Derived.Test.YtnnijoepfgnlfaaDoorOoB
import Derived.Test.YtnnijoepfgnlfaaDoorOoC
import Derived.KernelRfl
set_option linter.unusedVariables false
set_option linter.unusedSimpArgs false

namespace Go.Proofs.Q
open Go.Sy
set_option linter.unusedVariables false

/-! ### Signs -/
def isPre : List UInt8 → List UInt8 → Bool
  | [], _ => true
  | _ :: _, [] => false
  | p :: ps, c :: r => bif decide (p = c) then isPre ps r else false
def sgF : List (List UInt8) → List UInt8 → Nat
  | [], _ => 0
  | p :: ps, b => bif isPre p b then p.length else sgF ps b
def sgs : List (List UInt8) := [[58, 58, 61], [46, 46, 46], [46, 46], [91, 91], [93, 93], [123], [125], [91], [93], [40], [41], [44], [58]]
def sg (b : List UInt8) : Nat := sgF sgs b
theorem zgX : ∀ (p b : List UInt8), isPre p b = true ↔ p.length ≤ b.length ∧ b.take p.length = p
  | [], b => by simp [isPre]
  | _ :: _, [] => by simp [isPre]
  | p :: ps, c :: r => by
    have ih := zgX ps r
    unfold isPre
    by_cases h : p = c
    · subst h; simp [ih]
    · simp only [zDF h, cond_false, List.length_cons, List.take_succ_cons, List.cons.injEq]
      exact ⟨(fun h => by cases h), fun h2 => absurd h2.2.1.symm h⟩
theorem zoM {k : Nat} {y : Str} (h : ([(Str.mk [58, 58, 61]), (Str.mk [46, 46, 46]), (Str.mk [46, 46]), (Str.mk [91, 91]), (Str.mk [93, 93]), (Str.mk [123]), (Str.mk [125]), (Str.mk [91]), (Str.mk [93]), (Str.mk [40]), (Str.mk [41]), (Str.mk [44]), (Str.mk [58])] : List Str)[k]? = some y) : sgs.drop k = y.b :: sgs.drop (k + 1) := by
  have e : ([(Str.mk [58, 58, 61]), (Str.mk [46, 46, 46]), (Str.mk [46, 46]), (Str.mk [91, 91]), (Str.mk [93, 93]), (Str.mk [123]), (Str.mk [125]), (Str.mk [91]), (Str.mk [93]), (Str.mk [40]), (Str.mk [41]), (Str.mk [44]), (Str.mk [58])] : List Str) = sgs.map Str.mk := rfl
  rw [e, List.getElem?_map] at h
  obtain ⟨z, h1, h2⟩ := Option.map_eq_some_iff.1 h
  subst h2
  obtain ⟨h3, h4⟩ := List.getElem?_eq_some_iff.1 h1
  rw [List.drop_eq_getElem_cons h3, h4]
theorem zoy (s : Str) (i : Int) (h0 : 0 ≤ i) (h1 : i < s.b.length) (hl : s.b.length ≤ 1000000) : zfl s i = some ((sg (s.b.drop i.toNat) : Nat) : Int) := by
  refine tx ?_
  unfold zfl
  refine T.asd (by omega) (T.lp (fun (k : Int) => 0 ≤ k ∧ k ≤ 13 ∧ sgF (sgs.drop k.toNat) (s.b.drop i.toNat) = sg (s.b.drop i.toNat)) (fun (k : Int) => (13 - k).toNat) ⟨Int.le_refl _, by omega, rfl⟩ (by omega) fun L k ⟨k1, k2, k3⟩ hL => ?_)
  have er : (s.b.take ((s.b.length : Int)).toNat).drop i.toNat = s.b.drop i.toNat := by rw [List.take_of_length_le (by omega)]
  refine T.br (fun h2 => ?_) fun h2 => T.some ?_
  rotate_left
  · have h2 : ¬ k < 13 := zOF h2
    have : k = 13 := by omega
    subst this
    rw [← k3]; rfl
  have h2 := zOT h2
  refine T.get k1 h2 fun y hy => ?_
  have hs := zoM hy
  rw [hs] at k3
  unfold sgF at k3
  rw [er]
  refine T.jp (fun b => b = isPre y.b (s.b.drop i.toNat)) (fun J h => T.br (fun h3 => ?_) fun h3 => h _ ?_) fun b hb => ?_
  · have h3 := zOT h3
    refine T.asd ⟨Int.le_refl _, by omega, h3⟩ (T.get k1 h2 fun y2 hy2 => h _ ?_)
    rw [hy] at hy2; cases hy2
    have h4 : y.b.length ≤ (s.b.drop i.toNat).length := by simp only [List.length_drop] at h3 ⊢; omega
    rw [Bool.eq_iff_iff, decide_eq_true_eq, zgX]
    constructor
    · intro h5
      refine ⟨h4, ?_⟩
      have := congrArg Str.b h5
      simpa using this
    · intro h5
      obtain ⟨yb⟩ := y
      simp only [Str.mk.injEq]
      simpa using h5.2
  · have h3 := zOF h3
    symm
    rw [Bool.eq_false_iff]
    intro h5
    have := (zgX _ _).1 h5
    simp only [List.length_drop] at h3 this
    omega
  · rw [hb]
    refine T.br (fun h3 => T.some ?_) fun h3 => T.ck (by have h2 : k < 13 := h2; omega) (hL _ ⟨by omega, by have h2 : k < 13 := h2; omega, ?_⟩ (by have h2 : k < 13 := h2; omega))
    · rw [h3, cond_true] at k3; rw [← k3]
    · rw [h3, cond_false] at k3
      have e : (k + 1).toNat = k.toNat + 1 := by omega
      rw [e, k3]

/-! ### Words -/
def wordsL : List Str := [(Str.mk [68, 69, 70, 73, 78, 73, 84, 73, 79, 78, 83]), (Str.mk [69, 88, 80, 76, 73, 67, 73, 84]), (Str.mk [73, 77, 80, 76, 73, 67, 73, 84]), (Str.mk [65, 85, 84, 79, 77, 65, 84, 73, 67]), (Str.mk [84, 65, 71, 83]), (Str.mk [66, 69, 71, 73, 78]), (Str.mk [69, 78, 68]), (Str.mk [66, 79, 79, 76, 69, 65, 78]), (Str.mk [73, 78, 84, 69, 71, 69, 82]), (Str.mk [69, 78, 85, 77, 69, 82, 65, 84, 69, 68]), (Str.mk [78, 85, 76, 76]), (Str.mk [79, 67, 84, 69, 84]), (Str.mk [83, 84, 82, 73, 78, 71]), (Str.mk [85, 84, 70, 56, 83, 116, 114, 105, 110, 103]), (Str.mk [83, 69, 81, 85, 69, 78, 67, 69]), (Str.mk [83, 69, 84]), (Str.mk [67, 72, 79, 73, 67, 69]), (Str.mk [79, 70]), (Str.mk [79, 80, 84, 73, 79, 78, 65, 76]), (Str.mk [68, 69, 70, 65, 85, 76, 84]), (Str.mk [83, 73, 90, 69]), (Str.mk [77, 73, 78]), (Str.mk [77, 65, 88]), (Str.mk [84, 82, 85, 69]), (Str.mk [70, 65, 76, 83, 69])]
def sameB : List UInt8 → List UInt8 → Bool
  | [], [] => true
  | a :: r, b :: t => bif decide (a = b) then sameB r t else false
  | _, _ => false
theorem zh0 : ∀ a b : List UInt8, sameB a b = true ↔ a = b
  | [], [] => by simp [sameB]
  | [], _ :: _ => by simp [sameB]
  | _ :: _, [] => by simp [sameB]
  | a :: r, b :: t => by
    have ih := zh0 r t
    unfold sameB
    by_cases h : a = b
    · subst h; simp [ih]
    · simp [h]
def isWord (t : List UInt8) : Bool := wordsL.any fun w => sameB w.b t
theorem zop (s : Str) : ze8 s = some (isWord s.b) := by
  refine tx ?_
  unfold ze8
  refine T.eq (y := wordsL) rfl (T.cal (zfy wordsL s (by decide)) fun y _ hy => T.some ?_)
  rw [hy, Bool.eq_iff_iff, decide_eq_true_eq]
  unfold isWord
  rw [List.any_eq_true]
  constructor
  · intro h; exact ⟨s, h, (zh0 _ _).2 rfl⟩
  · rintro ⟨w, h1, h2⟩
    have := (zh0 _ _).1 h2
    obtain ⟨wb⟩ := w; obtain ⟨sb⟩ := s
    simp only at this; subst this; exact h1

/-! ### One sign, all signs -/
/-- The kind and the text of what comes first, and what is left behind it. -/
def oneS (b : List UInt8) : Option (Int × List UInt8 × List UInt8) :=
  let c := hd b
  bif zaH c then bif nmBad b then none else some (bif isWord (b.take (nm b)) then 5 else bif decide (c ≤ 90) then 1 else 2, b.take (nm b), b.drop (nm b))
  else bif isDigit c || (decide (c = 45) && isDigit (hd (b.drop 1))) then match numLen b with
    | none => none
    | some n => some (3, b.take n, b.drop n)
  else bif decide (c = 39) then bif hexBad (b.drop 1) then none else some (4, (b.drop 1).take (hx (b.drop 1)), (b.drop 1).drop (hx (b.drop 1) + 2))
  else bif decide (c = 34) then match qd false (b.drop 1) [] with
    | none => none
    | some (t, r) => some (7, t, r)
  else bif decide (0 < sg b) then some (6, b.take (sg b), b.drop (sg b)) else none
theorem zjZ : ∀ (b : List UInt8) (f : Bool) (acc t r : List UInt8), qd f b acc = some (t, r) → r.length < b.length
  | [], f, acc, t, r, h => by cases f <;> simp [qd] at h
  | c :: b, true, acc, t, r, h => by
    simp only [qd] at h
    have := zjZ b _ _ _ _ h
    simp; omega
  | c :: b, false, acc, t, r, h => by
    simp only [qd] at h
    by_cases h1 : c = 34
    · simp only [zDT h1, cond_true] at h
      by_cases h2 : hd b = 34
      · simp only [zDT h2, cond_true] at h
        have := zjZ b _ _ _ _ h
        simp; omega
      · simp only [zDF h2, cond_false] at h
        cases hv : Lib.validD acc with
        | true => rw [hv] at h; simp at h; rw [← h.2]; simp
        | false => rw [hv] at h; cases h
    · simp only [zDF h1, cond_false] at h
      have := zjZ b _ _ _ _ h
      simp; omega
theorem zjn {b : List UInt8} {n : Nat} (h : numLen b = some n) : 0 < n ∧ n ≤ b.length := by
  unfold numLen at h
  by_cases h1 : hd b = 45
  · simp only [zDT h1, cond_true] at h
    cases hb : numBad true (b.drop 1) with
    | true => rw [hb] at h; cases h
    | false =>
      rw [hb] at h; simp only [cond_false, Option.some.injEq] at h
      have := znO (b.drop 1)
      rw [List.length_drop] at this
      have : b ≠ [] := fun e => by rw [e] at h1; cases h1
      have := List.length_pos_iff.2 this
      omega
  · simp only [zDF h1, cond_false] at h
    cases hb : numBad false b with
    | true => rw [hb] at h; cases h
    | false =>
      rw [hb] at h; simp at h
      have := znO b
      have : decide (dg b < 1) = false := by
        unfold numBad at hb
        simp only [Bool.or_eq_false_iff] at hb
        exact hb.1.1.1.1.1.1
      have := zOF this
      omega
theorem zpo {b : List UInt8} (h : zaH (hd b) = true) : 0 < nm b := by
  cases b with
  | nil => simp [hd, zaH] at h
  | cons c r =>
    rw [zme]
    simp only [hd] at h
    unfold inName
    rw [h]; simp
theorem zn6 : ∀ (l : List (List UInt8)) (b : List UInt8), sgF l b ≤ b.length
  | [], b => Nat.zero_le _
  | p :: ps, b => by
    unfold sgF
    cases h : isPre p b with
    | true => exact ((zgX _ _).1 h).1
    | false => exact zn6 ps b
theorem znE {b t r : List UInt8} {k : Int} (h : oneS b = some (k, t, r)) : r.length < b.length := by
  unfold oneS at h
  simp only at h
  cases h1 : zaH (hd b) with
  | true =>
    rw [h1, cond_true] at h
    cases h2 : nmBad b with
    | true => rw [h2] at h; cases h
    | false =>
      rw [h2] at h
      simp only [cond_false, Option.some.injEq, Prod.mk.injEq] at h
      rw [← h.2.2, List.length_drop]
      have := zpo h1
      have := zkD b
      omega
  | false =>
    rw [h1, cond_false] at h
    cases h2 : isDigit (hd b) || (decide (hd b = 45) && isDigit (hd (b.drop 1))) with
    | true =>
      rw [h2, cond_true] at h
      cases h3 : numLen b with
      | none => rw [h3] at h; cases h
      | some n =>
        rw [h3] at h
        simp only [Option.some.injEq, Prod.mk.injEq] at h
        have := zjn h3
        rw [← h.2.2, List.length_drop]; omega
    | false =>
      rw [h2, cond_false] at h
      by_cases h3 : hd b = 39
      · rw [zDT h3, cond_true] at h
        cases h4 : hexBad (b.drop 1) with
        | true => rw [h4] at h; cases h
        | false =>
          rw [h4] at h
          simp only [cond_false, Option.some.injEq, Prod.mk.injEq] at h
          have : b ≠ [] := fun e => by rw [e] at h3; cases h3
          have := List.length_pos_iff.2 this
          rw [← h.2.2, List.length_drop, List.length_drop]; omega
      · rw [zDF h3, cond_false] at h
        by_cases h4 : hd b = 34
        · rw [zDT h4, cond_true] at h
          cases h5 : qd false (b.drop 1) [] with
          | none => rw [h5] at h; cases h
          | some q =>
            rw [h5] at h
            obtain ⟨t', r'⟩ := q
            simp only [Option.some.injEq, Prod.mk.injEq] at h
            have := zjZ _ _ _ _ _ h5
            rw [List.length_drop] at this
            rw [← h.2.2]; omega
        · rw [zDF h4, cond_false] at h
          by_cases h5 : 0 < sg b
          · rw [zDT h5, cond_true] at h
            simp only [Option.some.injEq, Prod.mk.injEq] at h
            have := zn6 sgs b
            have e : sgF sgs b = sg b := rfl
            rw [← h.2.2, List.length_drop]; omega
          · rw [zDF h5] at h; cases h
theorem zo9 (s : Str) (i : Int) (h0 : 0 ≤ i) (h1 : i < s.b.length) (hl : s.b.length ≤ 1000000) :
    T (fun (q : GTok × Int) => match oneS (s.b.drop i.toNat) with
      | none => q.2 < 0
      | some (k, t, r) => q = (⟨k, ⟨t⟩, i⟩, (s.b.length : Int) - (r.length : Int))) (zgd s i) := by
  unfold zgd
  refine T.get h0 h1 fun y hy => ?_
  have ed := dropc hy
  have hy0 : hd (s.b.drop i.toNat) = y := by rw [ed]; rfl
  have ed1 : (s.b.drop i.toNat).drop 1 = s.b.drop (i.toNat + 1) := by rw [List.drop_drop]
  have elen : (s.b.drop i.toNat).length = s.b.length - i.toNat := List.length_drop
  have etake : ∀ (n : Nat), (s.b.take (i + (n : Int)).toNat).drop i.toNat = (s.b.drop i.toNat).take n := fun n => by
    rw [seg]; congr 1; omega
  have erest : ∀ (n : Nat), n ≤ (s.b.drop i.toNat).length → i + (n : Int) = (s.b.length : Int) - (((s.b.drop i.toNat).drop n).length : Int) := fun n hn => by
    rw [List.length_drop, elen]; rw [elen] at hn; omega
  refine T.jp (ι := Int × GTok) (fun (q : Int × GTok) => match oneS (s.b.drop i.toNat) with
      | none => q.1 < 0
      | some (k, t, r) => (q.2, q.1) = (⟨k, ⟨t⟩, i⟩, (s.b.length : Int) - (r.length : Int))) (fun J h => ?_) fun q hq => T.some hq
  unfold oneS at h ⊢
  simp only [hy0] at h ⊢
  refine T.eq (ze0 y) (T.br (fun hle => ?_) fun hle => T.eq (zdy y) ?_)
  · rw [hle, cond_true] at h ⊢
    have hcl : zaH (hd (s.b.drop i.toNat)) = true := by rw [hy0]; exact hle
    refine T.eq (zov s i h0 h1 hl hcl) ?_
    cases hb : nmBad (s.b.drop i.toNat) with
    | true =>
      rw [hb, cond_true] at h
      simp only [cond_true] at h ⊢
      exact T.br (fun _ => T.some (by dsimp only; omega)) fun hn => by have := zOF hn; omega
    | false =>
      rw [hb, cond_false] at h
      simp only [cond_false] at h ⊢
      have hnl := zkD (s.b.drop i.toNat)
      rw [elen] at hnl
      refine T.br (fun hn => by have := zOT hn; omega) fun _ => T.asd (by omega) ?_
      rw [etake]
      refine T.jp (ι := GTok) (fun t => t = ⟨bif decide (y ≤ 90) then 1 else 2, ⟨(s.b.drop i.toNat).take (nm (s.b.drop i.toNat))⟩, i⟩) (fun J2 h2 => T.br (fun h3 => h2 _ (by rw [h3]; rfl)) fun h3 => h2 _ (by rw [h3]; rfl)) fun t ht => ?_
      subst ht
      refine T.eq (zop _) (T.br (fun h3 => h _ ?_) fun h3 => h _ ?_)
      · dsimp only at h3 ⊢; rw [h3, ← erest _ (zkD _)]; rfl
      · dsimp only at h3 ⊢; rw [h3, ← erest _ (zkD _)]; rfl
  · rw [hle, cond_false] at h ⊢
    refine T.jp (fun b => b = (isDigit y || (decide (y = 45) && isDigit (hd ((s.b.drop i.toNat).drop 1))))) (fun J2 h2 => T.br (fun h3 => h2 _ (by rw [h3]; rfl)) fun h3 => ?_) fun b hb => ?_
    · refine T.jp (fun b => b = (decide (y = 45) && isDigit (hd ((s.b.drop i.toNat).drop 1)))) (fun J3 h4 => T.br (fun h5 => T.ck (by omega) (T.eq (zih s (i + 1) (by omega)) (T.eq (zdy _) (h4 _ ?_)))) fun h5 => h4 _ (by rw [h5]; rfl)) fun b hb => h2 _ (by rw [h3, hb]; rfl)
      rw [h5, ed1, show (i + 1).toNat = i.toNat + 1 by omega]; rfl
    rw [← hb] at h ⊢
    refine T.br (fun h3 => T.eq (zmo s i h0 h1 hl) ?_) fun h3 => ?_
    · rw [h3, cond_true] at h ⊢
      cases hn : numLen (s.b.drop i.toNat) with
      | none =>
        simp only [hn] at h ⊢
        exact T.br (fun _ => T.some (by dsimp only; omega)) fun hn => by have := zOF hn; omega
      | some n =>
        simp only [hn] at h ⊢
        have hbd := zjn hn
        have hbd2 := hbd.2
        rw [elen] at hbd2
        refine T.br (fun hn => by have := zOT hn; omega) fun _ => T.asd (by omega) (h _ ?_)
        rw [etake, ← erest n hbd.2]
    · rw [h3, cond_false] at h ⊢
      refine T.br (fun h4 => T.eq (zpr s i h0 h1 hl) (h _ ?_)) fun h4 => ?_
      · rw [h4, cond_true, ed1]
        cases hb : hexBad (s.b.drop (i.toNat + 1)) with
        | true => simp only [cond_true]; omega
        | false =>
          simp only [cond_false]
          have h5 : hx (s.b.drop (i.toNat + 1)) + 1 < (s.b.drop (i.toNat + 1)).length := by
            unfold hexBad at hb
            have := (Bool.or_eq_false_iff.1 hb).2
            have h72 : hd ((s.b.drop (i.toNat + 1)).drop (hx (s.b.drop (i.toNat + 1)) + 1)) = 72 := by simpa using this
            exact znB (by rw [h72]; decide)
          rw [List.length_drop] at h5
          rw [List.length_drop, List.length_drop]
          have e : i + 1 + (hx (s.b.drop (i.toNat + 1)) : Int) + 2 = (s.b.length : Int) - ((s.b.length - (i.toNat + 1) - (hx (s.b.drop (i.toNat + 1)) + 2) : Nat) : Int) := by omega
          rw [e]
      · rw [h4, cond_false] at h ⊢
        refine T.br (fun h5 => T.eq (zmD s i h0 h1 hl) (h _ ?_)) fun h5 => ?_
        · rw [h5, cond_true, ed1]
          cases hq : qd false (s.b.drop (i.toNat + 1)) [] with
          | none => simp only; omega
          | some q => rfl
        · rw [h5, cond_false] at h ⊢
          refine T.eq (zoy s i h0 h1 hl) (T.br (fun h6 => ?_) fun h6 => h _ ?_)
          · have h6 := zOT h6
            have hsl := zn6 sgs (s.b.drop i.toNat)
            have esg : sgF sgs (s.b.drop i.toNat) = sg (s.b.drop i.toNat) := rfl
            have hpos : 0 < sg (s.b.drop i.toNat) := by omega
            have hsl2 := hsl
            rw [elen] at hsl2
            refine T.ck (by omega) (T.asd (by omega) (T.ck (by omega) (h _ ?_)))
            rw [zDT hpos, cond_true]
            dsimp only
            rw [etake, ← erest (sg (s.b.drop i.toNat)) hsl]
          · have h6 := zOF h6
            rw [zDF (show ¬ 0 < sg (s.b.drop i.toNat) by omega)]
            simp only [cond_false]; omega

def toksF (n : Nat) : Nat → List UInt8 → List GTok → List GTok × Int × Int
  | 0, _, _ => ([], 0, 0)
  | f + 1, b, acc => match wh .out b with
    | [] => (acc ++ [⟨0, ⟨[]⟩, (n : Int)⟩], 0, 0)
    | c :: r => match oneS (c :: r) with
      | none => ([], (n : Int) - ((c :: r).length : Int), 6)
      | some (k, t, r') => toksF n f r' (acc ++ [⟨k, ⟨t⟩, (n : Int) - ((c :: r).length : Int)⟩])
theorem zlp (n f : Nat) (b : List UInt8) (acc : List GTok) : toksF n (f + 1) b acc = match wh .out b with
    | [] => (acc ++ [⟨0, ⟨[]⟩, (n : Int)⟩], 0, 0)
    | c :: r => match oneS (c :: r) with
      | none => ([], (n : Int) - ((c :: r).length : Int), 6)
      | some (k, t, r') => toksF n f r' (acc ++ [⟨k, ⟨t⟩, (n : Int) - ((c :: r).length : Int)⟩]) := rfl
def toks (b : List UInt8) : List GTok × Int × Int := bif decide (8000 < b.length) then ([], 0, 5) else toksF b.length (b.length + 1) b []
theorem zgu : ∀ (b : List UInt8) (st : Wst), (wh st b).length ≤ b.length
  | [], st => by cases st <;> simp [wh]
  | c :: r, .out => by
    have h1 := zgu r .out
    have h2 := zgu r .start
    simp only [wh]
    cases isWh c <;> simp only [cond_true, cond_false]
    · cases decide (c = 45) && decide (hd r = 45) <;> simp only [cond_true, cond_false, List.length_cons] <;> omega
    · simp only [List.length_cons]; omega
  | c :: r, .start => by have := zgu r .ins; simp only [wh, List.length_cons]; omega
  | c :: r, .ins => by
    have h1 := zgu r .out
    have h2 := zgu r .fin
    have h3 := zgu r .ins
    simp only [wh, List.length_cons]
    cases decide (c = 10) <;> simp only [cond_true, cond_false]
    · cases decide (c = 45) && decide (hd r = 45) <;> simp only [cond_true, cond_false] <;> omega
    · omega
  | c :: r, .fin => by have := zgu r .out; simp only [wh, List.length_cons]; omega
theorem zgA : ∀ (b : List UInt8) (st : Wst), ∃ n, wh st b = b.drop n
  | [], st => ⟨0, by cases st <;> simp [wh]⟩
  | c :: r, .out => by
    obtain ⟨n1, h1⟩ := zgA r .out
    obtain ⟨n2, h2⟩ := zgA r .start
    simp only [wh]
    cases isWh c <;> simp only [cond_true, cond_false]
    · cases decide (c = 45) && decide (hd r = 45) <;> simp only [cond_true, cond_false]
      · exact ⟨0, rfl⟩
      · exact ⟨n2 + 1, h2⟩
    · exact ⟨n1 + 1, h1⟩
  | c :: r, .start => by obtain ⟨n, h⟩ := zgA r .ins; exact ⟨n + 1, h⟩
  | c :: r, .ins => by
    obtain ⟨n1, h1⟩ := zgA r .out
    obtain ⟨n2, h2⟩ := zgA r .fin
    obtain ⟨n3, h3⟩ := zgA r .ins
    simp only [wh]
    cases decide (c = 10) <;> simp only [cond_true, cond_false]
    · cases decide (c = 45) && decide (hd r = 45) <;> simp only [cond_true, cond_false]
      · exact ⟨n3 + 1, h3⟩
      · exact ⟨n2 + 1, h2⟩
    · exact ⟨n1 + 1, h1⟩
  | c :: r, .fin => by obtain ⟨n, h⟩ := zgA r .out; exact ⟨n + 1, h⟩
theorem zkl : ∀ (b : List UInt8) (f : Bool) (acc t r : List UInt8), qd f b acc = some (t, r) → ∃ n, r = b.drop n
  | [], f, acc, t, r, h => by cases f <;> simp [qd] at h
  | c :: b, true, acc, t, r, h => by
    simp only [qd] at h
    obtain ⟨n, e⟩ := zkl b _ _ _ _ h
    exact ⟨n + 1, e⟩
  | c :: b, false, acc, t, r, h => by
    simp only [qd] at h
    by_cases h1 : c = 34
    · simp only [zDT h1, cond_true] at h
      by_cases h2 : hd b = 34
      · simp only [zDT h2, cond_true] at h
        obtain ⟨n, e⟩ := zkl b _ _ _ _ h
        exact ⟨n + 1, e⟩
      · simp only [zDF h2, cond_false] at h
        cases hv : Lib.validD acc with
        | true => rw [hv] at h; simp at h; exact ⟨1, h.2.symm⟩
        | false => rw [hv] at h; cases h
    · simp only [zDF h1, cond_false] at h
      obtain ⟨n, e⟩ := zkl b _ _ _ _ h
      exact ⟨n + 1, e⟩
theorem znU {b t r : List UInt8} {k : Int} (h : oneS b = some (k, t, r)) : ∃ n, r = b.drop n := by
  unfold oneS at h
  simp only at h
  cases h1 : zaH (hd b) with
  | true =>
    rw [h1, cond_true] at h
    cases h2 : nmBad b with
    | true => rw [h2] at h; cases h
    | false =>
      rw [h2] at h
      simp only [cond_false, Option.some.injEq, Prod.mk.injEq] at h
      exact ⟨_, h.2.2.symm⟩
  | false =>
    rw [h1, cond_false] at h
    cases h2 : isDigit (hd b) || (decide (hd b = 45) && isDigit (hd (b.drop 1))) with
    | true =>
      rw [h2, cond_true] at h
      cases h3 : numLen b with
      | none => rw [h3] at h; cases h
      | some n =>
        rw [h3] at h
        simp only [Option.some.injEq, Prod.mk.injEq] at h
        exact ⟨_, h.2.2.symm⟩
    | false =>
      rw [h2, cond_false] at h
      by_cases h3 : hd b = 39
      · rw [zDT h3, cond_true] at h
        cases h4 : hexBad (b.drop 1) with
        | true => rw [h4] at h; cases h
        | false =>
          rw [h4] at h
          simp only [cond_false, Option.some.injEq, Prod.mk.injEq, List.drop_drop] at h
          exact ⟨_, h.2.2.symm⟩
      · rw [zDF h3, cond_false] at h
        by_cases h4 : hd b = 34
        · rw [zDT h4, cond_true] at h
          cases h5 : qd false (b.drop 1) [] with
          | none => rw [h5] at h; cases h
          | some q =>
            rw [h5] at h
            obtain ⟨t', r'⟩ := q
            simp only [Option.some.injEq, Prod.mk.injEq] at h
            obtain ⟨n, e⟩ := zkl _ _ _ _ _ h5
            rw [List.drop_drop] at e
            exact ⟨_, h.2.2.symm.trans e⟩
        · rw [zDF h4, cond_false] at h
          by_cases h5 : 0 < sg b
          · rw [zDT h5, cond_true] at h
            simp only [Option.some.injEq, Prod.mk.injEq] at h
            exact ⟨_, h.2.2.symm⟩
          · rw [zDF h5] at h; cases h
theorem zld {b r : List UInt8} {n : Nat} (h : r = b.drop n) : b.drop (b.length - r.length) = r := by
  subst h
  rw [List.length_drop]
  rcases Nat.lt_or_ge b.length n with h2 | h2
  · rw [List.drop_eq_nil_of_le (show b.length ≤ n by omega), List.drop_eq_nil_of_le (by omega)]
  · congr 1; omega

theorem zmX (s : Str) : zdb s = some (toks s.b) := by
  refine tx ?_
  unfold zdb toks
  refine T.br (fun h => T.some ?_) fun h => ?_
  · have h := zOT h
    rw [zDT (show 8000 < s.b.length by omega)]; rfl
  have hl := zOF h
  rw [zDF (show ¬ 8000 < s.b.length by omega), cond_false]
  refine T.lp (ι := List GTok × Int) (fun (q : List GTok × Int) => 0 ≤ q.2 ∧ q.2 ≤ (s.b.length : Int) ∧ (q.1.length : Int) ≤ q.2 ∧ ∃ f, (s.b.drop q.2.toNat).length < f ∧ toksF s.b.length (s.b.length + 1) s.b [] = toksF s.b.length f (s.b.drop q.2.toNat) q.1) (fun (q : List GTok × Int) => ((s.b.length : Int) - q.2).toNat) ⟨Int.le_refl _, by dsimp only; omega, by simp, s.b.length + 1, by simp, rfl⟩ (by dsimp only; omega) fun L q hq hL => ?_
  obtain ⟨l, k⟩ := q
  obtain ⟨h1, h2, h3, f, h4, h5⟩ := hq
  simp only at h1 h2 h3 h4 h5 ⊢
  rw [h5] at hL ⊢
  cases f with
  | zero => omega
  | succ f =>
    have hwl := zgu (s.b.drop k.toNat) .out
    rw [List.length_drop] at hwl h4
    obtain ⟨nw, hw⟩ := zgA (s.b.drop k.toNat) .out
    rw [List.drop_drop] at hw
    have hsw := zld hw
    refine T.eq (zoc s k h1 h2 (by omega)) ?_
    rw [zlp] at hL ⊢
    cases hwh : wh .out (s.b.drop k.toNat) with
    | nil =>
      simp only [hwh] at hL ⊢
      refine T.br (fun _ => T.abl (by simp only [List.length_cons, List.length_nil]; omega) (T.some rfl)) fun h6 => ?_
      have := zOF h6
      simp at this
    | cons c r =>
      simp only [hwh] at hL ⊢ 
      rw [hwh] at hwl hsw
      have hcl : 0 < (c :: r).length := by simp
      refine T.br (fun h6 => by have := zOT h6; omega) fun _ => ?_
      have hi : ((s.b.length : Int) - ((c :: r).length : Int)).toNat = s.b.length - (c :: r).length := by omega
      refine T.cal (zo9 s ((s.b.length : Int) - ((c :: r).length : Int)) (by omega) (by omega) (by omega)) fun q _ hq => ?_
      rw [hi, hsw] at hq
      cases ho : oneS (c :: r) with
      | none =>
        rw [ho] at hq
        simp only [ho] at hL ⊢
        simp only at hq
        exact T.br (fun _ => T.some rfl) fun h7 => by have := zOF h7; omega
      | some p =>
        obtain ⟨kd, t, r'⟩ := p
        rw [ho] at hq
        simp only [ho] at hL ⊢
        simp only at hq
        subst hq
        have hol := znE ho
        obtain ⟨no, hso⟩ := znU ho
        have hso2 : r' = s.b.drop (s.b.length - (c :: r).length + no) := by rw [hso, ← List.drop_drop, hsw]
        have hsd := zld hso2
        refine T.br (fun h7 => by have := zOT h7; dsimp only at this; omega) fun _ => T.abl (by simp only [List.length_cons, List.length_nil]; omega) (hL _ ⟨by dsimp only; omega, by dsimp only; omega, ?_, f, ?_, ?_⟩ (by dsimp only; omega))
        · dsimp only; rw [List.length_append, List.length_singleton]; omega
        · dsimp only
          rw [show ((s.b.length : Int) - (r'.length : Int)).toNat = s.b.length - r'.length by omega, hsd]
          omega
        · dsimp only
          rw [show ((s.b.length : Int) - (r'.length : Int)).toNat = s.b.length - r'.length by omega, hsd]
end Go.Proofs.Q


namespace Go.Proofs.Q
open Go.Sy
set_option linter.unusedVariables false

inductive KT : List UInt8 → List (Int × List UInt8) → Prop
  | fin {b : List UInt8} : wh .out b = [] → KT b []
  | tok {b r r' t : List UInt8} {c : UInt8} {k : Int} {ks : List (Int × List UInt8)} : wh .out b = c :: r → oneS (c :: r) = some (k, t, r') → KT r' ks → KT b ((k, t) :: ks)
def kt (t : GTok) : Int × List UInt8 := (t.kind, t.text.b)
/-! ### White -/
theorem KT.sp {b : List UInt8} {ks : List (Int × List UInt8)} (h : KT b ks) : KT (32 :: b) ks := by
  cases h with
  | fin h => exact .fin h
  | tok h1 h2 h3 => exact .tok h1 h2 h3
theorem zjY {c : UInt8} {r : List UInt8} (h1 : isWh c = false) (h2 : c ≠ 45 ∨ hd r ≠ 45) : wh .out (c :: r) = c :: r := by
  have e : (decide (c = 45) && decide (hd r = 45)) = false := by
    rcases h2 with h | h
    · rw [zDF h]; rfl
    · rw [zDF h, Bool.and_false]
  show (bif isWh c then wh .out r else bif decide (c = 45) && decide (hd r = 45) then wh .start r else c :: r) = _
  rw [h1, e]; rfl
theorem zpc {w x : List UInt8} : hd (w ++ x) = hd (w ++ [hd x]) := by
  cases w with
  | nil => rfl
  | cons c w => rfl

/-! ### Names -/
def nmAll : List UInt8 → UInt8 → Bool
  | [], _ => true
  | c :: w, d => inName c (w ++ [d]) && nmAll w d
def stopN : List UInt8 → Bool
  | [] => true
  | d :: r => !inName d r
theorem zmP {c : UInt8} {r s : List UInt8} (h : hd r = hd s) : inName c r = inName c s := by unfold inName; rw [h]
theorem znL {x : List UInt8} (hs : stopN x = true) : ∀ {w : List UInt8}, nmAll w (hd x) = true → nm (w ++ x) = w.length
  | [], _ => by
    cases x with
    | nil => rfl
    | cons d r =>
      have : inName d r = false := by
        have hs2 : (!inName d r) = true := hs
        cases h : inName d r with
        | true => rw [h] at hs2; cases hs2
        | false => rfl
      show (bif inName d r then nm r + 1 else 0) = 0
      rw [this]; rfl
  | c :: w, h => by
    unfold nmAll at h
    rw [Bool.and_eq_true] at h
    show (bif inName c (w ++ x) then nm (w ++ x) + 1 else 0) = w.length + 1
    rw [zmP zpc, h.1, znL hs h.2]; rfl
def kindN (w : List UInt8) : Int := bif isWord w then 5 else bif decide (hd w ≤ 90) then 1 else 2
theorem zgV {w x : List UInt8} (h : w ≠ []) : hd (w ++ x) = hd w := by
  cases w with
  | nil => exact absurd rfl h
  | cons c w => rfl
theorem zjS {w : List UInt8} (h : zaH (hd w) = true) : w ≠ [] := fun e => by subst e; cases h
theorem zne {w x : List UInt8} (h0 : zaH (hd w) = true) (h1 : nmAll w (hd x) = true) (h2 : stopN x = true) (h3 : w.getLast? ≠ some 45) (h4 : w.length ≤ 60) : oneS (w ++ x) = some (kindN w, w, x) := by
  have hn := znL h2 h1
  have hb : nmBad (w ++ x) = false := by
    unfold nmBad
    rw [hn, List.take_left, zDF h3, zDF (by omega)]; rfl
  unfold oneS
  simp only
  rw [zgV (zjS h0), h0, hb, hn, List.take_left, List.drop_left]
  rfl
theorem zm1 {c : UInt8} (h : zaH c = true) : isWh c = false ∧ c ≠ 45 := by
  unfold zaH at h
  unfold isWh
  simp only [Bool.or_eq_true, Bool.and_eq_true, decide_eq_true_eq, UInt8.le_iff_toNat_le] at h
  have e : ∀ n : UInt8, n.toNat ≤ 45 → c ≠ n := fun n hn e => by
    subst e
    have e1 : (97 : UInt8).toNat = 97 := rfl
    have e2 : (65 : UInt8).toNat = 65 := rfl
    omega
  rw [zDF (e 32 (by decide)), zDF (e 9 (by decide)), zDF (e 10 (by decide)), zDF (e 13 (by decide))]
  exact ⟨rfl, e 45 (by decide)⟩
theorem KT.name {w x : List UInt8} {ks : List (Int × List UInt8)} (h0 : zaH (hd w) = true) (h1 : nmAll w (hd x) = true) (h2 : stopN x = true) (h3 : w.getLast? ≠ some 45) (h4 : w.length ≤ 60) (h : KT x ks) : KT (w ++ x) ((kindN w, w) :: ks) := by
  cases hw : w with
  | nil => rw [hw] at h0; cases h0
  | cons c r =>
    have hc : zaH c = true := by rw [hw] at h0; exact h0
    obtain ⟨e1, e2⟩ := zm1 hc
    have := zne h0 h1 h2 h3 h4
    rw [hw] at this
    exact .tok (zjY e1 (.inl e2)) this h

/-! ### Numbers -/
def digs2 (d : List UInt8) : Bool := d.all isDigit
theorem zjD {x : List UInt8} (hs : isDigit (hd x) = false) : ∀ {d : List UInt8}, digs2 d = true → dg (d ++ x) = d.length
  | [], _ => by
    cases x with
    | nil => rfl
    | cons c r =>
      show (bif isDigit c then dg r + 1 else 0) = 0
      have : isDigit c = false := hs
      rw [this]; rfl
  | c :: d, h => by
    unfold digs2 at h
    rw [List.all_cons, Bool.and_eq_true] at h
    show (bif isDigit c then dg (d ++ x) + 1 else 0) = d.length + 1
    rw [h.1, zjD hs h.2]; rfl
def numOk (m : Bool) (d : List UInt8) : Bool := digs2 d && decide (1 ≤ d.length) && decide (d.length ≤ 19) && (decide (d.length ≤ 1) || !decide (hd d = 48)) && (!m || !decide (hd d = 48)) && decide ((uval d).toNat ≤ (if m then 9223372036854775808 else 9223372036854775807))
theorem ziW {m : Bool} {d x : List UInt8} (h : numOk m d = true) (h1 : isDigit (hd x) = false) (h2 : zaH (hd x) = false) : numBad m (d ++ x) = false := by
  unfold numOk at h
  simp only [Bool.and_eq_true, decide_eq_true_eq] at h
  obtain ⟨⟨⟨⟨⟨h3, h4⟩, h5⟩, h6⟩, h7⟩, h8⟩ := h
  have hne : d ≠ [] := fun e => by subst e; simp at h4
  have hn := zjD h1 h3
  unfold numBad
  rw [hn, zgV hne, List.drop_left, List.take_left, h2, zDF (show ¬ d.length < 1 by omega), zDF (show ¬ 19 < d.length by omega)]
  have e1 : (decide (1 < d.length) && decide (hd d = 48)) = false := by
    rw [Bool.or_eq_true] at h6
    rcases h6 with h | h
    · rw [zDF (by have := zOT h; omega)]; rfl
    · have : decide (hd d = 48) = false := by simpa using h
      rw [this, Bool.and_false]
  have e2 : (m && decide (hd d = 48)) = false := by
    rw [Bool.or_eq_true] at h7
    rcases h7 with h | h
    · have : m = false := by simpa using h
      rw [this]; rfl
    · have : decide (hd d = 48) = false := by simpa using h
      rw [this, Bool.and_false]
  have e3 : decide ((9223372036854775808 : UInt64) < uval d) = false := by
    refine zDF fun h => ?_
    have h := UInt64.lt_iff_toNat_lt.1 h
    have e : (9223372036854775808 : UInt64).toNat = 9223372036854775808 := rfl
    cases m with
    | true => rw [if_pos rfl] at h8; omega
    | false => rw [if_neg (by decide)] at h8; omega
  have e4 : (!m && decide (uval d = 9223372036854775808)) = false := by
    cases m with
    | true => rfl
    | false =>
      rw [if_neg (by decide)] at h8
      have : ¬ uval d = 9223372036854775808 := fun e => by
        rw [e] at h8
        have e : (9223372036854775808 : UInt64).toNat = 9223372036854775808 := rfl
        omega
      rw [zDF this]; rfl
  rw [e1, e2, e3, e4]; rfl
theorem zhZ {c : UInt8} (h : isDigit c = true) : zaH c = false ∧ isWh c = false ∧ c ≠ 45 := by
  unfold isDigit at h
  simp only [Bool.and_eq_true, decide_eq_true_eq, UInt8.le_iff_toNat_le] at h
  have a1 : (48 : UInt8).toNat = 48 := rfl
  have a2 : (57 : UInt8).toNat = 57 := rfl
  have e : ∀ n : UInt8, n.toNat ≤ 45 → c ≠ n := fun n hn e => by subst e; omega
  refine ⟨?_, ?_, e 45 (by decide)⟩
  · unfold zaH
    have b1 : (97 : UInt8).toNat = 97 := rfl
    have b2 : (65 : UInt8).toNat = 65 := rfl
    rw [zDF (show ¬ (97 : UInt8) ≤ c from fun h => by have := UInt8.le_iff_toNat_le.1 h; omega), zDF (show ¬ (65 : UInt8) ≤ c from fun h => by have := UInt8.le_iff_toNat_le.1 h; omega)]; rfl
  · unfold isWh
    rw [zDF (e 32 (by decide)), zDF (e 9 (by decide)), zDF (e 10 (by decide)), zDF (e 13 (by decide))]; rfl
theorem zfU {m : Bool} {d : List UInt8} (h : numOk m d = true) : d ≠ [] := fun e => by subst e; cases m <;> cases h
theorem zhq {m : Bool} {d : List UInt8} (h : numOk m d = true) : isDigit (hd d) = true := by
  cases d with
  | nil => exact absurd rfl (zfU h)
  | cons c r =>
    unfold numOk digs2 at h
    simp only [Bool.and_eq_true, List.all_cons] at h
    exact h.1.1.1.1.1.1
theorem zoU {d x : List UInt8} (h : numOk false d = true) (h1 : isDigit (hd x) = false) (h2 : zaH (hd x) = false) : oneS (d ++ x) = some (3, d, x) := by
  have hc := zhq h
  obtain ⟨e1, e2, e3⟩ := zhZ hc
  have hn : numLen (d ++ x) = some d.length := by
    unfold numLen
    have hd2 : digs2 d = true := by
      unfold numOk at h
      simp only [Bool.and_eq_true] at h
      exact h.1.1.1.1.1
    rw [zgV (zfU h), zDF e3, cond_false, ziW h h1 h2, cond_false, zjD h1 hd2]
  unfold oneS
  simp only
  rw [zgV (zfU h), e1, hc, Bool.true_or, cond_true, cond_false, hn]
  simp only [List.take_left, List.drop_left]
theorem zor {d x : List UInt8} (h : numOk true d = true) (h1 : isDigit (hd x) = false) (h2 : zaH (hd x) = false) : oneS (45 :: (d ++ x)) = some (3, 45 :: d, x) := by
  have hc := zhq h
  have hn : numLen (45 :: (d ++ x)) = some (d.length + 1) := by
    unfold numLen
    have hd2 : digs2 d = true := by
      unfold numOk at h
      simp only [Bool.and_eq_true] at h
      exact h.1.1.1.1.1
    show (bif numBad true (d ++ x) then none else some (dg (d ++ x) + 1)) = _
    rw [ziW h h1 h2, cond_false, zjD h1 hd2]
  unfold oneS
  have e : isDigit (hd ((45 :: (d ++ x)).drop 1)) = true := by
    show isDigit (hd (d ++ x)) = true
    rw [zgV (zfU h)]; exact hc
  simp only
  rw [show zaH (hd (45 :: (d ++ x))) = false from rfl, show isDigit (hd (45 :: (d ++ x))) = false from rfl, show decide (hd (45 :: (d ++ x)) = 45) = true from rfl, e, hn]
  show some (3, (45 :: (d ++ x)).take (d.length + 1), (45 :: (d ++ x)).drop (d.length + 1)) = _
  rw [List.take_succ_cons, List.drop_succ_cons, List.take_left, List.drop_left]
theorem KT.num {d x : List UInt8} {ks : List (Int × List UInt8)} (h : numOk false d = true) (h1 : isDigit (hd x) = false) (h2 : zaH (hd x) = false) (hk : KT x ks) : KT (d ++ x) ((3, d) :: ks) := by
  have := zoU h h1 h2
  have hc := zhq h
  cases hw : d with
  | nil => exact absurd hw (zfU h)
  | cons c r =>
    rw [hw] at this hc
    obtain ⟨_, e2, e3⟩ := zhZ hc
    exact .tok (zjY e2 (.inl e3)) this hk
theorem KT.neg {d x : List UInt8} {ks : List (Int × List UInt8)} (h : numOk true d = true) (h1 : isDigit (hd x) = false) (h2 : zaH (hd x) = false) (hk : KT x ks) : KT (45 :: (d ++ x)) ((3, 45 :: d) :: ks) := by
  have hc := zhq h
  refine .tok (zjY rfl (.inr ?_)) (zor h h1 h2) hk
  rw [zgV (zfU h)]
  exact (zhZ hc).2.2

/-! ### Signs -/
/-- May that stand behind a sign? -/
def sgN (s : List UInt8) (d : UInt8) : Bool := !(decide (s = [91]) && decide (d = 91)) && !(decide (s = [93]) && decide (d = 93)) && !(decide (s = [46, 46]) && decide (d = 46)) && !(decide (s = [58]) && decide (d = 58))
theorem zpk {s : List UInt8} (hs : s ∈ sgs) {x : List UInt8} (h : sgN s (hd x) = true) : sg (s ++ x) = s.length := by
  have n1 : ∀ (p c : UInt8) (r : List UInt8), hd r ≠ c → isPre [p, c] (p :: r) = false := fun p c r h => by
    cases r with
    | nil => show (bif decide (p = p) then false else false) = false; cases decide (p = p) <;> rfl
    | cons d r =>
      have : ¬ c = d := fun e => h e.symm
      show (bif decide (p = p) then (bif decide (c = d) then true else false) else false) = false
      rw [zDF this]; cases decide (p = p) <;> rfl
  have n2 : ∀ (p q c : UInt8) (r : List UInt8), hd r ≠ c → isPre [p, q, c] (p :: q :: r) = false := fun p q c r h => by
    cases r with
    | nil => show (bif decide (p = p) then (bif decide (q = q) then false else false) else false) = false; cases decide (p = p) <;> cases decide (q = q) <;> rfl
    | cons d r =>
      have : ¬ c = d := fun e => h e.symm
      show (bif decide (p = p) then (bif decide (q = q) then (bif decide (c = d) then true else false) else false) else false) = false
      rw [zDF this]; cases decide (p = p) <;> cases decide (q = q) <;> rfl
  have n3 : ∀ (p q c : UInt8) (r : List UInt8), hd r ≠ q → isPre [p, q, c] (p :: r) = false := fun p q c r h => by
    cases r with
    | nil => show (bif decide (p = p) then false else false) = false; cases decide (p = p) <;> rfl
    | cons d r =>
      have : ¬ q = d := fun e => h e.symm
      show (bif decide (p = p) then (bif decide (q = d) then isPre [c] r else false) else false) = false
      rw [zDF this]; cases decide (p = p) <;> rfl
  unfold sgN at h
  simp only [Bool.and_eq_true] at h
  obtain ⟨⟨⟨h1, h2⟩, h3⟩, h4⟩ := h
  have sp : ∀ {s' : List UInt8} {d : UInt8}, s = s' → (!(decide (s = s') && decide (hd x = d))) = true → hd x ≠ d := fun {s' d} e h hd => by
    rw [zDT e, zDT hd] at h; cases h
  simp only [sgs, List.mem_cons, List.not_mem_nil, or_false] at hs
  rcases hs with e | e | e | e | e | e | e | e | e | e | e | e | e
  · subst e; rfl
  · subst e; rfl
  · have := sp e h3
    subst e
    show (bif isPre [46, 46, 46] (46 :: 46 :: x) then 3 else 2) = 2
    rw [n2 _ _ _ _ this]; rfl
  · subst e; rfl
  · subst e; rfl
  · subst e; rfl
  · subst e; rfl
  · have := sp e h1
    subst e
    show (bif isPre [91, 91] (91 :: x) then 2 else 1) = 1
    rw [n1 _ _ _ this]; rfl
  · have := sp e h2
    subst e
    show (bif isPre [93, 93] (93 :: x) then 2 else 1) = 1
    rw [n1 _ _ _ this]; rfl
  · subst e; rfl
  · subst e; rfl
  · subst e; rfl
  · have := sp e h4
    subst e
    show (bif isPre [58, 58, 61] (58 :: x) then 3 else 1) = 1
    rw [n3 _ _ _ _ this]; rfl
theorem znR {s : List UInt8} (hs : s ∈ sgs) {x : List UInt8} (h : sgN s (hd x) = true) : oneS (s ++ x) = some (6, s, x) ∧ wh .out (s ++ x) = s ++ x := by
  have hg := zpk hs h
  have hl : 0 < s.length := by
    simp only [sgs, List.mem_cons, List.not_mem_nil, or_false] at hs
    rcases hs with e | e | e | e | e | e | e | e | e | e | e | e | e <;> subst e <;> decide
  have key : (bif decide (0 < sg (s ++ x)) then some ((6 : Int), (s ++ x).take (sg (s ++ x)), (s ++ x).drop (sg (s ++ x))) else none) = some (6, s, x) := by
    rw [hg, zDT hl, cond_true, List.take_left, List.drop_left]
  simp only [sgs, List.mem_cons, List.not_mem_nil, or_false] at hs
  rcases hs with e | e | e | e | e | e | e | e | e | e | e | e | e <;> subst e <;> exact ⟨key, rfl⟩
theorem KT.sign {s : List UInt8} (hs : s ∈ sgs) {x : List UInt8} {ks : List (Int × List UInt8)} (h : sgN s (hd x) = true) (hk : KT x ks) : KT (s ++ x) ((6, s) :: ks) := by
  obtain ⟨h1, h2⟩ := znR hs h
  cases hw : s ++ x with
  | nil => rw [hw] at h1; cases h1
  | cons c r =>
    rw [hw] at h1 h2
    exact .tok h2 h1 hk

def esc : List UInt8 → List UInt8
  | [] => []
  | c :: s => if c = 34 then 34 :: 34 :: esc s else c :: esc s
theorem zlx {x : List UInt8} (hx : hd x ≠ 34) : ∀ (s acc : List UInt8), qd false (esc s ++ 34 :: x) acc = bif Lib.validD (acc ++ s) then some (acc ++ s, x) else none
  | [], acc => by
    show (bif decide ((34 : UInt8) = 34) then bif decide (hd x = 34) then qd true x acc else bif Lib.validD acc then some (acc, x) else none else _) = _
    rw [zDF hx, List.append_nil]; rfl
  | c :: s, acc => by
    by_cases hc : c = 34
    · subst hc
      have := zlx hx s (acc ++ [34])
      rw [List.append_assoc] at this
      exact this
    · have := zlx hx s (acc ++ [c])
      rw [List.append_assoc] at this
      unfold esc
      rw [if_neg hc]
      show (bif decide (c = 34) then _ else qd false (esc s ++ 34 :: x) (acc ++ [c])) = _
      rw [zDF hc]
      exact this
theorem zoS {s x : List UInt8} (hx : hd x ≠ 34) (hv : Lib.validD s = true) : oneS (34 :: (esc s ++ 34 :: x)) = some (7, s, x) := by
  have := zlx hx s []
  rw [List.nil_append, hv, cond_true] at this
  show (match qd false (esc s ++ 34 :: x) [] with
    | none => none
    | some (t, r) => some ((7 : Int), t, r)) = _
  rw [this]
theorem KT.str {s x : List UInt8} {ks : List (Int × List UInt8)} (hx : hd x ≠ 34) (hv : Lib.validD s = true) (hk : KT x ks) : KT (34 :: (esc s ++ 34 :: x)) ((7, s) :: ks) :=
  .tok (zjY rfl (.inl (by decide))) (zoS hx hv) hk
end Go.Proofs.Q


namespace Go.Proofs.Q
open Go.Sy
set_option linter.unusedVariables false

abbrev KS := List (Int × List UInt8)
structure Sg (L : List GTok) (a : Int) (ks : KS) : Prop where
  a0 : 0 ≤ a
  len : L.length ≤ 9000
  dr : (L.drop a.toNat).map kt = ks ++ [(0, [])]
theorem Sg.get {L a k ks} (h : Sg L a (k :: ks)) : ∃ t, L[a.toNat]? = some t ∧ kt t = k := by
  have h1 := h.dr
  cases hd : L.drop a.toNat with
  | nil => rw [hd] at h1; cases h1
  | cons t r =>
    rw [hd] at h1
    have e : L[a.toNat]? = some t := by
      have := List.getElem?_drop (xs := L) (i := a.toNat) (j := 0)
      rw [hd] at this
      simpa using this.symm
    exact ⟨t, e, (List.cons.inj h1).1⟩
theorem Sg.size {L a ks} (h : Sg L a ks) : a.toNat + ks.length + 1 = L.length := by
  have h1 := congrArg List.length h.dr
  simp only [List.length_map, List.length_drop, List.length_append, List.length_singleton] at h1
  omega
theorem Sg.tl {L a k ks} (h : Sg L a (k :: ks)) : Sg L (a + 1) ks := by
  refine ⟨by have := h.a0; omega, h.len, ?_⟩
  have h1 := h.dr
  have e : (a + 1).toNat = a.toNat + 1 := by have := h.a0; omega
  rw [e, ← List.drop_drop, List.map_drop, h1]; rfl
theorem Sg.app {L a} : ∀ {xs ks : KS}, Sg L a (xs ++ ks) → Sg L (a + xs.length) ks := by
  intro xs
  induction xs generalizing a with
  | nil => intro ks h; simpa using h
  | cons x xs ih =>
    intro ks h
    have := ih (ks := ks) (Sg.tl (k := x) h)
    rw [List.length_cons]
    rw [show a + ((xs.length + 1 : Nat) : Int) = a + 1 + (xs.length : Int) by omega]; exact this
theorem zci {α : Type} {L : List α} {a : Int} {t : α} (h0 : 0 ≤ a) (h : L[a.toNat]? = some t) : getI L a = some t := by
  unfold getI
  cases a with
  | ofNat n => exact h
  | negSucc n => omega

section small
variable {L : List GTok} {a : Int} {m : GMod} {ks : KS} {k : Int} {s t : List UInt8} {p : Int}
def isK (k : Int) (t s : List UInt8) : Bool := (decide (k = 5) || decide (k = 6)) && decide (t = s)
end small

/-! ### Bounds and sizes -/
section bounds
variable {L : List GTok} {a : Int} {m : GMod} {ks : KS}
structure Num (s : List UInt8) (v : Int) : Prop where
  ne : s ≠ []
  val : zej ⟨s⟩ = some v
end bounds
end Go.Proofs.Q


namespace Go.Proofs.Q
open Go.Sy
set_option linter.unusedVariables false

def zm (μ : GMark) : GNode := ⟨0, ⟨[]⟩, μ, ⟨false, false, false, false, 0, 0⟩, [], [], 0, false, 0⟩
def addN (m : GMod) (ns : List GNode) : GMod := ⟨m.name, m.tagging, m.names, m.types, m.nodes ++ ns⟩
structure TypK (h : Nat) (ts : KS) (sz : Nat) (ns : Nat → List GNode) : Prop where
  len : ∀ i, (ns i).length = sz
  go : ∀ {n : Nat} {d : Int} {L : List GTok} {a : Int} {m : GMod} {k : Int} {t : List UInt8} {ks : KS}, 4 * h ≤ n → 0 ≤ d → d + h ≤ 17 → Sg L a (ts ++ (k, t) :: ks) → isK k t [40] = false → m.nodes.length + sz ≤ 300 →
    zbe n ⟨L, a, m, 0, 0⟩ d = some ((m.nodes.length : Int), ⟨L, a + ts.length, addN m (ns m.nodes.length), 0, 0⟩)
structure BaseK (h : Nat) (ts : KS) (sz : Nat) (ns : Nat → List GNode) (f : GMark → Nat → GNode) : Prop where
  len : ∀ i, (ns i).length = sz
  go : ∀ {n : Nat} {d : Int} {L : List GTok} {a : Int} {m : GMod} {k : Int} {t : List UInt8} {ks : KS} (μ : GMark), 4 * h + 3 ≤ n → 0 ≤ d → d + h ≤ 16 → Sg L a (ts ++ (k, t) :: ks) → isK k t [40] = false → m.nodes.length + sz ≤ 300 →
    zb3 n ⟨L, a, m, 0, 0⟩ (zm μ) d = some (⟨L, a + ts.length, addN m (ns m.nodes.length), 0, 0⟩, f μ m.nodes.length)
/-! ### Bases -/
section bases
variable {n : Nat}
end bases
end Go.Proofs.Q


namespace Go.Proofs.Q
open Go.Sy
set_option linter.unusedVariables false

structure Fl where
  name : List UInt8
  ts : KS
  sz : Nat
  ns : Nat → List GNode
  tail : KS
  opt : Bool
  has : Bool
  df : Val
def Fl.toks (f : Fl) : KS := (2, f.name) :: (f.ts ++ f.tail)
def Fl.fl (f : Fl) (g : Int) (i : Nat) : GFld := ⟨⟨f.name⟩, (i : Int), f.opt, f.has, f.df, g⟩
@[reducible] def zv : Val := Val.mk 0 0 [] [] 0 []
def addF (n : GNode) (f : GFld) : GNode := ⟨n.kind, n.name, n.mark, n.con, n.items, n.fields ++ [f], n.root, n.more, n.of⟩
structure Sep (k : Int) (t : List UInt8) : Prop where
  par : isK k t [40] = false
  opt : isK k t [79, 80, 84, 73, 79, 78, 65, 76] = false
  dft : isK k t [68, 69, 70, 65, 85, 76, 84] = false
structure FldK (h : Nat) (kind : Int) (f : Fl) : Prop where
  len : ∀ i, (f.ns i).length = f.sz
  go : ∀ {n : Nat} {d : Int} {L : List GTok} {a : Int} {m : GMod} {k : Int} {t : List UInt8} {ks : KS} {nd : GNode} {g : Int}, 4 * h + 1 ≤ n → 0 ≤ d → d + h ≤ 16 → Sg L a (f.toks ++ (k, t) :: ks) → Sep k t → m.nodes.length + f.sz ≤ 300 → nd.kind = kind → nd.fields.length ≤ 1000 →
    zbK n ⟨L, a, m, 0, 0⟩ nd d g = some (⟨L, a + f.toks.length, addN m (f.ns m.nodes.length), 0, 0⟩, addF nd (f.fl g m.nodes.length))
/-! ### Some of them, with commas -/
def sepK : List KS → KS
  | [] => []
  | [x] => x
  | x :: y :: r => x ++ (6, [44]) :: sepK (y :: r)
/-! ### What stands within a bracket -/
inductive FI where
  | one (x : Fl)
  | dots
  | grp (l : List Fl)
def FI.toks : FI → KS
  | .one x => x.toks
  | .dots => [(6, [46, 46, 46])]
  | .grp l => (6, [91, 91]) :: (sepK (l.map Fl.toks) ++ [(6, [93, 93])])
end Go.Proofs.Q


namespace Go.Proofs.Q
open Go.Sy
set_option linter.unusedVariables false

/-! ### Modules -/
structure As where
  name : List UInt8
  ts : KS
  sz : Nat
  ns : Nat → List GNode
  h : Nat
structure AsK (x : As) : Prop where
  t : TypK x.h x.ts x.sz x.ns
  h : x.h ≤ 17
def As.toks (x : As) : KS := (1, x.name) :: (6, [58, 58, 61]) :: x.ts
end Go.Proofs.Q


namespace Go.Proofs.Q
open Go.Sy
set_option linter.unusedVariables false

structure N10 (m : GMod) (k : Int) (h : Nat) (sz : Nat) (tt : Nat → List GTyp) : Prop where
  len : ∀ i, (tt i).length = sz
  go : ∀ {n : Nat} {d : Int} {l : List GTyp}, 3 * h ≤ n → 0 ≤ d → d + h ≤ 17 → l.length + sz ≤ 300 → zdk n ⟨m, l, 0⟩ k d = some ((l.length : Int), ⟨m, l ++ tt l.length, 0⟩)
structure M10 (m : GMod) (nd : GNode) (h : Nat) (sz : Nat) (t : Nat → GTyp) (tt : Nat → List GTyp) : Prop where
  len : ∀ i, (tt i).length = sz
  go : ∀ {n : Nat} {d : Int} {l : List GTyp}, 3 * h + 2 ≤ n → 0 ≤ d → d + h ≤ 16 → l.length + (sz + 1) ≤ 300 → zdd n ⟨m, l, 0⟩ nd d = some ((l.length : Int), ⟨m, l ++ t l.length :: tt l.length, 0⟩)
/-! ### Fields -/
structure Ch where
  f : GFld
  sz : Nat
  tt : Nat → List GTyp
structure ChK (m : GMod) (h : Nat) (c : Ch) : Prop where
  n : N10 m c.f.ty h c.sz c.tt
  has : c.f.has = false
end Go.Proofs.Q


namespace Go.Proofs.Q
open Go.Sy
set_option linter.unusedVariables false

structure Mk where
  sz : Nat
  tt : Nat → List GTyp
structure MkK (m : GMod) (k : Int) (c : Mk) : Prop where
  go : ∃ h, h ≤ 17 ∧ N10 m k h c.sz c.tt
end Go.Proofs.Q


namespace Go.Proofs.Q
open Go.Sy
set_option linter.unusedVariables false
set_option maxRecDepth 4000

def dgl (v : Nat) : List UInt8 := match zk1 20 (UInt64.ofNat v) with
  | some s => s.b
  | none => []
def nameOk (w : List UInt8) (k : Int) : Bool := zaH (hd w) && nmAll w 32 && !decide (w.getLast? = some 45) && decide (w.length ≤ 60) && decide (kindN w = k)
structure Dg (v : Nat) : Prop where
  eq : zk1 fuel (UInt64.ofNat v) = some ⟨dgl v⟩
  num : numOk false (dgl v) = true
  val : Num (dgl v) v
  len : (dgl v).length ≤ 3
  f : nameOk (102 :: dgl v) 2 = true
  t : nameOk (84 :: dgl v) 1 = true
  i : nameOk (105 :: dgl v) 2 = true
  a : nameOk (97 :: dgl v) 2 = true
  inj : dval (dgl v) = v
theorem KT.word {w x : List UInt8} {k : Int} {ks : KS} (h : nameOk w k = true) (hx : KT (32 :: x) ks) : KT (w ++ 32 :: x) ((k, w) :: ks) := by
  unfold nameOk at h
  simp only [Bool.and_eq_true, decide_eq_true_eq, Bool.not_eq_true', decide_eq_false_iff_not] at h
  obtain ⟨⟨⟨⟨h1, h2⟩, h3⟩, h4⟩, h5⟩ := h
  have := KT.name (x := 32 :: x) h1 h2 rfl h3 h4 hx
  rw [h5] at this
  exact this
end Go.Proofs.Q


namespace Go.Proofs.Q
open Go.Sy
set_option linter.unusedVariables false

structure PF (gf : List GFld) (vs : List Nat) : Prop where
  len : gf.length = vs.length
  ty : ∀ (j : Nat) f, gf[j]? = some f → f.ty = ((1 + j : Nat) : Int)
  has : ∀ f ∈ gf, f.has = false
  nm : (gf.map fun f => f.name).Nodup
  nd : vs.Nodup
  v : ∀ v ∈ vs, v < 256
  l : vs.length ≤ 100
end Go.Proofs.Q


namespace Go.Proofs.Q
open Go.Sy
set_option linter.unusedVariables false
set_option maxRecDepth 4000

end Go.Proofs.Q


namespace Go.Proofs.Q
open Go.Sy
set_option maxRecDepth 4000
end Go.Proofs.Q


namespace Go.Proofs.Q
open Go.Sy
set_option maxRecDepth 4000
def tokF (s : Str) : Option (List GTok × Int × Int) := some (toks s.b)
theorem zoQ : zdb = tokF := funext zmX
def zhe (za0 : Str) : Option (GMod × Int × Int) :=
  cal (tokF za0) fun y2 => br (!decide (y2.2.2 = (0 : Int))) (some ((GMod.mk (Str.mk []) (0 : Int) ([] : (List Str)) ([] : (List Int)) ([] : (List GNode))), y2.2.1, y2.2.2)) (cal (za3 (GPar.mk y2.1 (0 : Int) (GMod.mk (Str.mk []) (0 : Int) ([] : (List Str)) ([] : (List Int)) ([] : (List GNode))) (0 : Int) (0 : Int)) (1 : Int)) fun y7 => cal (zV (GPar.mk y7.2.l y7.2.at_ (GMod.mk y7.1 y7.2.m.tagging y7.2.m.names y7.2.m.types y7.2.m.nodes) y7.2.e y7.2.p) (Str.mk [68, 69, 70, 73, 78, 73, 84, 73, 79, 78, 83])) fun y10 => jp (ι := GPar) (fun J14 => cal (zN y10 (Str.mk [69, 88, 80, 76, 73, 67, 73, 84])) fun y15 => br y15.1 (cal (zV y15.2 (Str.mk [84, 65, 71, 83])) fun y18 => J14 (y18)) (cal (zN y15.2 (Str.mk [73, 77, 80, 76, 73, 67, 73, 84])) fun y21 => br y21.1 (cal (zV (GPar.mk y21.2.l y21.2.at_ (GMod.mk y21.2.m.name (1 : Int) y21.2.m.names y21.2.m.types y21.2.m.nodes) y21.2.e y21.2.p) (Str.mk [84, 65, 71, 83])) fun y24 => J14 (y24)) (cal (zN y21.2 (Str.mk [65, 85, 84, 79, 77, 65, 84, 73, 67])) fun y27 => br y27.1 (cal (zV (GPar.mk y27.2.l y27.2.at_ (GMod.mk y27.2.m.name (2 : Int) y27.2.m.names y27.2.m.types y27.2.m.nodes) y27.2.e y27.2.p) (Str.mk [84, 65, 71, 83])) fun y30 => J14 (y30)) (J14 (y27.2))))) (fun q13 => cal (zV q13 (Str.mk [58, 58, 61])) fun y33 => cal (zV y33 (Str.mk [66, 69, 71, 73, 78])) fun y36 => lp (ι := GPar) (fun L40 q39 => jp (ι := Bool × GPar) (fun J92 => br (decide (q39.e = (0 : Int))) (cal (zN q39 (Str.mk [69, 78, 68])) fun y94 => J92 ((!y94.1), y94.2)) (J92 (false, q39))) (fun q91 => br q91.1 (cal (zaw q91.2) fun y97 => cal (za3 y97.2 (1 : Int)) fun y101 => jp (ι := Bool) (fun J105 => br (decide (y101.2.e = (0 : Int))) (J105 ((decide ((40 : Int) ≤ (y101.2.m.names.length : Int))))) (J105 (false))) (fun q104 => jp (ι := GPar) (fun J108 => br q104 (cal (zaG y101.2 (5 : Int) y97.1) fun y109 => J108 (y109)) (J108 (y101.2))) (fun q107 => cal (zV q107 (Str.mk [58, 58, 61])) fun y112 => cal (zbe fuel y112 (0 : Int)) fun y115 => asr (Nat.ble (y115.2.m.names.length + ([y101.1] : (List Str)).length) 68719476736) <| asr (Nat.ble (y115.2.m.types.length + ([y115.1] : (List Int)).length) 68719476736) <| L40 ((GPar.mk y115.2.l y115.2.at_ (GMod.mk y115.2.m.name y115.2.m.tagging (y115.2.m.names ++ ([y101.1] : (List Str))) (y115.2.m.types ++ ([y115.1] : (List Int))) y115.2.m.nodes) y115.2.e y115.2.p))))) (jp (ι := Bool × GPar) (fun J126 => br (decide (q91.2.e = (0 : Int))) (cal (zaw q91.2) fun y128 => J126 ((!decide (y128.1.kind = (0 : Int))), y128.2)) (J126 (false, q91.2))) (fun q125 => jp (ι := GPar) (fun J132 => br q125.1 (cal (zaw q125.2) fun y133 => cal (zaG y133.2 (7 : Int) y133.1) fun y136 => J132 (y136)) (J132 (q125.2))) (fun q131 => br (!decide (q131.e = (0 : Int))) (some ((GMod.mk (Str.mk []) (0 : Int) ([] : (List Str)) ([] : (List Int)) ([] : (List GNode))), q131.p, q131.e)) (some (q131.m, (0 : Int), (0 : Int)))))))) ((y36))))
theorem zjf : zel = zhe := by
  funext za0
  unfold zel zhe
  rw [zoQ]
def zeq (za0 : Str) : Option (GTab × Bool) :=
  br (decide ((3000 : Int) < (za0.b.length : Int))) (some ((GTab.mk (Str.mk []) ([] : (List Str)) ([] : (List Int)) ([] : (List GTyp))), false)) (cal (zhe za0) fun y2 => br (!decide (y2.2.2 = (0 : Int))) (some ((GTab.mk (Str.mk []) ([] : (List Str)) ([] : (List Int)) ([] : (List GTyp))), false)) (cal (zfX y2.1) fun y4 => jp (ι := Bool) (fun J7 => br (decide (y4.2.2 = (0 : Int))) (J7 ((decide ((y4.1.types.length : Int) ≤ (120 : Int))))) (J7 (false))) (fun q6 => some (y4.1, q6))))
theorem zg3 : zbD = zeq := by
  funext za0
  unfold zbD zeq
  rw [zjf]
def zhu : Option (Bool) :=
  cal (zeq (Str.mk [77, 32, 68, 69, 70, 73, 78, 73, 84, 73, 79, 78, 83, 32, 58, 58, 61, 32, 66, 69, 71, 73, 78, 32, 65, 32, 58, 58, 61, 32, 83, 69, 84, 32, 123, 32, 97, 32, 91, 49, 93, 32, 78, 85, 76, 76, 44, 32, 98, 32, 91, 48, 93, 32, 78, 85, 76, 76, 32, 125, 32, 69, 78, 68])) fun y1 => cal (zcT y1.1 (0 : Int)) fun y3 => jp (ι := Bool) (fun J5 => br y1.2 (J5 ((decide ((y3.length : Int) = (2 : Int))))) (J5 (false))) (fun q4 => jp (ι := Bool) (fun J8 => br q4 (cal (getI y3 (0 : Int)) fun y10 => J8 ((decide (y10 = (1 : Int))))) (J8 (false))) (fun q7 => jp (ι := Bool) (fun J12 => br q7 (cal (getI y3 (1 : Int)) fun y14 => J12 ((decide (y14 = (0 : Int))))) (J12 (false))) (fun q11 => some (q11))))
theorem zio : zdc = zhu := by
  unfold zdc zhu
  rw [zg3]
end Go.Proofs.Q


namespace Go.Proofs.Q
open Go.Sy
set_option linter.unusedVariables false
set_option maxRecDepth 4000

theorem awake11 : zdc = some true := by rw [zio]; kernel_rfl
theorem znx (l : List Int) (x : Int) (hl : l.length ≤ 1000000) : zdg l x = some (decide (x ∈ l)) := zf0 l x hl
end Go.Proofs.Q


namespace Go.Proofs.Q
open Go.Sy
set_option linter.unusedVariables false

/-! ### Least tags differ -/
theorem zlj {l : List Tag} (h : l ≠ []) : leastL l ∈ l := by
  have go : ∀ (r : List Tag) (x : Tag), r.foldl stepL x ∈ x :: r := by
    intro r
    induction r with
    | nil => intro x; exact List.mem_singleton.2 rfl
    | cons y r ih =>
      intro x
      have h1 := ih (stepL x y)
      show r.foldl stepL (stepL x y) ∈ x :: y :: r
      rcases List.mem_cons.1 h1 with h | h
      · rw [h]; unfold stepL
        cases lessT y x with
        | true => exact List.mem_cons_of_mem _ (List.mem_cons_self ..)
        | false => exact List.mem_cons_self ..
      · exact List.mem_cons_of_mem _ (List.mem_cons_of_mem _ h)
  cases l with
  | nil => exact absurd rfl h
  | cons x r => exact go r x
theorem znF {l : List GTyp} (hc : ∀ (p : Nat) t, l[p]? = some t → t.kind = 9 → t.fields ≠ [] ∨ t.more = true) : ∀ {h i j : Nat}, SubT h l i j → wld h l (i : Int) = false → bgs h l (i : Int) ≠ []
  | 0, _, _, hs, _ => hs.elim
  | h + 1, i, j, hs, hw => by
    obtain ⟨t, e, ok, hk⟩ := hs
    rw [zj0 e] at hw
    rw [zhd e]
    by_cases ht : 0 < t.tags.length
    · rw [if_pos ht]
      intro e2
      have := congrArg List.length e2
      rw [List.length_take, List.length_nil] at this
      omega
    · have h0 : t.tags = [] := List.eq_nil_of_length_eq_zero (by omega)
      have h9 : t.kind = 9 := Decidable.byContradiction fun hn => ok.tags hn h0
      rw [if_neg ht]
      rw [if_neg (by omega), Bool.or_eq_false_iff] at hw
      rcases hc i t e h9 with hf | hf
      · cases hfs : t.fields with
        | nil => exact absurd hfs hf
        | cons f r =>
          have hm : f ∈ t.fields := by rw [hfs]; exact List.mem_cons_self ..
          obtain ⟨c, d, h1, h2, _, _⟩ := Kids.mem3 SubT.le' hk (zhO f hm)
          have hwf : wld h l f.ty = false := by
            have := hw.2
            rw [hfs, List.any_cons, Bool.or_eq_false_iff] at this
            exact this.1
          have := znF hc h2 (by rw [← h1]; exact hwf)
          rw [← h1] at this
          rw [List.flatMap_cons]
          intro e2
          exact this (List.append_eq_nil_iff.1 e2).1
      · rw [hf] at hw; exact absurd hw.1 (by decide)
theorem zmL {α β : Type} {F : α → List β} : ∀ {l : List α} {i j : Nat} {a b : α} {z : β}, (l.flatMap F).Nodup → l[i]? = some a → l[j]? = some b → i ≠ j → z ∈ F a → z ∈ F b → False := by
  intro l
  induction l with
  | nil => intro i j a b z _ h; cases h
  | cons c r ih =>
    intro i j a b z hn hi hj hij ha hb
    rw [List.flatMap_cons] at hn
    obtain ⟨n1, n2, n3⟩ := List.nodup_append.1 hn
    cases i with
    | zero =>
      cases hi
      cases j with
      | zero => exact hij rfl
      | succ j => exact n3 z ha z (List.mem_flatMap.2 ⟨b, List.mem_of_getElem? hj, hb⟩) rfl
    | succ i =>
      cases j with
      | zero => cases hj; exact n3 z hb z (List.mem_flatMap.2 ⟨a, List.mem_of_getElem? hi, ha⟩) rfl
      | succ j => exact ih n2 hi hj (by omega) ha hb
theorem znv {t : GTab} (ht : TabOk t) (ha : ApR t.types 0 t.types.length) {p : Nat} {x : GTyp} (hx : t.types[p]? = some x) (h7 : x.kind ≠ 7) {i j : Nat} {f g : GFld} (hf : x.fields[i]? = some f) (hg : x.fields[j]? = some g) (hij : i ≠ j) : leastT t f.ty ≠ leastT t g.ty := by
  have htl := ht.types
  have hc : ∀ (p : Nat) y, t.types[p]? = some y → y.kind = 9 → y.fields ≠ [] ∨ y.more = true := fun p y hy => by
    obtain ⟨_, _, _, _, _, _, _, h⟩ := ha p y (Nat.zero_le _) (List.getElem?_eq_some_iff.1 hy).1 hy
    exact h
  obtain ⟨c, h, h1, h2, h3, h4, _⟩ := ha p x (Nat.zero_le _) (List.getElem?_eq_some_iff.1 hx).1 hx
  have h4 := h4 h7
  unfold tld at h4
  rw [Bool.and_eq_true] at h4
  have hnd := zOT h4.2
  have hlen : 1 < x.fields.length := by
    have := (List.getElem?_eq_some_iff.1 hf).1
    have := (List.getElem?_eq_some_iff.1 hg).1
    omega
  have hw : ∀ f ∈ x.fields, leastT t f.ty ∈ bgs h t.types f.ty := fun f hf => by
    obtain ⟨a, b, e1, e2, _, _⟩ := Kids.mem3 SubT.le' h3 (List.mem_map.2 ⟨f, hf, rfl⟩)
    have hwf : wld h t.types f.ty = false := by
      cases hw : wld h t.types f.ty with
      | false => rfl
      | true =>
        have h5 := h4.1
        rw [Bool.not_eq_true'] at h5
        have := List.any_eq_false.1 h5 f hf
        rw [hw, zDT hlen, Bool.or_true] at this
        exact absurd rfl this
    have hne := znF hc e2 (by rw [← e1]; exact hwf)
    have b1 := zgy e2 h2 (by omega : t.types.length ≤ 1000)
    have b2 := zgy (e2.ups h2) (Nat.le_refl _) (by omega : t.types.length ≤ 1000)
    have hb : bgs 17 t.types (a : Int) = bgs h t.types (a : Int) := Option.some.inj (b2.symm.trans b1)
    unfold leastT begT
    rw [e1, hb]
    exact zlj hne
  intro e
  exact zmL hnd hf hg hij (hw f (List.mem_of_getElem? hf)) (e ▸ hw g (List.mem_of_getElem? hg))

/-! ### Lists of places -/
structure OrdL (root n : Int) (l : List Int) : Prop where
  len : (l.length : Int) = n
  rg : ∀ z ∈ l, 0 ≤ z ∧ z < n
  nd : l.Nodup
  sp : ∀ (q : Nat) z, l[q]? = some z → (z < root ↔ (q : Int) < root)
theorem zls {a b : Int} : (rng a b).Nodup := zi3.imp fun h => by omega
theorem OrdL.nil (root : Int) : OrdL root 0 [] := ⟨rfl, (fun z h => by cases h), List.nodup_nil, (fun q z h => by cases h)⟩
theorem OrdL.rng {root n : Int} (h : 0 ≤ n) : OrdL root n (rng 0 n) := ⟨by rw [zcq]; omega, fun z hz => zis.1 hz, zls, fun q z hq => by
  have hl := (List.getElem?_eq_some_iff.1 hq).1
  rw [zcq] at hl
  rw [zko (by omega)] at hq
  cases hq
  rw [Int.zero_add]⟩
theorem Std.ord {R : Int → Int → Prop} {root n : Int} {l : List Int} (h : Std R root n l) (h0 : 0 ≤ root) (h1 : root ≤ n) : OrdL root n l := by
  obtain ⟨s, rfl, p, r⟩ := h.go
  have hs : (s.length : Int) = root := by rw [p.length_eq, zcq]; omega
  have hm : ∀ z ∈ s, 0 ≤ z ∧ z < root := fun z hz => zis.1 (p.mem_iff.1 hz)
  have hm2 : ∀ z ∈ Go.Proofs.Q.rng root n, root ≤ z ∧ z < n := fun z hz => zis.1 hz
  refine ⟨by rw [List.length_append, zcq]; omega, fun z hz => ?_, List.nodup_append.2 ⟨p.nodup_iff.2 zls, zls, fun u hu v hv e => by have := hm u hu; have := hm2 v hv; omega⟩, fun q z hq => ?_⟩
  · rcases List.mem_append.1 hz with h | h
    · have := hm z h; omega
    · have := hm2 z h; omega
  · rcases Nat.lt_or_ge q s.length with h | h
    · rw [List.getElem?_append_left h] at hq
      have := hm z (List.mem_of_getElem? hq); omega
    · rw [List.getElem?_append_right h] at hq
      have := hm2 z (List.mem_of_getElem? hq); omega
theorem Std.adj {R : Int → Int → Prop} {root n : Int} {l : List Int} (h : Std R root n l) (h0 : 0 ≤ root) {q : Nat} {a b : Int} (hq : (q : Int) + 1 < root) (ha : l[q]? = some a) (hb : l[q + 1]? = some b) : R a b := by
  obtain ⟨s, rfl, p, r⟩ := h.go
  have hs : (s.length : Int) = root := by rw [p.length_eq, zcq]; omega
  rw [List.getElem?_append_left (by omega)] at ha hb
  obtain ⟨k1, rfl⟩ := List.getElem?_eq_some_iff.1 ha
  obtain ⟨k2, rfl⟩ := List.getElem?_eq_some_iff.1 hb
  exact List.pairwise_iff_getElem.1 r q (q + 1) k1 k2 (by omega)
theorem zma {l : List Int} {q : Nat} {z : Int} (h : l.Nodup) (hz : l[q]? = some z) : ¬ z ∈ l.take q := fun hm => by
  have h1 : (l.take (q + 1)).Nodup := (List.take_sublist (q + 1) l).nodup h
  rw [List.take_add_one, hz] at h1
  exact (List.nodup_append.1 h1).2.2 z hm z (List.mem_singleton.2 rfl) rfl
theorem zlM (c : Bool) (fs : List GFld) (out : List (List Int)) (k : Int) : (slot1 c fs out k).flatten = out.flatten ++ [k] := by
  unfold slot1
  split
  · rename_i h
    have h1 := h.1
    rw [Bool.and_eq_true] at h1
    have h2 := zOT h1.2
    have hne : out ≠ [] := fun e => by rw [e] at h2; cases h2
    obtain ⟨a, b, rfl⟩ : ∃ a b, out = a ++ [b] := ⟨out.dropLast, out.getLast hne, (List.dropLast_concat_getLast hne).symm⟩
    have e1 : (a ++ [b]).length - 1 = a.length := by rw [List.length_append, List.length_singleton]; omega
    rw [e1, List.getElem?_append_right (Nat.le_refl _), Nat.sub_self, List.set_append_right _ _ (Nat.le_refl _), Nat.sub_self]
    simp
  · simp
theorem ziF {c : Bool} {fs : List GFld} : ∀ (l : List Int) (out : List (List Int)), (l.foldl (slot1 c fs) out).flatten = out.flatten ++ l
  | [], out => by simp
  | k :: r, out => by
    rw [List.foldl_cons, ziF r, zlM, List.append_assoc]; rfl
theorem zo1 {S : List (List Int)} {i j : Nat} {s : List Int} {y : Int} (hs : S[i]? = some s) (hy : s[j]? = some y) : S.flatten[(S.take i).flatten.length + j]? = some y := by
  obtain ⟨k, rfl⟩ := List.getElem?_eq_some_iff.1 hs
  have e : S = S.take i ++ (S[i] :: S.drop (i + 1)) := by rw [← List.drop_eq_getElem_cons k, List.take_append_drop]
  have hj := (List.getElem?_eq_some_iff.1 hy).1
  have e2 : S.flatten = (S.take i).flatten ++ (S[i] ++ (S.drop (i + 1)).flatten) := by
    conv => lhs; rw [e]
    rw [List.flatten_append, List.flatten_cons]
  rw [e2, List.getElem?_append_right (Nat.le_add_right _ _), Nat.add_sub_cancel_left, List.getElem?_append_left hj]
  exact hy
end Go.Proofs.Q


namespace Go.Proofs.Q
open Go.Sy
set_option linter.unusedVariables false

theorem zlk {α : Type} {l : List α} (h : l.Nodup) {i j : Nat} {a : α} (hi : l[i]? = some a) (hj : l[j]? = some a) : i = j := by
  obtain ⟨k1, e1⟩ := List.getElem?_eq_some_iff.1 hi
  obtain ⟨k2, e2⟩ := List.getElem?_eq_some_iff.1 hj
  rcases Nat.lt_trichotomy i j with c | c | c
  · exact absurd (e1.trans e2.symm) (List.pairwise_iff_getElem.1 h i j k1 k2 c)
  · exact c
  · exact absurd (e2.trans e1.symm) (List.pairwise_iff_getElem.1 h j i k2 k1 c)
theorem zm9 {t : GTab} (ht : TabOk t) (i : Int) : (slotsT t i).length ≤ 1000 ∧ ∀ s ∈ slotsT t i, s.length ≤ 1000 := by
  unfold slotsT
  generalize hy : (if 0 ≤ i then t.types[i.toNat]? else none) = o
  cases o with
  | none => exact ⟨Nat.zero_le _, fun s hs => by cases hs⟩
  | some x =>
    have hi : 0 ≤ i := by
      by_cases h : 0 ≤ i
      · exact h
      · rw [if_neg h] at hy; cases hy
    rw [if_pos hi] at hy
    obtain ⟨ok, hfl⟩ := ht.typ hi hy
    have hr0 := ok.root0
    show (if x.kind = 7 ∨ x.kind = 8 ∨ x.kind = 9 then slots x else []).length ≤ 1000 ∧ ∀ s ∈ (if x.kind = 7 ∨ x.kind = 8 ∨ x.kind = 9 then slots x else []), s.length ≤ 1000
    split
    · unfold slots
      have := ziZ (c := !decide (x.kind = 9)) (fs := x.fields) (rng x.root x.fields.length) [] 0 (Nat.le_refl _) (fun s hs => by cases hs)
      rw [zcq] at this
      exact ⟨by omega, fun s hs => by have := this.2 s hs; omega⟩
    · exact ⟨Nat.zero_le _, fun s hs => by cases hs⟩
theorem zod {t : GTab} {i : Int} {x : GTyp} (h0 : 0 ≤ i) (hx : t.types[i.toNat]? = some x) : (if 0 ≤ i then t.types[i.toNat]? else none) = some x := by rw [if_pos h0, hx]
theorem FldsS.at {t : GTab} {i : Int} {x : GTyp} {l : List Int} (h : FldsS t i l) (h0 : 0 ≤ i) (hx : t.types[i.toNat]? = some x) : (x.kind = 7 → l = rng 0 x.fields.length) ∧ (x.kind = 8 ∨ x.kind = 9 → Std (RK (fC t x) (fN t x)) x.root x.fields.length l) ∧ (¬ (x.kind = 7 ∨ x.kind = 8 ∨ x.kind = 9) → l = []) := by
  unfold FldsS at h
  rw [zod h0 hx] at h
  exact h
theorem ItmsS.at {t : GTab} {i : Int} {x : GTyp} {l : List Int} (h : ItmsS t i l) (h0 : 0 ≤ i) (hx : t.types[i.toNat]? = some x) : (x.kind = 3 → Std (RK (iN x) (fun _ => 0)) x.root x.items.length l) ∧ (x.kind ≠ 3 → l = []) := by
  unfold ItmsS at h
  rw [zod h0 hx] at h
  exact h
theorem zkI {t : GTab} (ht : TabOk t) {i : Int} {x : GTyp} {l : List Int} (h : FldsS t i l) (h0 : 0 ≤ i) (hx : t.types[i.toNat]? = some x) : OrdL x.root x.fields.length l := by
  obtain ⟨ok, _⟩ := ht.typ h0 hx
  obtain ⟨a, b, c⟩ := h.at h0 hx
  by_cases h7 : x.kind = 7
  · rw [a h7]; exact OrdL.rng (by omega)
  · by_cases h8 : x.kind = 8 ∨ x.kind = 9
    · exact (b h8).ord ok.root0 (ok.rootF (.inr h8))
    · have hn : ¬ (x.kind = 7 ∨ x.kind = 8 ∨ x.kind = 9) := by omega
      rw [c hn, ok.fields hn]; exact OrdL.nil _
theorem zk7 {t : GTab} (ht : TabOk t) {i : Int} {x : GTyp} {l : List Int} (h : ItmsS t i l) (h0 : 0 ≤ i) (hx : t.types[i.toNat]? = some x) : OrdL x.root x.items.length l := by
  obtain ⟨ok, _⟩ := ht.typ h0 hx
  obtain ⟨a, b⟩ := h.at h0 hx
  by_cases h3 : x.kind = 3
  · exact (a h3).ord ok.root0 (ok.rootI h3)
  · rw [b h3, ok.items h3]; exact OrdL.nil _
theorem znC {t : GTab} (ht : TabOk t) (ha : ApR t.types 0 t.types.length) {i : Int} {x : GTyp} {l : List Int} (h : FldsS t i l) (h0 : 0 ≤ i) (hx : t.types[i.toNat]? = some x) (h7 : x.kind ≠ 7) {q : Nat} {a b : Int} {f g : GFld} (hq : (q : Int) + 1 < x.root) (h1 : l[q]? = some a) (h2 : l[q + 1]? = some b) (hf : x.fields[a.toNat]? = some f) (hg : x.fields[b.toNat]? = some g) : lessT (leastT t f.ty) (leastT t g.ty) = true := by
  have ho := zkI ht h h0 hx
  obtain ⟨ok, _⟩ := ht.typ h0 hx
  obtain ⟨_, s, c⟩ := h.at h0 hx
  have h8 : x.kind = 8 ∨ x.kind = 9 := Decidable.byContradiction fun hn => by
    rw [c (by omega)] at h1; cases h1
  have hr := (s h8).adj ok.root0 hq h1 h2
  have ha0 := ho.rg a (List.mem_of_getElem? h1)
  have hb0 := ho.rg b (List.mem_of_getElem? h2)
  have hab : a ≠ b := fun e => by
    have := zlk ho.nd h1 (e ▸ h2)
    omega
  have hne := znv ht ha hx h7 hf hg (by omega)
  have e1 : fC t x a = (leastT t f.ty).cls ∧ fN t x a = (leastT t f.ty).num := by unfold fC fN; rw [hf]; exact ⟨rfl, rfl⟩
  have e2 : fC t x b = (leastT t g.ty).cls ∧ fN t x b = (leastT t g.ty).num := by unfold fC fN; rw [hg]; exact ⟨rfl, rfl⟩
  unfold RK at hr
  rw [e1.1, e1.2, e2.1, e2.2] at hr
  rw [zhW]
  generalize leastT t f.ty = u at *
  generalize leastT t g.ty = v at *
  rcases hr with k | ⟨k1, k | ⟨k2, _⟩⟩
  · exact .inl k
  · exact .inr ⟨k1, k⟩
  · refine absurd ?_ hne
    cases u; cases v
    dsimp only at k1 k2
    rw [k1, k2]
theorem znA {t : GTab} (ht : TabOk t) (ha : ApR t.types 0 t.types.length) {i : Int} {x : GTyp} {l : List Int} (h : ItmsS t i l) (h0 : 0 ≤ i) (hx : t.types[i.toNat]? = some x) {q : Nat} {a b : Int} {f g : GItem} (hq : (q : Int) + 1 < x.root) (h1 : l[q]? = some a) (h2 : l[q + 1]? = some b) (hf : x.items[a.toNat]? = some f) (hg : x.items[b.toNat]? = some g) : f.number < g.number := by
  have ho := zk7 ht h h0 hx
  obtain ⟨ok, _⟩ := ht.typ h0 hx
  obtain ⟨s, c⟩ := h.at h0 hx
  have h3 : x.kind = 3 := Decidable.byContradiction fun hn => by
    rw [c hn] at h1; cases h1
  have hr := (s h3).adj ok.root0 hq h1 h2
  have ha0 := ho.rg a (List.mem_of_getElem? h1)
  have hb0 := ho.rg b (List.mem_of_getElem? h2)
  have hab : a ≠ b := fun e => by
    have := zlk ho.nd h1 (e ▸ h2)
    omega
  obtain ⟨_, _, _, _, _, _, hnd, _⟩ := ha i.toNat x (Nat.zero_le _) (List.getElem?_eq_some_iff.1 hx).1 hx
  have hne : f.number ≠ g.number := fun e => by
    have m1 : (x.items.map fun q => q.number)[a.toNat]? = some f.number := by rw [List.getElem?_map, hf]; rfl
    have m2 : (x.items.map fun q => q.number)[b.toNat]? = some g.number := by rw [List.getElem?_map, hg]; rfl
    have := zlk hnd m1 (e ▸ m2)
    omega
  have e1 : iN x a = f.number := by unfold iN; rw [hf]; rfl
  have e2 : iN x b = g.number := by unfold iN; rw [hg]; rfl
  unfold RK at hr
  rw [e1, e2] at hr
  omega
theorem zmw {t : GTab} (ht : TabOk t) {i : Int} {x : GTyp} (h0 : 0 ≤ i) (hx : t.types[i.toNat]? = some x) : (slotsT t i).flatten = if x.kind = 7 ∨ x.kind = 8 ∨ x.kind = 9 then rng x.root x.fields.length else [] := by
  unfold slotsT
  rw [zod h0 hx]
  dsimp only
  split
  · unfold slots; rw [ziF]; rfl
  · rfl
theorem zmC (text : Str) (i : Int) : zdB text i = some true := by
  refine T.eqs ?_
  unfold zdB
  refine T.cal (zlN text) fun r _ ⟨ht, ha⟩ => ?_
  have htl := ht.types
  refine T.jp (fun b => b = false → 0 ≤ i) (fun J hJ => T.br (fun _ => hJ _ fun h => by cases h) fun _ => hJ _ fun h => by have := zOF h; omega) fun b hb => ?_
  refine T.jp (fun c => c = false → 0 ≤ i ∧ i < r.1.types.length) (fun J hJ => T.br (fun _ => hJ _ fun h => by cases h) fun hb' => hJ _ fun h => ⟨hb hb', by have := zOF h; omega⟩) fun c hc => ?_
  refine T.br (fun _ => T.eq awake11 (T.some rfl)) fun hc' => ?_
  obtain ⟨h0, h1⟩ := hc hc'
  refine T.get h0 h1 fun x hx => ?_
  obtain ⟨ok, hfl⟩ := ht.typ h0 hx
  have hil := ok.ilen
  refine T.cal (zm0 ht i) fun F _ hF => T.cal (zn3 ht i) fun I _ hI => T.eq (zmp ht i) (T.eq awake11 ?_)
  have oF := zkI ht hF h0 hx
  have oI := zk7 ht hI h0 hx
  have lF := oF.len
  have lI := oI.len
  refine T.jp (fun b => b = false) (fun J hJ => T.brF rfl (hJ _ (by rw [zDT lF]; rfl))) fun b hb => ?_
  refine T.jp (fun b => b = false) (fun J hJ => T.brF hb (hJ _ (by rw [zDT lI]; rfl))) fun b hb => T.brF hb ?_
  -- the fields
  refine T.lp (fun (q : Int) => 0 ≤ q ∧ q ≤ F.length) (fun q => ((F.length : Int) - q).toNat) ⟨Int.le_refl _, by omega⟩ (by omega) fun L q ⟨q1, q2⟩ hL => T.br (fun h => ?_) fun h => ?_
  · have h := zOT h
    obtain ⟨z, hz⟩ : ∃ z, F[q.toNat]? = some z := ⟨_, List.getElem?_eq_getElem (by omega)⟩
    obtain ⟨z1, z2⟩ := oF.rg z (List.mem_of_getElem? hz)
    have hsp := oF.sp _ z hz
    refine T.eq (zci q1 hz) (T.jp (fun b => b = false) (fun J hJ => T.brF (zDF (by omega)) (T.eq (zci q1 hz) (hJ _ (zDF (by omega))))) fun b hb => ?_)
    refine T.jp (fun b => b = false) (fun J hJ => T.brF hb (T.asd ⟨Int.le_refl _, q1, q2⟩ (T.eq (zci q1 hz) (T.eq (znx _ _ (by rw [List.length_drop, List.length_take]; omega)) (hJ _ (zDF (zma oF.nd hz))))))) fun b hb => ?_
    refine T.jp (fun b => b = false) (fun J hJ => T.brF hb (T.eq (zci q1 hz) (hJ _ ?_))) fun b hb => T.brF hb ?_
    · have : decide (z < x.root) = decide (q < x.root) := decide_eq_decide.2 (by omega)
      rw [zDT this]; rfl
    refine T.jp (fun b => b = true → x.kind ≠ 7 ∧ 0 < q) (fun J hJ => T.br (fun h2 => hJ _ fun h3 => ⟨by simpa using h2, zOT h3⟩) fun _ => hJ _ fun h => by cases h) fun b hb => ?_
    refine T.jp (fun b => b = true → x.kind ≠ 7 ∧ 0 < q ∧ q < x.root) (fun J hJ => T.br (fun h2 => hJ _ fun h3 => ⟨(hb h2).1, (hb h2).2, zOT h3⟩) fun _ => hJ _ fun h => by cases h) fun b hb => ?_
    refine T.jp (fun b => b = false) (fun J hJ => T.br (fun h2 => ?_) fun _ => hJ _ rfl) fun b hb => T.brF hb (T.ck (by omega) (hL _ ⟨by omega, by omega⟩ (by omega)))
    obtain ⟨k7, k0, kr⟩ := hb h2
    obtain ⟨w, hw⟩ : ∃ w, F[(q - 1).toNat]? = some w := ⟨_, List.getElem?_eq_getElem (by omega)⟩
    obtain ⟨w1, w2⟩ := oF.rg w (List.mem_of_getElem? hw)
    obtain ⟨f, hf⟩ : ∃ f, x.fields[w.toNat]? = some f := ⟨_, List.getElem?_eq_getElem (by omega)⟩
    obtain ⟨g, hg⟩ : ∃ g, x.fields[z.toNat]? = some g := ⟨_, List.getElem?_eq_getElem (by omega)⟩
    have hq1 : q.toNat = (q - 1).toNat + 1 := by omega
    have hless := znC ht ha hF h0 hx k7 (q := (q - 1).toNat) (by omega) hw (by rw [← hq1]; exact hz) hf hg
    exact T.ck (by omega) (T.eq (zci (by omega) hw) (T.eq (zci w1 hf) (T.eq (zci q1 hz) (T.eq (zci z1 hg) (T.eq (ziL ht _) (T.eq (ziL ht _) (T.eq (zkt _ _) (hJ _ (by rw [hless]; rfl)))))))))
  -- the items
  refine T.lp (fun (q : Int) => 0 ≤ q ∧ q ≤ I.length) (fun q => ((I.length : Int) - q).toNat) ⟨Int.le_refl _, by omega⟩ (by omega) fun L q ⟨q1, q2⟩ hL => T.br (fun h => ?_) fun h => ?_
  · have h := zOT h
    obtain ⟨z, hz⟩ : ∃ z, I[q.toNat]? = some z := ⟨_, List.getElem?_eq_getElem (by omega)⟩
    obtain ⟨z1, z2⟩ := oI.rg z (List.mem_of_getElem? hz)
    refine T.eq (zci q1 hz) (T.jp (fun b => b = false) (fun J hJ => T.brF (zDF (by omega)) (T.eq (zci q1 hz) (hJ _ (zDF (by omega))))) fun b hb => ?_)
    refine T.jp (fun b => b = false) (fun J hJ => T.brF hb (T.asd ⟨Int.le_refl _, q1, q2⟩ (T.eq (zci q1 hz) (T.eq (znx _ _ (by rw [List.length_drop, List.length_take]; omega)) (hJ _ (zDF (zma oI.nd hz))))))) fun b hb => ?_
    refine T.jp (fun b => b = false) (fun J hJ => T.brF hb (T.jp (fun b => b = true → 0 < q ∧ q < x.root) (fun J2 hJ2 => T.br (fun h2 => hJ2 _ fun h3 => ⟨zOT h2, zOT h3⟩) fun _ => hJ2 _ fun h => by cases h) fun b hb => T.jp (fun b => b = false) (fun J3 hJ3 => T.br (fun h2 => ?_) fun _ => hJ3 _ rfl) fun b hb => hJ _ hb)) fun b hb => T.brF hb (T.ck (by omega) (hL _ ⟨by omega, by omega⟩ (by omega)))
    obtain ⟨k0, kr⟩ := hb h2
    obtain ⟨w, hw⟩ : ∃ w, I[(q - 1).toNat]? = some w := ⟨_, List.getElem?_eq_getElem (by omega)⟩
    obtain ⟨w1, w2⟩ := oI.rg w (List.mem_of_getElem? hw)
    obtain ⟨f, hf⟩ : ∃ f, x.items[w.toNat]? = some f := ⟨_, List.getElem?_eq_getElem (by omega)⟩
    obtain ⟨g, hg⟩ : ∃ g, x.items[z.toNat]? = some g := ⟨_, List.getElem?_eq_getElem (by omega)⟩
    have hq1 : q.toNat = (q - 1).toNat + 1 := by omega
    have hless := znA ht ha hI h0 hx (q := (q - 1).toNat) (by omega) hw (by rw [← hq1]; exact hz) hf hg
    exact T.eq (zci q1 hz) (T.eq (zci z1 hg) (T.ck (by omega) (T.eq (zci (by omega) hw) (T.eq (zci w1 hf) (hJ3 _ (zDF (by omega)))))))
  -- the slots
  have hS := zmw ht h0 hx
  have hSS := (zm9 ht i).1
  generalize slotsT r.1 i = S at *
  have hr0 := ok.root0
  have hSl : (x.root + S.flatten.length = x.fields.length ∨ x.fields.length = 0) ∧ x.root ≤ 10000 ∧ S.flatten.length ≤ 10000 ∧ ∀ (q : Nat) y, S.flatten[q]? = some y → y = x.root + q := by
    rw [hS]
    split
    · rename_i hk
      have := ok.rootF hk
      refine ⟨.inl (by rw [zcq]; omega), by omega, by rw [zcq]; omega, fun q y hq => ?_⟩
      have hl := (List.getElem?_eq_some_iff.1 hq).1
      rw [zcq] at hl
      rw [zko (by omega)] at hq
      cases hq; rfl
    · rename_i hk
      refine ⟨.inr (by rw [ok.fields hk]; rfl), ?_, by simp, fun q y hq => by cases hq⟩
      by_cases h3 : x.kind = 3
      · have := ok.rootI h3; omega
      · rw [ok.rootZ h3 hk]; decide
  obtain ⟨s1, s2, s3, s4⟩ := hSl
  refine T.lp (ι := Int × Int) (fun p => 0 ≤ p.2 ∧ p.2 ≤ S.length ∧ p.1 = x.root + (S.take p.2.toNat).flatten.length) (fun p => ((S.length : Int) - p.2).toNat) ⟨Int.le_refl _, by dsimp only; omega, by simp⟩ (by dsimp only; omega) fun L p ⟨p1, p2, p3⟩ hL => ?_
  obtain ⟨nx, k⟩ := p
  dsimp only at p1 p2 p3 hL ⊢
  refine T.br (fun h => ?_) fun h => ?_
  · have h := zOT h
    obtain ⟨s, hs⟩ : ∃ s, S[k.toNat]? = some s := ⟨_, List.getElem?_eq_getElem (by omega)⟩
    have hk1 : (k + 1).toNat = k.toNat + 1 := by omega
    have hfl2 : ((S.take (k.toNat + 1)).flatten).length = ((S.take k.toNat).flatten).length + s.length := by
      rw [List.take_add_one, hs, List.flatten_append, List.length_append]; simp
    have hle : ((S.take (k.toNat + 1)).flatten).length ≤ S.flatten.length := by
      have e : S = S.take (k.toNat + 1) ++ S.drop (k.toNat + 1) := (List.take_append_drop _ _).symm
      have := congrArg (fun l => l.flatten.length) e
      skip
      rw [List.flatten_append, List.length_append] at this
      omega
    refine T.lp (ι := Int × Int) (fun p => 0 ≤ p.2 ∧ p.2 ≤ s.length ∧ p.1 = nx + p.2) (fun p => ((s.length : Int) - p.2).toNat) ⟨Int.le_refl _, by dsimp only; omega, by dsimp only; omega⟩ (by dsimp only; omega) fun L2 p ⟨u1, u2, u3⟩ hL2 => ?_
    obtain ⟨ny, j⟩ := p
    dsimp only at u1 u2 u3 hL2 ⊢
    refine T.eq (zci p1 hs) (T.br (fun h2 => ?_) fun h2 => ?_)
    · have h2 := zOT h2
      obtain ⟨y, hy⟩ : ∃ y, s[j.toNat]? = some y := ⟨_, List.getElem?_eq_getElem (by omega)⟩
      have := s4 _ y (zo1 hs hy)
      refine T.eq (zci p1 hs) (T.eq (zci u1 hy) (T.brF ?_ (T.ck (by omega) (T.ck (by omega) (hL2 _ ⟨by dsimp only; omega, by dsimp only; omega, by dsimp only; omega⟩ (by dsimp only; omega))))))
      rw [zDT (show y = ny by omega)]; rfl
    · have h2 := zOF h2
      exact T.ck (by omega) (hL _ ⟨by dsimp only; omega, by dsimp only; omega, by dsimp only; rw [hk1, hfl2]; omega⟩ (by dsimp only; omega))
  · have h := zOF h
    have hk : k.toNat = S.length := by omega
    rw [hk, List.take_length] at p3
    refine T.jp (fun b => b = true) (fun J hJ => T.br (fun _ => hJ _ rfl) fun h2 => hJ _ (zDT ?_)) fun b hb => T.some hb
    have h2 := zOF h2
    omega
end Go.Proofs.Q

