/- RefsChain: whatever its arguments are, the law's model answers true. No condition. -/
import Derived.Test.YtnnijoepfgnlfaaDoorRcA
import Derived.Test.YtnnijoepfgnlfaaDoorRcB
import Derived.KernelRfl
set_option linter.unusedVariables false
set_option linter.unusedSimpArgs false

namespace Go.Proofs.YtnnijoepfgnlfaaDoor
open Go.Sy
set_option linter.unusedVariables false

inductive KT : List UInt8 → List (Int × List UInt8) → Prop
  | fin {b : List UInt8} : wh .out b = [] → KT b []
  | tok {b r r' t : List UInt8} {c : UInt8} {k : Int} {ks : List (Int × List UInt8)} : wh .out b = c :: r → oneS (c :: r) = some (k, t, r') → KT r' ks → KT b ((k, t) :: ks)
def kt (t : GTok) : Int × List UInt8 := (t.kind, t.text.b)
theorem toksF_KT {n : Nat} {b : List UInt8} {ks : List (Int × List UInt8)} (h : KT b ks) : ∀ f acc, b.length < f → ∃ l, toksF n f b acc = (acc ++ l, 0, 0) ∧ l.map kt = ks ++ [(0, [])] := by
  induction h with
  | @fin b h =>
    intro f acc hf
    obtain ⟨f, rfl⟩ : ∃ g, f = g + 1 := ⟨f - 1, by omega⟩
    rw [toksF_succ, h]
    exact ⟨_, rfl, rfl⟩
  | @tok b r r' t c k ks h1 h2 _ ih =>
    intro f acc hf
    obtain ⟨f, rfl⟩ : ∃ g, f = g + 1 := ⟨f - 1, by omega⟩
    have h3 := oneS_len h2
    have h4 := wh_len b .out
    rw [h1] at h4
    obtain ⟨l, e1, e2⟩ := ih f (acc ++ [⟨k, ⟨t⟩, (n : Int) - ((c :: r).length : Int)⟩]) (by omega)
    rw [toksF_succ, h1]
    simp only [h2]
    rw [e1]
    exact ⟨⟨k, ⟨t⟩, (n : Int) - ((c :: r).length : Int)⟩ :: l, by rw [List.append_assoc]; rfl, by rw [List.map_cons, e2]; rfl⟩
theorem toks_KT {b : List UInt8} {ks : List (Int × List UInt8)} (h : KT b ks) (hl : b.length ≤ 8000) : ∃ l, toks b = (l, 0, 0) ∧ l.map kt = ks ++ [(0, [])] := by
  unfold toks
  rw [decide_eq_false (show ¬ 8000 < b.length by omega), cond_false]
  obtain ⟨l, e1, e2⟩ := toksF_KT (n := b.length) h (b.length + 1) [] (by omega)
  exact ⟨l, by rw [e1, List.nil_append], e2⟩

/-! ### White -/
theorem KT.sp {b : List UInt8} {ks : List (Int × List UInt8)} (h : KT b ks) : KT (32 :: b) ks := by
  cases h with
  | fin h => exact .fin h
  | tok h1 h2 h3 => exact .tok h1 h2 h3
theorem wh_non {c : UInt8} {r : List UInt8} (h1 : isWh c = false) (h2 : c ≠ 45 ∨ hd r ≠ 45) : wh .out (c :: r) = c :: r := by
  have e : (decide (c = 45) && decide (hd r = 45)) = false := by
    rcases h2 with h | h
    · rw [decide_eq_false h]; rfl
    · rw [decide_eq_false h, Bool.and_false]
  show (bif isWh c then wh .out r else bif decide (c = 45) && decide (hd r = 45) then wh .start r else c :: r) = _
  rw [h1, e]; rfl
theorem hd_app {w x : List UInt8} : hd (w ++ x) = hd (w ++ [hd x]) := by
  cases w with
  | nil => rfl
  | cons c w => rfl

/-! ### Names -/
def nmAll : List UInt8 → UInt8 → Bool
  | [], _ => true
  | c :: w, d => inName c (w ++ [d]) && nmAll w d
def stopN : List UInt8 → Bool
  | [] => true
  | d :: r => !inName d r
theorem inName_hd {c : UInt8} {r s : List UInt8} (h : hd r = hd s) : inName c r = inName c s := by unfold inName; rw [h]
theorem nm_app {x : List UInt8} (hs : stopN x = true) : ∀ {w : List UInt8}, nmAll w (hd x) = true → nm (w ++ x) = w.length
  | [], _ => by
    cases x with
    | nil => rfl
    | cons d r =>
      have : inName d r = false := by
        have hs2 : (!inName d r) = true := hs
        cases h : inName d r with
        | true => rw [h] at hs2; cases hs2
        | false => rfl
      show (bif inName d r then nm r + 1 else 0) = 0
      rw [this]; rfl
  | c :: w, h => by
    unfold nmAll at h
    rw [Bool.and_eq_true] at h
    show (bif inName c (w ++ x) then nm (w ++ x) + 1 else 0) = w.length + 1
    rw [inName_hd hd_app, h.1, nm_app hs h.2]; rfl
def kindN (w : List UInt8) : Int := bif isWord w then 5 else bif decide (hd w ≤ 90) then 1 else 2
theorem hd_appl {w x : List UInt8} (h : w ≠ []) : hd (w ++ x) = hd w := by
  cases w with
  | nil => exact absurd rfl h
  | cons c w => rfl
theorem ne_of_letter {w : List UInt8} (h : isLetter (hd w) = true) : w ≠ [] := fun e => by subst e; cases h
theorem one_name {w x : List UInt8} (h0 : isLetter (hd w) = true) (h1 : nmAll w (hd x) = true) (h2 : stopN x = true) (h3 : w.getLast? ≠ some 45) (h4 : w.length ≤ 60) : oneS (w ++ x) = some (kindN w, w, x) := by
  have hn := nm_app h2 h1
  have hb : nmBad (w ++ x) = false := by
    unfold nmBad
    rw [hn, List.take_left, decide_eq_false h3, decide_eq_false (by omega)]; rfl
  unfold oneS
  simp only
  rw [hd_appl (ne_of_letter h0), h0, hb, hn, List.take_left, List.drop_left]
  rfl
theorem letter_wh {c : UInt8} (h : isLetter c = true) : isWh c = false ∧ c ≠ 45 := by
  unfold isLetter at h
  unfold isWh
  simp only [Bool.or_eq_true, Bool.and_eq_true, decide_eq_true_eq, UInt8.le_iff_toNat_le] at h
  have e : ∀ n : UInt8, n.toNat ≤ 45 → c ≠ n := fun n hn e => by
    subst e
    have e1 : (97 : UInt8).toNat = 97 := rfl
    have e2 : (65 : UInt8).toNat = 65 := rfl
    omega
  rw [decide_eq_false (e 32 (by decide)), decide_eq_false (e 9 (by decide)), decide_eq_false (e 10 (by decide)), decide_eq_false (e 13 (by decide))]
  exact ⟨rfl, e 45 (by decide)⟩
theorem KT.name {w x : List UInt8} {ks : List (Int × List UInt8)} (h0 : isLetter (hd w) = true) (h1 : nmAll w (hd x) = true) (h2 : stopN x = true) (h3 : w.getLast? ≠ some 45) (h4 : w.length ≤ 60) (h : KT x ks) : KT (w ++ x) ((kindN w, w) :: ks) := by
  cases hw : w with
  | nil => rw [hw] at h0; cases h0
  | cons c r =>
    have hc : isLetter c = true := by rw [hw] at h0; exact h0
    obtain ⟨e1, e2⟩ := letter_wh hc
    have := one_name h0 h1 h2 h3 h4
    rw [hw] at this
    exact .tok (wh_non e1 (.inl e2)) this h

/-! ### Numbers -/
def digs2 (d : List UInt8) : Bool := d.all isDigit
theorem dg_app {x : List UInt8} (hs : isDigit (hd x) = false) : ∀ {d : List UInt8}, digs2 d = true → dg (d ++ x) = d.length
  | [], _ => by
    cases x with
    | nil => rfl
    | cons c r =>
      show (bif isDigit c then dg r + 1 else 0) = 0
      have : isDigit c = false := hs
      rw [this]; rfl
  | c :: d, h => by
    unfold digs2 at h
    rw [List.all_cons, Bool.and_eq_true] at h
    show (bif isDigit c then dg (d ++ x) + 1 else 0) = d.length + 1
    rw [h.1, dg_app hs h.2]; rfl
def numOk (m : Bool) (d : List UInt8) : Bool := digs2 d && decide (1 ≤ d.length) && decide (d.length ≤ 19) && (decide (d.length ≤ 1) || !decide (hd d = 48)) && (!m || !decide (hd d = 48)) && decide ((uval d).toNat ≤ (if m then 9223372036854775808 else 9223372036854775807))
theorem numBad_app {m : Bool} {d x : List UInt8} (h : numOk m d = true) (h1 : isDigit (hd x) = false) (h2 : isLetter (hd x) = false) : numBad m (d ++ x) = false := by
  unfold numOk at h
  simp only [Bool.and_eq_true, decide_eq_true_eq] at h
  obtain ⟨⟨⟨⟨⟨h3, h4⟩, h5⟩, h6⟩, h7⟩, h8⟩ := h
  have hne : d ≠ [] := fun e => by subst e; simp at h4
  have hn := dg_app h1 h3
  unfold numBad
  rw [hn, hd_appl hne, List.drop_left, List.take_left, h2, decide_eq_false (show ¬ d.length < 1 by omega), decide_eq_false (show ¬ 19 < d.length by omega)]
  have e1 : (decide (1 < d.length) && decide (hd d = 48)) = false := by
    rw [Bool.or_eq_true] at h6
    rcases h6 with h | h
    · rw [decide_eq_false (by have := of_decide_eq_true h; omega)]; rfl
    · have : decide (hd d = 48) = false := by simpa using h
      rw [this, Bool.and_false]
  have e2 : (m && decide (hd d = 48)) = false := by
    rw [Bool.or_eq_true] at h7
    rcases h7 with h | h
    · have : m = false := by simpa using h
      rw [this]; rfl
    · have : decide (hd d = 48) = false := by simpa using h
      rw [this, Bool.and_false]
  have e3 : decide ((9223372036854775808 : UInt64) < uval d) = false := by
    refine decide_eq_false fun h => ?_
    have h := UInt64.lt_iff_toNat_lt.1 h
    have e : (9223372036854775808 : UInt64).toNat = 9223372036854775808 := rfl
    cases m with
    | true => rw [if_pos rfl] at h8; omega
    | false => rw [if_neg (by decide)] at h8; omega
  have e4 : (!m && decide (uval d = 9223372036854775808)) = false := by
    cases m with
    | true => rfl
    | false =>
      rw [if_neg (by decide)] at h8
      have : ¬ uval d = 9223372036854775808 := fun e => by
        rw [e] at h8
        have e : (9223372036854775808 : UInt64).toNat = 9223372036854775808 := rfl
        omega
      rw [decide_eq_false this]; rfl
  rw [e1, e2, e3, e4]; rfl
theorem digit_not {c : UInt8} (h : isDigit c = true) : isLetter c = false ∧ isWh c = false ∧ c ≠ 45 := by
  unfold isDigit at h
  simp only [Bool.and_eq_true, decide_eq_true_eq, UInt8.le_iff_toNat_le] at h
  have a1 : (48 : UInt8).toNat = 48 := rfl
  have a2 : (57 : UInt8).toNat = 57 := rfl
  have e : ∀ n : UInt8, n.toNat ≤ 45 → c ≠ n := fun n hn e => by subst e; omega
  refine ⟨?_, ?_, e 45 (by decide)⟩
  · unfold isLetter
    have b1 : (97 : UInt8).toNat = 97 := rfl
    have b2 : (65 : UInt8).toNat = 65 := rfl
    rw [decide_eq_false (show ¬ (97 : UInt8) ≤ c from fun h => by have := UInt8.le_iff_toNat_le.1 h; omega), decide_eq_false (show ¬ (65 : UInt8) ≤ c from fun h => by have := UInt8.le_iff_toNat_le.1 h; omega)]; rfl
  · unfold isWh
    rw [decide_eq_false (e 32 (by decide)), decide_eq_false (e 9 (by decide)), decide_eq_false (e 10 (by decide)), decide_eq_false (e 13 (by decide))]; rfl
theorem numOk_ne {m : Bool} {d : List UInt8} (h : numOk m d = true) : d ≠ [] := fun e => by subst e; cases m <;> cases h
theorem numOk_hd {m : Bool} {d : List UInt8} (h : numOk m d = true) : isDigit (hd d) = true := by
  cases d with
  | nil => exact absurd rfl (numOk_ne h)
  | cons c r =>
    unfold numOk digs2 at h
    simp only [Bool.and_eq_true, List.all_cons] at h
    exact h.1.1.1.1.1.1
theorem one_num {d x : List UInt8} (h : numOk false d = true) (h1 : isDigit (hd x) = false) (h2 : isLetter (hd x) = false) : oneS (d ++ x) = some (3, d, x) := by
  have hc := numOk_hd h
  obtain ⟨e1, e2, e3⟩ := digit_not hc
  have hn : numLen (d ++ x) = some d.length := by
    unfold numLen
    have hd2 : digs2 d = true := by
      unfold numOk at h
      simp only [Bool.and_eq_true] at h
      exact h.1.1.1.1.1
    rw [hd_appl (numOk_ne h), decide_eq_false e3, cond_false, numBad_app h h1 h2, cond_false, dg_app h1 hd2]
  unfold oneS
  simp only
  rw [hd_appl (numOk_ne h), e1, hc, Bool.true_or, cond_true, cond_false, hn]
  simp only [List.take_left, List.drop_left]
theorem one_neg {d x : List UInt8} (h : numOk true d = true) (h1 : isDigit (hd x) = false) (h2 : isLetter (hd x) = false) : oneS (45 :: (d ++ x)) = some (3, 45 :: d, x) := by
  have hc := numOk_hd h
  have hn : numLen (45 :: (d ++ x)) = some (d.length + 1) := by
    unfold numLen
    have hd2 : digs2 d = true := by
      unfold numOk at h
      simp only [Bool.and_eq_true] at h
      exact h.1.1.1.1.1
    show (bif numBad true (d ++ x) then none else some (dg (d ++ x) + 1)) = _
    rw [numBad_app h h1 h2, cond_false, dg_app h1 hd2]
  unfold oneS
  have e : isDigit (hd ((45 :: (d ++ x)).drop 1)) = true := by
    show isDigit (hd (d ++ x)) = true
    rw [hd_appl (numOk_ne h)]; exact hc
  simp only
  rw [show isLetter (hd (45 :: (d ++ x))) = false from rfl, show isDigit (hd (45 :: (d ++ x))) = false from rfl, show decide (hd (45 :: (d ++ x)) = 45) = true from rfl, e, hn]
  show some (3, (45 :: (d ++ x)).take (d.length + 1), (45 :: (d ++ x)).drop (d.length + 1)) = _
  rw [List.take_succ_cons, List.drop_succ_cons, List.take_left, List.drop_left]
theorem KT.num {d x : List UInt8} {ks : List (Int × List UInt8)} (h : numOk false d = true) (h1 : isDigit (hd x) = false) (h2 : isLetter (hd x) = false) (hk : KT x ks) : KT (d ++ x) ((3, d) :: ks) := by
  have := one_num h h1 h2
  have hc := numOk_hd h
  cases hw : d with
  | nil => exact absurd hw (numOk_ne h)
  | cons c r =>
    rw [hw] at this hc
    obtain ⟨_, e2, e3⟩ := digit_not hc
    exact .tok (wh_non e2 (.inl e3)) this hk
theorem KT.neg {d x : List UInt8} {ks : List (Int × List UInt8)} (h : numOk true d = true) (h1 : isDigit (hd x) = false) (h2 : isLetter (hd x) = false) (hk : KT x ks) : KT (45 :: (d ++ x)) ((3, 45 :: d) :: ks) := by
  have hc := numOk_hd h
  refine .tok (wh_non rfl (.inr ?_)) (one_neg h h1 h2) hk
  rw [hd_appl (numOk_ne h)]
  exact (digit_not hc).2.2

/-! ### Signs -/
/-- May that stand behind a sign? -/
def sgN (s : List UInt8) (d : UInt8) : Bool := !(decide (s = [91]) && decide (d = 91)) && !(decide (s = [93]) && decide (d = 93)) && !(decide (s = [46, 46]) && decide (d = 46)) && !(decide (s = [58]) && decide (d = 58))
theorem sg_app {s : List UInt8} (hs : s ∈ sgs) {x : List UInt8} (h : sgN s (hd x) = true) : sg (s ++ x) = s.length := by
  have n1 : ∀ (p c : UInt8) (r : List UInt8), hd r ≠ c → isPre [p, c] (p :: r) = false := fun p c r h => by
    cases r with
    | nil => show (bif decide (p = p) then false else false) = false; cases decide (p = p) <;> rfl
    | cons d r =>
      have : ¬ c = d := fun e => h e.symm
      show (bif decide (p = p) then (bif decide (c = d) then true else false) else false) = false
      rw [decide_eq_false this]; cases decide (p = p) <;> rfl
  have n2 : ∀ (p q c : UInt8) (r : List UInt8), hd r ≠ c → isPre [p, q, c] (p :: q :: r) = false := fun p q c r h => by
    cases r with
    | nil => show (bif decide (p = p) then (bif decide (q = q) then false else false) else false) = false; cases decide (p = p) <;> cases decide (q = q) <;> rfl
    | cons d r =>
      have : ¬ c = d := fun e => h e.symm
      show (bif decide (p = p) then (bif decide (q = q) then (bif decide (c = d) then true else false) else false) else false) = false
      rw [decide_eq_false this]; cases decide (p = p) <;> cases decide (q = q) <;> rfl
  have n3 : ∀ (p q c : UInt8) (r : List UInt8), hd r ≠ q → isPre [p, q, c] (p :: r) = false := fun p q c r h => by
    cases r with
    | nil => show (bif decide (p = p) then false else false) = false; cases decide (p = p) <;> rfl
    | cons d r =>
      have : ¬ q = d := fun e => h e.symm
      show (bif decide (p = p) then (bif decide (q = d) then isPre [c] r else false) else false) = false
      rw [decide_eq_false this]; cases decide (p = p) <;> rfl
  unfold sgN at h
  simp only [Bool.and_eq_true] at h
  obtain ⟨⟨⟨h1, h2⟩, h3⟩, h4⟩ := h
  have sp : ∀ {s' : List UInt8} {d : UInt8}, s = s' → (!(decide (s = s') && decide (hd x = d))) = true → hd x ≠ d := fun {s' d} e h hd => by
    rw [decide_eq_true e, decide_eq_true hd] at h; cases h
  simp only [sgs, List.mem_cons, List.not_mem_nil, or_false] at hs
  rcases hs with e | e | e | e | e | e | e | e | e | e | e | e | e
  · subst e; rfl
  · subst e; rfl
  · have := sp e h3
    subst e
    show (bif isPre [46, 46, 46] (46 :: 46 :: x) then 3 else 2) = 2
    rw [n2 _ _ _ _ this]; rfl
  · subst e; rfl
  · subst e; rfl
  · subst e; rfl
  · subst e; rfl
  · have := sp e h1
    subst e
    show (bif isPre [91, 91] (91 :: x) then 2 else 1) = 1
    rw [n1 _ _ _ this]; rfl
  · have := sp e h2
    subst e
    show (bif isPre [93, 93] (93 :: x) then 2 else 1) = 1
    rw [n1 _ _ _ this]; rfl
  · subst e; rfl
  · subst e; rfl
  · subst e; rfl
  · have := sp e h4
    subst e
    show (bif isPre [58, 58, 61] (58 :: x) then 3 else 1) = 1
    rw [n3 _ _ _ _ this]; rfl
theorem one_sign {s : List UInt8} (hs : s ∈ sgs) {x : List UInt8} (h : sgN s (hd x) = true) : oneS (s ++ x) = some (6, s, x) ∧ wh .out (s ++ x) = s ++ x := by
  have hg := sg_app hs h
  have hl : 0 < s.length := by
    simp only [sgs, List.mem_cons, List.not_mem_nil, or_false] at hs
    rcases hs with e | e | e | e | e | e | e | e | e | e | e | e | e <;> subst e <;> decide
  have key : (bif decide (0 < sg (s ++ x)) then some ((6 : Int), (s ++ x).take (sg (s ++ x)), (s ++ x).drop (sg (s ++ x))) else none) = some (6, s, x) := by
    rw [hg, decide_eq_true hl, cond_true, List.take_left, List.drop_left]
  simp only [sgs, List.mem_cons, List.not_mem_nil, or_false] at hs
  rcases hs with e | e | e | e | e | e | e | e | e | e | e | e | e <;> subst e <;> exact ⟨key, rfl⟩
theorem KT.sign {s : List UInt8} (hs : s ∈ sgs) {x : List UInt8} {ks : List (Int × List UInt8)} (h : sgN s (hd x) = true) (hk : KT x ks) : KT (s ++ x) ((6, s) :: ks) := by
  obtain ⟨h1, h2⟩ := one_sign hs h
  cases hw : s ++ x with
  | nil => rw [hw] at h1; cases h1
  | cons c r =>
    rw [hw] at h1 h2
    exact .tok h2 h1 hk

def esc : List UInt8 → List UInt8
  | [] => []
  | c :: s => if c = 34 then 34 :: 34 :: esc s else c :: esc s
theorem qd_esc {x : List UInt8} (hx : hd x ≠ 34) : ∀ (s acc : List UInt8), qd false (esc s ++ 34 :: x) acc = bif Lib.validD (acc ++ s) then some (acc ++ s, x) else none
  | [], acc => by
    show (bif decide ((34 : UInt8) = 34) then bif decide (hd x = 34) then qd true x acc else bif Lib.validD acc then some (acc, x) else none else _) = _
    rw [decide_eq_false hx, List.append_nil]; rfl
  | c :: s, acc => by
    by_cases hc : c = 34
    · subst hc
      have := qd_esc hx s (acc ++ [34])
      rw [List.append_assoc] at this
      exact this
    · have := qd_esc hx s (acc ++ [c])
      rw [List.append_assoc] at this
      unfold esc
      rw [if_neg hc]
      show (bif decide (c = 34) then _ else qd false (esc s ++ 34 :: x) (acc ++ [c])) = _
      rw [decide_eq_false hc]
      exact this
theorem one_str {s x : List UInt8} (hx : hd x ≠ 34) (hv : Lib.validD s = true) : oneS (34 :: (esc s ++ 34 :: x)) = some (7, s, x) := by
  have := qd_esc hx s []
  rw [List.nil_append, hv, cond_true] at this
  show (match qd false (esc s ++ 34 :: x) [] with
    | none => none
    | some (t, r) => some ((7 : Int), t, r)) = _
  rw [this]
theorem KT.str {s x : List UInt8} {ks : List (Int × List UInt8)} (hx : hd x ≠ 34) (hv : Lib.validD s = true) (hk : KT x ks) : KT (34 :: (esc s ++ 34 :: x)) ((7, s) :: ks) :=
  .tok (wh_non rfl (.inl (by decide))) (one_str hx hv) hk
end Go.Proofs.YtnnijoepfgnlfaaDoor


namespace Go.Proofs.YtnnijoepfgnlfaaDoor
open Go.Sy
set_option linter.unusedVariables false

abbrev KS := List (Int × List UInt8)
structure Sg (L : List GTok) (a : Int) (ks : KS) : Prop where
  a0 : 0 ≤ a
  len : L.length ≤ 9000
  dr : (L.drop a.toNat).map kt = ks ++ [(0, [])]
theorem Sg.get {L a k ks} (h : Sg L a (k :: ks)) : ∃ t, L[a.toNat]? = some t ∧ kt t = k := by
  have h1 := h.dr
  cases hd : L.drop a.toNat with
  | nil => rw [hd] at h1; cases h1
  | cons t r =>
    rw [hd] at h1
    have e : L[a.toNat]? = some t := by
      have := List.getElem?_drop (xs := L) (i := a.toNat) (j := 0)
      rw [hd] at this
      simpa using this.symm
    exact ⟨t, e, (List.cons.inj h1).1⟩
theorem Sg.end_ {L a} (h : Sg L a []) : ∃ t, L[a.toNat]? = some t ∧ t.kind = 0 := by
  have h1 := h.dr
  cases hd : L.drop a.toNat with
  | nil => rw [hd] at h1; cases h1
  | cons t r =>
    rw [hd] at h1
    have e : L[a.toNat]? = some t := by
      have := List.getElem?_drop (xs := L) (i := a.toNat) (j := 0)
      rw [hd] at this
      simpa using this.symm
    exact ⟨t, e, congrArg Prod.fst (List.cons.inj h1).1⟩
theorem Sg.size {L a ks} (h : Sg L a ks) : a.toNat + ks.length + 1 = L.length := by
  have h1 := congrArg List.length h.dr
  simp only [List.length_map, List.length_drop, List.length_append, List.length_singleton] at h1
  omega
theorem Sg.tl {L a k ks} (h : Sg L a (k :: ks)) : Sg L (a + 1) ks := by
  refine ⟨by have := h.a0; omega, h.len, ?_⟩
  have h1 := h.dr
  have e : (a + 1).toNat = a.toNat + 1 := by have := h.a0; omega
  rw [e, ← List.drop_drop, List.map_drop, h1]; rfl
theorem Sg.app {L a} : ∀ {xs ks : KS}, Sg L a (xs ++ ks) → Sg L (a + xs.length) ks := by
  intro xs
  induction xs generalizing a with
  | nil => intro ks h; simpa using h
  | cons x xs ih =>
    intro ks h
    have := ih (ks := ks) (Sg.tl (k := x) h)
    rw [List.length_cons]
    rw [show a + ((xs.length + 1 : Nat) : Int) = a + 1 + (xs.length : Int) by omega]; exact this
theorem kt_kind {t : GTok} {k s} (h : kt t = (k, s)) : t.kind = k ∧ t.text = ⟨s⟩ := by
  unfold kt at h
  injection h with h1 h2
  exact ⟨h1, by cases ht : t.text with | mk b => rw [ht] at h2; exact congrArg Str.mk h2⟩
theorem getI_at {α : Type} {L : List α} {a : Int} {t : α} (h0 : 0 ≤ a) (h : L[a.toNat]? = some t) : getI L a = some t := by
  unfold getI
  cases a with
  | ofNat n => exact h
  | negSucc n => omega

section small
variable {L : List GTok} {a : Int} {m : GMod} {ks : KS} {k : Int} {s t : List UInt8} {p : Int}
theorem now_at (h : Sg L a ((k, t) :: ks)) {e : Int} : ∃ y, r05_parser_now ⟨L, a, m, e, p⟩ = some (y, ⟨L, a, m, e, p⟩) ∧ y.kind = k ∧ y.text = ⟨t⟩ := by
  obtain ⟨y, h1, h2⟩ := h.get
  refine ⟨y, ?_, kt_kind h2⟩
  unfold r05_parser_now
  dsimp only
  rw [getI_at h.a0 h1]; rfl
theorem next_at (h : Sg L a ((k, t) :: ks)) {e : Int} : ∃ y, r05_parser_next ⟨L, a, m, e, p⟩ = some (y, ⟨L, a + 1, m, e, p⟩) ∧ y.kind = k ∧ y.text = ⟨t⟩ := by
  obtain ⟨y, h1, h2⟩ := h.get
  refine ⟨y, ?_, kt_kind h2⟩
  have hs := h.size
  have h0 := h.a0
  have hl := h.len
  simp only [List.length_cons] at hs
  refine T.fin ?_
  unfold r05_parser_next
  refine T.eq (getI_at h.a0 h1) (T.ck (by dsimp only; omega) (T.jp0 (T.br (fun _ => T.ck (by dsimp only; omega) (T.some rfl)) fun h3 => ?_)))
  have h3 := of_decide_eq_false h3
  exact absurd (by dsimp only; omega) h3
def isK (k : Int) (t s : List UInt8) : Bool := (decide (k = 5) || decide (k = 6)) && decide (t = s)
theorem is_no (h : Sg L a ((k, t) :: ks)) (hn : isK k t s = false) : r05_parser_is ⟨L, a, m, 0, p⟩ ⟨s⟩ = some (false, ⟨L, a, m, 0, p⟩) := by
  obtain ⟨y, h1, h2, h3⟩ := now_at (m := m) (p := p) (e := 0) h
  unfold isK at hn
  refine T.fin ?_
  unfold r05_parser_is
  refine T.eq h1 ?_
  dsimp only
  rw [h2, h3]
  refine T.jp (fun b => b = (decide (k = 5) || decide (k = 6))) (fun J hJ => T.br (fun _ => T.jp0 (T.br (fun h => hJ _ (by rw [h]; rfl)) fun h => hJ _ (by rw [h]; rfl))) fun h => by cases h) fun b hb => ?_
  subst hb
  refine T.jp (fun b => b = false) (fun J hJ => T.br (fun h => hJ _ ?_) fun h => hJ _ rfl) fun b hb => ?_
  · rw [h] at hn
    refine decide_eq_false fun e => ?_
    injection e with e
    rw [decide_eq_true e] at hn; cases hn
  · subst hb; exact T.some rfl
theorem is_yes (h : Sg L a ((k, s) :: ks)) (hk : (decide (k = 5) || decide (k = 6)) = true) : r05_parser_is ⟨L, a, m, 0, p⟩ ⟨s⟩ = some (true, ⟨L, a + 1, m, 0, p⟩) := by
  obtain ⟨y, h1, h2, h3⟩ := now_at (m := m) (p := p) (e := 0) h
  obtain ⟨y', h4, _⟩ := next_at (m := m) (p := p) (e := 0) h
  refine T.fin ?_
  unfold r05_parser_is
  refine T.eq h1 ?_
  dsimp only
  rw [h2, h3]
  refine T.jp (fun b => b = true) (fun J hJ => T.br (fun _ => T.jp0 (T.br (fun h => hJ _ rfl) fun h => hJ _ (by rw [h] at hk; simpa using hk))) fun h => by cases h) fun b hb => ?_
  subst hb
  refine T.jp (fun b => b = true) (fun J hJ => T.br (fun h => hJ _ (decide_eq_true rfl)) fun h => by cases h) fun b hb => ?_
  subst hb
  refine T.br (fun _ => T.eq h4 (T.some rfl)) fun h => by cases h
theorem must_yes (h : Sg L a ((k, s) :: ks)) (hk : (decide (k = 5) || decide (k = 6)) = true) : r05_parser_must ⟨L, a, m, 0, p⟩ ⟨s⟩ = some ⟨L, a + 1, m, 0, p⟩ := by
  refine T.fin ?_
  unfold r05_parser_must
  refine T.jp0 (T.br (fun _ => T.eq (is_yes h hk) ?_) fun h => by cases h)
  exact T.br (fun h => by cases h) fun _ => T.some rfl
theorem kind_yes (h : Sg L a ((k, s) :: ks)) : r05_parser_kind ⟨L, a, m, 0, p⟩ k = some (⟨s⟩, ⟨L, a + 1, m, 0, p⟩) := by
  obtain ⟨y, h1, h2, h3⟩ := now_at (m := m) (p := p) (e := 0) h
  obtain ⟨y', h4, h5, h6⟩ := next_at (m := m) (p := p) (e := 0) h
  refine T.fin ?_
  unfold r05_parser_kind
  refine T.eq h1 ?_
  dsimp only
  rw [h2]
  refine T.jp (fun b => b = false) (fun J hJ => T.br (fun h => by cases h) fun _ => hJ _ (by rw [decide_eq_true rfl]; rfl)) fun b hb => ?_
  subst hb
  refine T.br (fun h => by cases h) fun _ => T.eq h4 (T.some ?_)
  rw [h6]
end small

/-! ### Bounds and sizes -/
section bounds
variable {L : List GTok} {a : Int} {m : GMod} {ks : KS}
structure Num (s : List UInt8) (v : Int) : Prop where
  ne : s ≠ []
  val : r05_Whole ⟨s⟩ = some v
theorem size_none {k : Int} {t : List UInt8} (hA : Sg L a ((k, t) :: ks)) (hn : isK k t [40] = false) : r05_parser_size ⟨L, a, m, 0, 0⟩ = some (⟨false, false, false, false, 0, 0⟩, ⟨L, a, m, 0, 0⟩) := by
  refine T.fin ?_
  unfold r05_parser_size
  exact T.eq (is_no hA hn) (T.br (fun _ => T.some rfl) fun h => by cases h)
end bounds
end Go.Proofs.YtnnijoepfgnlfaaDoor


namespace Go.Proofs.YtnnijoepfgnlfaaDoor
open Go.Sy
set_option linter.unusedVariables false

def zm (μ : GMark) : GNode := ⟨0, ⟨[]⟩, μ, ⟨false, false, false, false, 0, 0⟩, [], [], 0, false, 0⟩
@[reducible] def noM : GMark := ⟨false, 0, 0⟩
def addN (m : GMod) (ns : List GNode) : GMod := ⟨m.name, m.tagging, m.names, m.types, m.nodes ++ ns⟩
theorem addN_nil (m : GMod) : addN m [] = m := by unfold addN; rw [List.append_nil]
theorem addN_addN (m : GMod) (a b : List GNode) : addN (addN m a) b = addN m (a ++ b) := by unfold addN; dsimp only; rw [List.append_assoc]
theorem addN_len (m : GMod) (a : List GNode) : (addN m a).nodes.length = m.nodes.length + a.length := by unfold addN; dsimp only; rw [List.length_append]

structure TypK (h : Nat) (ts : KS) (sz : Nat) (ns : Nat → List GNode) : Prop where
  len : ∀ i, (ns i).length = sz
  go : ∀ {n : Nat} {d : Int} {L : List GTok} {a : Int} {m : GMod} {k : Int} {t : List UInt8} {ks : KS}, 4 * h ≤ n → 0 ≤ d → d + h ≤ 17 → Sg L a (ts ++ (k, t) :: ks) → isK k t [40] = false → m.nodes.length + sz ≤ 300 →
    r05_parser_typ n ⟨L, a, m, 0, 0⟩ d = some ((m.nodes.length : Int), ⟨L, a + ts.length, addN m (ns m.nodes.length), 0, 0⟩)
structure BaseK (h : Nat) (ts : KS) (sz : Nat) (ns : Nat → List GNode) (f : GMark → Nat → GNode) : Prop where
  len : ∀ i, (ns i).length = sz
  go : ∀ {n : Nat} {d : Int} {L : List GTok} {a : Int} {m : GMod} {k : Int} {t : List UInt8} {ks : KS} (μ : GMark), 4 * h + 3 ≤ n → 0 ≤ d → d + h ≤ 16 → Sg L a (ts ++ (k, t) :: ks) → isK k t [40] = false → m.nodes.length + sz ≤ 300 →
    r05_parser_base n ⟨L, a, m, 0, 0⟩ (zm μ) d = some (⟨L, a + ts.length, addN m (ns m.nodes.length), 0, 0⟩, f μ m.nodes.length)
def Beg (k : Int) (t : List UInt8) : Prop := ∀ y : GTok, y.kind = k → y.text = ⟨t⟩ → r05_begins y = some true
theorem beg_type (t : List UInt8) : Beg 1 t := fun y h1 h2 => by
  refine T.fin ?_
  unfold r05_begins
  rw [h1]
  refine T.lp (fun (k : Int) => 0 ≤ k) (fun (k : Int) => (10 - k).toNat) (Int.le_refl _) (by omega) fun L k hk hL => ?_
  refine T.br (fun h2 => ?_) fun _ => T.some (decide_eq_true rfl)
  have h2 : k < 10 := of_decide_eq_true h2
  refine T.get hk h2 fun y _ => T.jp (fun b => b = false) (fun J h3 => T.br (fun _ => T.jp0 (T.brF rfl (h3 _ rfl))) fun _ => h3 _ rfl) fun q hq => T.brF hq (T.ck (by omega) (hL _ (by omega) (by omega)))
theorem set_at {α : Type} (p : List α) (x y : α) (r : List α) : (p ++ x :: r).set p.length y = p ++ y :: r := by
  rw [List.set_append_right _ _ (Nat.le_refl _), Nat.sub_self]; rfl
theorem get_at {α : Type} (p : List α) (x : α) (r : List α) : (p ++ x :: r)[p.length]? = some x := by
  rw [List.getElem?_append_right (Nat.le_refl _), Nat.sub_self]; rfl
theorem typ_unf (n : Nat) : r05_parser_typ (n + 1) = r05_parser_typ_F (r05_parser_field n) (r05_parser_typ n) (r05_parser_base n) (r05_parser_fields n) := rfl
theorem typ_end {h : Nat} {bts : KS} {sz : Nat} {ns : Nat → List GNode} {f : GMark → Nat → GNode} (hb : BaseK h bts sz ns f) {n : Nat} {d : Int} {L : List GTok} {a : Int} {m : GMod} {k : Int} {t : List UInt8} {ks : KS} (μ : GMark) (h1 : 4 * h + 3 ≤ n) (h2 : 0 ≤ d) (h3 : d + h ≤ 16) (hA : Sg L a (bts ++ (k, t) :: ks)) (hk : isK k t [40] = false) (hm : m.nodes.length + (sz + 1) ≤ 300) (z : GNode) :
    T (fun r => r = ((m.nodes.length : Int), (⟨L, a + bts.length, addN m (f μ (m.nodes.length + 1) :: ns (m.nodes.length + 1)), 0, 0⟩ : GPar)))
      (cal (r05_parser_base n ⟨L, a, addN m [z], 0, 0⟩ (zm μ) d) fun y63 => br (!decide (y63.1.e = (0 : Int))) (some ((0 : Int), y63.1)) (asr (decide (0 ≤ ((m.nodes.length : Nat) : Int) ∧ ((m.nodes.length : Nat) : Int) < ((y63.1.m.nodes.length : Nat) : Int))) <| cal (y63.1.m.nodes[((m.nodes.length : Nat) : Int).toNat]?) fun y74 => some (((m.nodes.length : Nat) : Int), (GPar.mk y63.1.l y63.1.at_ (GMod.mk y63.1.m.name y63.1.m.tagging y63.1.m.names y63.1.m.types (y63.1.m.nodes.set (((m.nodes.length : Nat) : Int).toNat) y63.2)) y63.1.e y63.1.p)))) := by
  have e1 : (addN m [z]).nodes.length = m.nodes.length + 1 := by rw [addN_len]; rfl
  have hg := hb.go μ h1 h2 h3 hA hk (m := addN m [z]) (by rw [e1]; omega)
  rw [e1, addN_addN] at hg
  refine T.eq hg (T.brF rfl (T.asd ⟨by omega, ?_⟩ ?_))
  · dsimp only
    rw [addN_len]; simp only [List.length_append, List.length_cons]; omega
  · have e2 : (addN m ([z] ++ ns (m.nodes.length + 1))).nodes = m.nodes ++ z :: ns (m.nodes.length + 1) := rfl
    dsimp only
    rw [Int.toNat_natCast, e2, get_at, set_at]
    exact T.some rfl
theorem typ_un {h : Nat} {k0 : Int} {t0 : List UInt8} {bts : KS} {sz : Nat} {ns : Nat → List GNode} {f : GMark → Nat → GNode} (hb : BaseK h ((k0, t0) :: bts) sz ns f) (hg : Beg k0 t0) (hn : isK k0 t0 [91] = false) :
    TypK (h + 1) ((k0, t0) :: bts) (sz + 1) (fun i => f noM (i + 1) :: ns (i + 1)) := by
  refine ⟨fun i => by rw [List.length_cons, hb.len], ?_⟩
  intro n d L a m k t ks h1 h2 h3 hA hk hm
  obtain ⟨n, rfl⟩ : ∃ n', n = n' + 1 := ⟨n - 1, by omega⟩
  rw [typ_unf]
  obtain ⟨y, e1, e2, e3⟩ := now_at (m := m) (p := 0) (e := 0) hA
  refine T.fin ?_
  unfold r05_parser_typ_F
  refine T.brF rfl (T.eq e1 (T.eq (hg y e2 e3) (T.brF rfl ?_)))
  refine T.jp (fun b => b = false) (fun J hJ => T.brF (decide_eq_false (by omega)) (hJ _ (decide_eq_false (by dsimp only; omega)))) fun b hb' => T.brF hb' ?_
  refine T.abl (by dsimp only; simp only [List.length_singleton]; omega) (T.eq (is_no hA hn) (T.jp0 (T.brF rfl ?_)))
  exact typ_end hb noM (by omega) h2 (by omega) hA hk (by omega) _
/-! ### Bases -/
section bases
variable {n : Nat}
theorem base_unf (n : Nat) : r05_parser_base (n + 1) = r05_parser_base_F (r05_parser_field n) (r05_parser_typ n) (r05_parser_base n) (r05_parser_fields n) := rfl
theorem base_null : BaseK 0 [(5, [78, 85, 76, 76])] 0 (fun _ => []) (fun μ _ => { zm μ with kind := 4 }) := by
  refine ⟨fun _ => rfl, ?_⟩
  intro n d L a m k t ks μ h1 h2 h3 hA hk hm
  obtain ⟨n, rfl⟩ : ∃ n', n = n' + 1 := ⟨n - 1, by omega⟩
  rw [base_unf, addN_nil]
  obtain ⟨y, e1, e2, e3⟩ := now_at (m := m) (p := 0) (e := 0) hA
  refine T.fin ?_
  unfold r05_parser_base_F
  exact T.eq e1 (T.brF rfl (T.eq (is_no hA rfl) (T.brF rfl (T.eq (is_yes hA rfl) (T.brT rfl (T.some rfl))))))
theorem base_ref (nm : List UInt8) : BaseK 0 [(1, nm)] 0 (fun _ => []) (fun μ _ => { zm μ with kind := 11, name := ⟨nm⟩ }) := by
  refine ⟨fun _ => rfl, ?_⟩
  intro n d L a m k t ks μ h1 h2 h3 hA hk hm
  obtain ⟨n, rfl⟩ : ∃ n', n = n' + 1 := ⟨n - 1, by omega⟩
  rw [base_unf, addN_nil]
  obtain ⟨y, e1, e2, e3⟩ := now_at (m := m) (p := 0) (e := 0) hA
  obtain ⟨y', f1, f2, f3⟩ := next_at (m := m) (p := 0) (e := 0) hA
  refine T.fin ?_
  unfold r05_parser_base_F
  have no : ∀ s : List UInt8, r05_parser_is ⟨L, a, m, 0, 0⟩ ⟨s⟩ = some (false, ⟨L, a, m, 0, 0⟩) := fun s => is_no hA rfl
  refine T.eq e1 (T.brF rfl (T.eq (no _) (T.brF rfl (T.eq (no _) (T.brF rfl (T.eq (no _) (T.brF rfl (T.eq (no _) (T.brF rfl (T.eq (no _) (T.brF rfl (T.eq (no _) (T.brF rfl (T.eq (no _) (T.brF rfl (T.eq (no _) (T.brF rfl (T.eq (no _) (T.brF rfl (T.brT (decide_eq_true e2) (T.eq f1 (T.some ?_))))))))))))))))))))))
  dsimp only
  rw [e3]; rfl
theorem base_of {h sz : Nat} {ts : KS} {ns : Nat → List GNode} (hT : TypK h ts sz ns) : BaseK h ((5, [83, 69, 81, 85, 69, 78, 67, 69]) :: (5, [79, 70]) :: ts) sz ns (fun μ i => { zm μ with kind := 10, of := (i : Int) }) := by
  refine ⟨hT.len, ?_⟩
  intro n d L a m k t ks μ h1 h2 h3 hA hk hm
  obtain ⟨n, rfl⟩ : ∃ n', n = n' + 1 := ⟨n - 1, by omega⟩
  rw [base_unf]
  obtain ⟨y, e1, e2, e3⟩ := now_at (m := m) (p := 0) (e := 0) hA
  have a1 := Sg.tl hA
  have a2 : Sg L (a + 1 + 1) (ts ++ (k, t) :: ks) := Sg.tl a1
  have no : ∀ s : List UInt8, isK 5 [83, 69, 81, 85, 69, 78, 67, 69] s = false → r05_parser_is ⟨L, a, m, 0, 0⟩ ⟨s⟩ = some (false, ⟨L, a, m, 0, 0⟩) := fun s hs => is_no hA hs
  refine T.fin ?_
  unfold r05_parser_base_F
  refine T.eq e1 (T.brF rfl (T.eq (no _ rfl) (T.brF rfl (T.eq (no _ rfl) (T.brF rfl (T.eq (no _ rfl) (T.brF rfl (T.eq (no _ rfl) (T.brF rfl (T.eq (no _ rfl) (T.brF rfl (T.eq (no _ rfl) (T.brF rfl (T.eq (no _ rfl) (T.brF rfl (T.eq (no _ rfl) (T.brF rfl (T.eq (is_yes hA rfl) (T.brT rfl (T.eq (is_no a1 rfl) (T.brF rfl (T.eq (size_none a1 rfl) (T.eq (must_yes a1 rfl) (T.ck (by omega) (T.eq (hT.go (by omega) (by omega) (by omega) a2 hk hm) (T.some ?_))))))))))))))))))))))))))
  have e : a + (((5, [83, 69, 81, 85, 69, 78, 67, 69]) :: (5, [79, 70]) :: ts : KS).length : Int) = a + 1 + 1 + (ts.length : Int) := by
    simp only [List.length_cons]; omega
  rw [e]; rfl
end bases
end Go.Proofs.YtnnijoepfgnlfaaDoor


namespace Go.Proofs.YtnnijoepfgnlfaaDoor
open Go.Sy
set_option linter.unusedVariables false

structure Fl where
  name : List UInt8
  ts : KS
  sz : Nat
  ns : Nat → List GNode
  tail : KS
  opt : Bool
  has : Bool
  df : Val
def Fl.toks (f : Fl) : KS := (2, f.name) :: (f.ts ++ f.tail)
def Fl.fl (f : Fl) (g : Int) (i : Nat) : GFld := ⟨⟨f.name⟩, (i : Int), f.opt, f.has, f.df, g⟩
@[reducible] def zv : Val := Val.mk 0 0 [] [] 0 []
def addF (n : GNode) (f : GFld) : GNode := ⟨n.kind, n.name, n.mark, n.con, n.items, n.fields ++ [f], n.root, n.more, n.of⟩
structure Sep (k : Int) (t : List UInt8) : Prop where
  par : isK k t [40] = false
  opt : isK k t [79, 80, 84, 73, 79, 78, 65, 76] = false
  dft : isK k t [68, 69, 70, 65, 85, 76, 84] = false
structure FldK (h : Nat) (kind : Int) (f : Fl) : Prop where
  len : ∀ i, (f.ns i).length = f.sz
  go : ∀ {n : Nat} {d : Int} {L : List GTok} {a : Int} {m : GMod} {k : Int} {t : List UInt8} {ks : KS} {nd : GNode} {g : Int}, 4 * h + 1 ≤ n → 0 ≤ d → d + h ≤ 16 → Sg L a (f.toks ++ (k, t) :: ks) → Sep k t → m.nodes.length + f.sz ≤ 300 → nd.kind = kind → nd.fields.length ≤ 1000 →
    r05_parser_field n ⟨L, a, m, 0, 0⟩ nd d g = some (⟨L, a + f.toks.length, addN m (f.ns m.nodes.length), 0, 0⟩, addF nd (f.fl g m.nodes.length))
/-! ### Some of them, with commas -/
def sepK : List KS → KS
  | [] => []
  | [x] => x
  | x :: y :: r => x ++ (6, [44]) :: sepK (y :: r)
/-! ### What stands within a bracket -/
inductive FI where
  | one (x : Fl)
  | dots
  | grp (l : List Fl)
def FI.toks : FI → KS
  | .one x => x.toks
  | .dots => [(6, [46, 46, 46])]
  | .grp l => (6, [91, 91]) :: (sepK (l.map Fl.toks) ++ [(6, [93, 93])])
end Go.Proofs.YtnnijoepfgnlfaaDoor


namespace Go.Proofs.YtnnijoepfgnlfaaDoor
open Go.Sy
set_option linter.unusedVariables false

/-! ### Modules -/
structure As where
  name : List UInt8
  ts : KS
  sz : Nat
  ns : Nat → List GNode
  h : Nat
structure AsK (x : As) : Prop where
  t : TypK x.h x.ts x.sz x.ns
  h : x.h ≤ 17
def As.toks (x : As) : KS := (1, x.name) :: (6, [58, 58, 61]) :: x.ts
def typesA : List As → Nat → List Int
  | [], _ => []
  | x :: r, i => (i : Int) :: typesA r (i + x.sz)
def nodesA : List As → Nat → List GNode
  | [], _ => []
  | x :: r, i => x.ns i ++ nodesA r (i + x.sz)
def szA (l : List As) : Nat := (l.map As.sz).sum
def tagT (g : Int) : KS := if g = 1 then [(5, [73, 77, 80, 76, 73, 67, 73, 84]), (5, [84, 65, 71, 83])] else if g = 2 then [(5, [65, 85, 84, 79, 77, 65, 84, 73, 67]), (5, [84, 65, 71, 83])] else if g = 3 then [(5, [69, 88, 80, 76, 73, 67, 73, 84]), (5, [84, 65, 71, 83])] else []
def tagOf (g : Int) : Int := if g = 1 then 1 else if g = 2 then 2 else 0
def modT (nm : List UInt8) (g : Int) (l : List As) : KS := (1, nm) :: (5, [68, 69, 70, 73, 78, 73, 84, 73, 79, 78, 83]) :: (tagT g ++ (6, [58, 58, 61]) :: (5, [66, 69, 71, 73, 78]) :: (l.flatMap As.toks ++ [(5, [69, 78, 68])]))
def modM (nm : List UInt8) (g : Int) (l : List As) : GMod := ⟨⟨nm⟩, tagOf g, l.map fun x => ⟨x.name⟩, typesA l 0, nodesA l 0⟩
theorem typesA_snoc : ∀ {a : List As} {x : As} {i : Nat}, typesA (a ++ [x]) i = typesA a i ++ [((i + szA a : Nat) : Int)]
  | [], x, i => by show [(i : Int)] = [] ++ [((i + 0 : Nat) : Int)]; rfl
  | y :: r, x, i => by
    show (i : Int) :: typesA (r ++ [x]) (i + y.sz) = (i : Int) :: (typesA r (i + y.sz) ++ _)
    rw [typesA_snoc]
    have : szA (y :: r) = y.sz + szA r := by unfold szA; simp
    rw [this, Nat.add_assoc]
theorem nodesA_snoc : ∀ {a : List As} {x : As} {i : Nat}, nodesA (a ++ [x]) i = nodesA a i ++ x.ns (i + szA a)
  | [], x, i => by show x.ns i ++ [] = [] ++ x.ns (i + 0); rw [List.append_nil]; rfl
  | y :: r, x, i => by
    show y.ns i ++ nodesA (r ++ [x]) (i + y.sz) = y.ns i ++ nodesA r (i + y.sz) ++ _
    rw [nodesA_snoc]
    have : szA (y :: r) = y.sz + szA r := by unfold szA; simp
    rw [this, Nat.add_assoc, List.append_assoc]
theorem nodesA_len : ∀ {a : List As} {i : Nat}, (∀ x ∈ a, AsK x) → (nodesA a i).length = szA a
  | [], _, _ => rfl
  | y :: r, i, h => by
    have := nodesA_len (a := r) (i := i + y.sz) fun x hx => h x (List.mem_cons_of_mem _ hx)
    show (y.ns i ++ nodesA r (i + y.sz)).length = _
    rw [List.length_append, this, (h y (List.mem_cons_self ..)).t.len]; unfold szA; simp
theorem parse_mod {s : Str} {nm : List UInt8} {g : Int} (hg : 0 ≤ g ∧ g ≤ 3) {l : List As} (hk : KT s.b (modT nm g l)) (hs : s.b.length ≤ 8000) (hl : l.length ≤ 40) (hz : szA l ≤ 300) (hF : ∀ x ∈ l, AsK x) :
    r05_Parse s = some (modM nm g l, 0, 0) := by
  obtain ⟨ts, e1, e2⟩ := toks_KT hk hs
  have htk := (tokens_tot s).get? (tokens_eq s) (by rw [e1])
  rw [e1] at htk
  have hlen : ts.length ≤ 8001 := htk.len
  have hA : Sg ts 0 (modT nm g l) := ⟨Int.le_refl _, by omega, by rw [show (0 : Int).toNat = 0 from rfl, List.drop_zero]; exact e2⟩
  refine T.fin ?_
  unfold r05_Parse
  refine T.eq (tokens_eq s) ?_
  rw [e1]
  have a1 := Sg.tl hA
  have a2 := Sg.tl a1
  refine T.brF rfl (T.eq (kind_yes hA) (T.eq (must_yes a1 rfl) ?_))
  have a3 := Sg.app (L := ts) (xs := tagT g) a2
  refine T.jp (fun x => x = (⟨ts, 0 + 1 + 1 + (tagT g).length, ⟨⟨nm⟩, tagOf g, [], [], []⟩, 0, 0⟩ : GPar)) (fun J hJ => ?_) fun x hx => ?_
  · have hc : g = 0 ∨ g = 1 ∨ g = 2 ∨ g = 3 := by omega
    rcases hc with rfl | rfl | rfl | rfl
    · have b : Sg ts (0 + 1 + 1) ((6, [58, 58, 61]) :: (5, [66, 69, 71, 73, 78]) :: (l.flatMap As.toks ++ [(5, [69, 78, 68])])) := a2
      exact T.eq (is_no b rfl) (T.brF rfl (T.eq (is_no b rfl) (T.brF rfl (T.eq (is_no b rfl) (T.brF rfl (hJ _ rfl))))))
    · have b : Sg ts (0 + 1 + 1) ((5, [73, 77, 80, 76, 73, 67, 73, 84]) :: (5, [84, 65, 71, 83]) :: (6, [58, 58, 61]) :: (5, [66, 69, 71, 73, 78]) :: (l.flatMap As.toks ++ [(5, [69, 78, 68])])) := a2
      exact T.eq (is_no b rfl) (T.brF rfl (T.eq (is_yes b rfl) (T.brT rfl (T.eq (must_yes b.tl rfl) (hJ _ rfl)))))
    · have b : Sg ts (0 + 1 + 1) ((5, [65, 85, 84, 79, 77, 65, 84, 73, 67]) :: (5, [84, 65, 71, 83]) :: (6, [58, 58, 61]) :: (5, [66, 69, 71, 73, 78]) :: (l.flatMap As.toks ++ [(5, [69, 78, 68])])) := a2
      exact T.eq (is_no b rfl) (T.brF rfl (T.eq (is_no b rfl) (T.brF rfl (T.eq (is_yes b rfl) (T.brT rfl (T.eq (must_yes b.tl rfl) (hJ _ rfl)))))))
    · have b : Sg ts (0 + 1 + 1) ((5, [69, 88, 80, 76, 73, 67, 73, 84]) :: (5, [84, 65, 71, 83]) :: (6, [58, 58, 61]) :: (5, [66, 69, 71, 73, 78]) :: (l.flatMap As.toks ++ [(5, [69, 78, 68])])) := a2
      exact T.eq (is_yes b rfl) (T.brT rfl (T.eq (must_yes b.tl rfl) (hJ _ rfl)))
  subst hx
  have a4 := Sg.tl a3
  have a5 := Sg.tl a4
  refine T.eq (must_yes a3 rfl) (T.eq (must_yes a4 rfl) ?_)
  generalize hb : (0 : Int) + 1 + 1 + ((tagT g).length : Int) + 1 + 1 = b at a5
  have hb0 := a5.a0
  have hbz := a5.size
  refine T.lp (ι := GPar) (fun x => ∃ (dn rest : List As) (a : Int), l = dn ++ rest ∧ x = ⟨ts, a, ⟨⟨nm⟩, tagOf g, dn.map fun x => ⟨x.name⟩, typesA dn 0, nodesA dn 0⟩, 0, 0⟩ ∧ Sg ts a (rest.flatMap As.toks ++ [(5, [69, 78, 68])])) (fun x => ((ts.length : Int) - x.at_).toNat) ⟨[], l, b, rfl, rfl, a5⟩ (by dsimp only; omega) fun L x hx hL => ?_
  obtain ⟨dn, rest, a, hdr, rfl, ha⟩ := hx
  dsimp only at hL ⊢
  cases rest with
  | nil =>
    rw [List.append_nil] at hdr
    subst hdr
    have ha' : Sg ts a [(5, [69, 78, 68])] := ha
    refine T.jp0 (T.brT rfl (T.eq (is_yes ha' rfl) (T.brF rfl ?_)))
    obtain ⟨y, y1, y2⟩ := ha'.tl.end_
    refine T.jp0 (T.brT rfl (T.eq (y := (y, (⟨ts, a + 1, ⟨⟨nm⟩, tagOf g, l.map fun x => ⟨x.name⟩, typesA l 0, nodesA l 0⟩, 0, 0⟩ : GPar))) (by unfold r05_parser_now; dsimp only; rw [getI_at ha'.tl.a0 y1]; rfl) ?_))
    refine T.jp0 (T.brF (by dsimp only; rw [y2]; rfl) (T.brF rfl (T.some rfl)))
  | cons x rest =>
    have hx := hF x (by rw [hdr]; exact List.mem_append_right _ (List.mem_cons_self ..))
    have hll : dn.length + (rest.length + 1) ≤ 40 := by rw [hdr, List.length_append, List.length_cons] at hl; exact hl
    have hzz : szA dn + x.sz ≤ 300 := by
      have : szA l = szA dn + (x.sz + szA rest) := by rw [hdr]; unfold szA; simp
      omega
    have hdk : ∀ y ∈ dn, AsK y := fun y hy => hF y (by rw [hdr]; exact List.mem_append_left _ hy)
    have hnl : (nodesA dn 0).length = szA dn := nodesA_len hdk
    have htl : (typesA dn 0).length = dn.length := by
      have : ∀ (a : List As) (i : Nat), (typesA a i).length = a.length := fun a => by
        induction a with
        | nil => intro i; rfl
        | cons y r ih => intro i; show (typesA r (i + y.sz)).length + 1 = _; rw [ih]; rfl
      exact this _ _
    have ha1 : Sg ts a ((1, x.name) :: (6, [58, 58, 61]) :: (x.ts ++ (rest.flatMap As.toks ++ [(5, [69, 78, 68])]))) := by
      have e : (x :: rest).flatMap As.toks ++ [(5, [69, 78, 68])] = (1, x.name) :: (6, [58, 58, 61]) :: (x.ts ++ (rest.flatMap As.toks ++ [(5, [69, 78, 68])])) := by
        show As.toks x ++ rest.flatMap As.toks ++ _ = _
        unfold As.toks; simp
      rw [e] at ha; exact ha
    have ha2 := Sg.tl ha1
    have ha3 := Sg.tl ha2
    have hnx : ∃ k t ks', rest.flatMap As.toks ++ [(5, [69, 78, 68])] = (k, t) :: ks' ∧ isK k t [40] = false := by
      cases rest with
      | nil => exact ⟨5, [69, 78, 68], [], rfl, rfl⟩
      | cons y r => exact ⟨1, y.name, _, rfl, rfl⟩
    obtain ⟨k, t, ks', ek, hkt⟩ := hnx
    have ha3' := ha3
    rw [ek] at ha3'
    obtain ⟨y, f1, f2, f3⟩ := now_at (m := ⟨⟨nm⟩, tagOf g, dn.map fun x => ⟨x.name⟩, typesA dn 0, nodesA dn 0⟩) (p := 0) (e := 0) ha1
    have hty := hx.t.go (n := fuel) (d := 0) (m := ⟨⟨nm⟩, tagOf g, dn.map fun x => ⟨x.name⟩, typesA dn 0, nodesA dn 0⟩) (by have := hx.h; unfold fuel; omega) (Int.le_refl _) (by have := hx.h; omega) ha3' hkt (by dsimp only; rw [hnl]; exact hzz)
    dsimp only at hty
    rw [hnl] at hty
    have hsz := ha3.size
    have hal := ha3.app.size
    have ha0 := ha1.a0
    refine T.jp0 (T.brT rfl (T.eq (is_no ha1 rfl) (T.brT rfl (T.eq f1 (T.eq (kind_yes ha1) ?_)))))
    refine T.jp (fun b => b = false) (fun J hJ => T.brT rfl (hJ _ (decide_eq_false (by dsimp only; rw [List.length_map]; omega)))) fun b hb2 => ?_
    subst hb2
    refine T.jp0 (T.brF rfl (T.eq (must_yes ha2 rfl) (T.eq hty (T.abl ?_ (T.abl ?_ (hL _ ⟨dn ++ [x], rest, a + 1 + 1 + (x.ts.length : Int), by rw [hdr, List.append_assoc]; rfl, ?_, ha3.app⟩ ?_))))))
    · show (dn.map fun x => (⟨x.name⟩ : Str)).length + 1 ≤ _; rw [List.length_map]; omega
    · show (typesA dn 0).length + 1 ≤ _; rw [htl]; omega
    · dsimp only
      rw [List.map_append, typesA_snoc, nodesA_snoc, Nat.zero_add]; rfl
    · dsimp only; omega
end Go.Proofs.YtnnijoepfgnlfaaDoor


namespace Go.Proofs.YtnnijoepfgnlfaaDoor
open Go.Sy
set_option linter.unusedVariables false
set_option maxRecDepth 4000

def dgl (v : Nat) : List UInt8 := match h_Digits 20 (UInt64.ofNat v) with
  | some s => s.b
  | none => []
def nameOk (w : List UInt8) (k : Int) : Bool := isLetter (hd w) && nmAll w 32 && !decide (w.getLast? = some 45) && decide (w.length ≤ 60) && decide (kindN w = k)
def dgOk (v : Nat) : Bool := (match h_Digits 20 (UInt64.ofNat v) with
  | some s => decide (s.b = dgl v)
  | none => false) && numOk false (dgl v) && decide (r05_Whole ⟨dgl v⟩ = some (v : Int)) && decide ((dgl v).length ≤ 3) && nameOk (102 :: dgl v) 2 && nameOk (84 :: dgl v) 1 && nameOk (105 :: dgl v) 2 && nameOk (97 :: dgl v) 2 && decide (dval (dgl v) = v)
theorem dg_all : (List.range 256).all dgOk = true := by kernel_rfl
structure Dg (v : Nat) : Prop where
  eq : h_Digits fuel (UInt64.ofNat v) = some ⟨dgl v⟩
  num : numOk false (dgl v) = true
  val : Num (dgl v) v
  len : (dgl v).length ≤ 3
  f : nameOk (102 :: dgl v) 2 = true
  t : nameOk (84 :: dgl v) 1 = true
  i : nameOk (105 :: dgl v) 2 = true
  a : nameOk (97 :: dgl v) 2 = true
  inj : dval (dgl v) = v
theorem digits_mono : ∀ {n m : Nat} {v : UInt64} {s : Str}, h_Digits n v = some s → n ≤ m → h_Digits m v = some s
  | 0, _, _, _, h, _ => by cases h
  | n + 1, m, v, s, h, hm => by
    obtain ⟨m, rfl⟩ : ∃ m', m = m' + 1 := ⟨m - 1, by omega⟩
    have h : h_Digits_F (h_Digits n) v = some s := h
    show h_Digits_F (h_Digits m) v = some s
    unfold h_Digits_F at h ⊢
    cases hb : decide (v < (10 : UInt64)) with
    | true => rw [hb] at h; exact h
    | false =>
      rw [hb] at h
      have h : jp (ι := Str) (fun J3 => asr (!decide ((10 : UInt64) = 0)) <| asr (!decide ((10 : UInt64) = 0)) <| cal (h_Digits n (v / (10 : UInt64))) fun y6 => asr (Nat.ble (y6.b.length + (Str.mk ([((48 : UInt64) + (v % (10 : UInt64))).toUInt8] : (List UInt8))).b.length) 4611686018427387904) <| J3 ((Str.mk (y6.b ++ (Str.mk ([((48 : UInt64) + (v % (10 : UInt64))).toUInt8] : (List UInt8))).b)))) (fun q2 => some (q2)) = some s := h
      refine jp_inv h fun J hJ h => asr_inv h fun h1 h => asr_inv h fun h2 h => cal_inv h fun y hy h => ?_
      subst hJ
      have := digits_mono hy (by omega : n ≤ m)
      show asr (!decide ((10 : UInt64) = 0)) (asr (!decide ((10 : UInt64) = 0)) (cal (h_Digits m (v / (10 : UInt64))) _)) = _
      rw [this]
      exact h
theorem dgs (v : Nat) (hv : v < 256) : Dg v := by
  have h := List.all_eq_true.1 dg_all v (List.mem_range.2 hv)
  unfold dgOk at h
  simp only [Bool.and_eq_true, decide_eq_true_eq] at h
  obtain ⟨⟨⟨⟨⟨⟨⟨⟨h1, h2⟩, h3⟩, h4⟩, h5⟩, h6⟩, h7⟩, h8⟩, h9⟩ := h
  have he : h_Digits 20 (UInt64.ofNat v) = some ⟨dgl v⟩ := by
    cases hd : h_Digits 20 (UInt64.ofNat v) with
    | none => rw [hd] at h1; cases h1
    | some s =>
      rw [hd] at h1
      have : s.b = dgl v := of_decide_eq_true h1
      rw [← this]
  exact ⟨digits_mono he (by unfold fuel; omega), h2, ⟨numOk_ne h2, h3⟩, h4, h5, h6, h7, h8, h9⟩
theorem dgl_inj {v w : Nat} (hv : v < 256) (hw : w < 256) (h : dgl v = dgl w) : v = w := by
  rw [← (dgs v hv).inj, ← (dgs w hw).inj, h]

theorem KT.word {w x : List UInt8} {k : Int} {ks : KS} (h : nameOk w k = true) (hx : KT (32 :: x) ks) : KT (w ++ 32 :: x) ((k, w) :: ks) := by
  unfold nameOk at h
  simp only [Bool.and_eq_true, decide_eq_true_eq, Bool.not_eq_true', decide_eq_false_iff_not] at h
  obtain ⟨⟨⟨⟨h1, h2⟩, h3⟩, h4⟩, h5⟩ := h
  have := KT.name (x := 32 :: x) h1 h2 rfl h3 h4 hx
  rw [h5] at this
  exact this
end Go.Proofs.YtnnijoepfgnlfaaDoor


namespace Go.Proofs.YtnnijoepfgnlfaaDoor
open Go.Sy
set_option maxRecDepth 4000
def tokF (s : Str) : Option (List GTok × Int × Int) := some (toks s.b)
theorem tokF_eq : r04_Tokens = tokF := funext tokens_eq
def r05_ParseF (a_text : Str) : Option (GMod × Int × Int) :=
  cal (tokF a_text) fun y2 => br (!decide (y2.2.2 = (0 : Int))) (some ((GMod.mk (Str.mk []) (0 : Int) ([] : (List Str)) ([] : (List Int)) ([] : (List GNode))), y2.2.1, y2.2.2)) (cal (r05_parser_kind (GPar.mk y2.1 (0 : Int) (GMod.mk (Str.mk []) (0 : Int) ([] : (List Str)) ([] : (List Int)) ([] : (List GNode))) (0 : Int) (0 : Int)) (1 : Int)) fun y7 => cal (r05_parser_must (GPar.mk y7.2.l y7.2.at_ (GMod.mk y7.1 y7.2.m.tagging y7.2.m.names y7.2.m.types y7.2.m.nodes) y7.2.e y7.2.p) (Str.mk [68, 69, 70, 73, 78, 73, 84, 73, 79, 78, 83])) fun y10 => jp (ι := GPar) (fun J14 => cal (r05_parser_is y10 (Str.mk [69, 88, 80, 76, 73, 67, 73, 84])) fun y15 => br y15.1 (cal (r05_parser_must y15.2 (Str.mk [84, 65, 71, 83])) fun y18 => J14 (y18)) (cal (r05_parser_is y15.2 (Str.mk [73, 77, 80, 76, 73, 67, 73, 84])) fun y21 => br y21.1 (cal (r05_parser_must (GPar.mk y21.2.l y21.2.at_ (GMod.mk y21.2.m.name (1 : Int) y21.2.m.names y21.2.m.types y21.2.m.nodes) y21.2.e y21.2.p) (Str.mk [84, 65, 71, 83])) fun y24 => J14 (y24)) (cal (r05_parser_is y21.2 (Str.mk [65, 85, 84, 79, 77, 65, 84, 73, 67])) fun y27 => br y27.1 (cal (r05_parser_must (GPar.mk y27.2.l y27.2.at_ (GMod.mk y27.2.m.name (2 : Int) y27.2.m.names y27.2.m.types y27.2.m.nodes) y27.2.e y27.2.p) (Str.mk [84, 65, 71, 83])) fun y30 => J14 (y30)) (J14 (y27.2))))) (fun q13 => cal (r05_parser_must q13 (Str.mk [58, 58, 61])) fun y33 => cal (r05_parser_must y33 (Str.mk [66, 69, 71, 73, 78])) fun y36 => lp (ι := GPar) (fun L40 q39 => jp (ι := Bool × GPar) (fun J92 => br (decide (q39.e = (0 : Int))) (cal (r05_parser_is q39 (Str.mk [69, 78, 68])) fun y94 => J92 ((!y94.1), y94.2)) (J92 (false, q39))) (fun q91 => br q91.1 (cal (r05_parser_now q91.2) fun y97 => cal (r05_parser_kind y97.2 (1 : Int)) fun y101 => jp (ι := Bool) (fun J105 => br (decide (y101.2.e = (0 : Int))) (J105 ((decide ((40 : Int) ≤ (y101.2.m.names.length : Int))))) (J105 (false))) (fun q104 => jp (ι := GPar) (fun J108 => br q104 (cal (r05_parser_fail y101.2 (5 : Int) y97.1) fun y109 => J108 (y109)) (J108 (y101.2))) (fun q107 => cal (r05_parser_must q107 (Str.mk [58, 58, 61])) fun y112 => cal (r05_parser_typ fuel y112 (0 : Int)) fun y115 => asr (Nat.ble (y115.2.m.names.length + ([y101.1] : (List Str)).length) 68719476736) <| asr (Nat.ble (y115.2.m.types.length + ([y115.1] : (List Int)).length) 68719476736) <| L40 ((GPar.mk y115.2.l y115.2.at_ (GMod.mk y115.2.m.name y115.2.m.tagging (y115.2.m.names ++ ([y101.1] : (List Str))) (y115.2.m.types ++ ([y115.1] : (List Int))) y115.2.m.nodes) y115.2.e y115.2.p))))) (jp (ι := Bool × GPar) (fun J126 => br (decide (q91.2.e = (0 : Int))) (cal (r05_parser_now q91.2) fun y128 => J126 ((!decide (y128.1.kind = (0 : Int))), y128.2)) (J126 (false, q91.2))) (fun q125 => jp (ι := GPar) (fun J132 => br q125.1 (cal (r05_parser_now q125.2) fun y133 => cal (r05_parser_fail y133.2 (7 : Int) y133.1) fun y136 => J132 (y136)) (J132 (q125.2))) (fun q131 => br (!decide (q131.e = (0 : Int))) (some ((GMod.mk (Str.mk []) (0 : Int) ([] : (List Str)) ([] : (List Int)) ([] : (List GNode))), q131.p, q131.e)) (some (q131.m, (0 : Int), (0 : Int)))))))) ((y36))))
theorem r05_ParseF_eq : r05_Parse = r05_ParseF := by
  funext a_text
  unfold r05_Parse r05_ParseF
  rw [tokF_eq]
def law07_awakeF : Option (Bool) :=
  cal (r05_ParseF (Str.mk [77, 32, 68, 69, 70, 73, 78, 73, 84, 73, 79, 78, 83, 32, 58, 58, 61, 32, 66, 69, 71, 73, 78, 32, 65, 32, 58, 58, 61, 32, 66, 32, 66, 32, 58, 58, 61, 32, 78, 85, 76, 76, 32, 69, 78, 68])) fun y1 => cal (refs_Order y1.1) fun y3 => jp (ι := Bool) (fun J5 => br (decide (y3.2.2 = (0 : Int))) (J5 ((decide ((y3.1.length : Int) = (2 : Int))))) (J5 (false))) (fun q4 => jp (ι := Bool) (fun J8 => br q4 (cal (getI y3.1 (0 : Int)) fun y10 => J8 ((decide (y10 = (1 : Int))))) (J8 (false))) (fun q7 => jp (ι := Bool) (fun J12 => br q7 (cal (refs_Find y1.1 (Str.mk [66])) fun y14 => J12 ((decide (y14 = (1 : Int))))) (J12 (false))) (fun q11 => some (q11))))
theorem law07_awakeF_eq : law07_awake = law07_awakeF := by
  unfold law07_awake law07_awakeF
  rw [r05_ParseF_eq]
end Go.Proofs.YtnnijoepfgnlfaaDoor


namespace Go.Proofs.YtnnijoepfgnlfaaDoor
open Go.Sy
set_option linter.unusedVariables false
set_option maxRecDepth 4000

theorem awake07 : law07_awake = some true := by rw [law07_awakeF_eq]; kernel_rfl
@[reducible] def nmT (v : Nat) : List UInt8 := 84 :: dgl v
def seqW : List UInt8 := [83, 69, 81, 85, 69, 78, 67, 69]
def nullN : GNode := { zm noM with kind := 4 }
def refN (v : Nat) : GNode := { zm noM with kind := 11, name := ⟨nmT v⟩ }
def ofN (i : Nat) : GNode := { zm noM with kind := 10, of := ((i : Nat) : Int) }
def asC (n v : Nat) : As := if v + 1 < n then ⟨nmT v, (5, seqW) :: (5, [79, 70]) :: [(1, nmT (v + 1))], 2, fun i => [ofN (i + 1), refN (v + 1)], 2⟩ else ⟨nmT v, [(5, [78, 85, 76, 76])], 1, fun i => [nullN], 1⟩
theorem asC_K (n v : Nat) : AsK (asC n v) := by
  unfold asC
  split
  · have h1 := typ_un (base_ref (nmT (v + 1))) (beg_type _) rfl
    have hB : Beg 5 [83, 69, 81, 85, 69, 78, 67, 69] := fun ⟨_, _, _⟩ h1 h2 => by dsimp only at h1 h2; subst h1; subst h2; kernel_rfl
    exact ⟨typ_un (base_of h1) hB rfl, by show 2 ≤ 17; omega⟩
  · have hB : Beg 5 [78, 85, 76, 76] := fun ⟨_, _, _⟩ h1 h2 => by dsimp only at h1 h2; subst h1; subst h2; kernel_rfl
    exact ⟨typ_un base_null hB rfl, by show 1 ≤ 17; omega⟩
def txC (n v : Nat) : List UInt8 := [32, 84] ++ (dgl v ++ ([32, 58, 58, 61, 32] ++ (if v + 1 < n then [83, 69, 81, 85, 69, 78, 67, 69, 32, 79, 70, 32, 84] ++ dgl (v + 1) else [78, 85, 76, 76])))
theorem txC_KT {n v : Nat} (hv : v < n) (hn : n ≤ 15) {x : List UInt8} {ks : KS} (hx : KT (32 :: x) ks) : KT (txC n v ++ 32 :: x) ((asC n v).toks ++ ks) := by
  have h1 : ∀ {y : List UInt8} {ks : KS}, KT (32 :: y) ks → KT (32 :: ((84 :: dgl v) ++ 32 :: y)) ((1, 84 :: dgl v) :: ks) := fun h => KT.sp (KT.word (dgs v (by omega)).t h)
  by_cases hc : v + 1 < n
  · have e : txC n v ++ 32 :: x = 32 :: ((84 :: dgl v) ++ 32 :: (58 :: 58 :: 61 :: 32 :: 83 :: 69 :: 81 :: 85 :: 69 :: 78 :: 67 :: 69 :: 32 :: 79 :: 70 :: 32 :: ((84 :: dgl (v + 1)) ++ 32 :: x))) := by
      unfold txC; rw [if_pos hc]; simp
    have et : (asC n v).toks ++ ks = (1, 84 :: dgl v) :: (6, [58, 58, 61]) :: (5, seqW) :: (5, [79, 70]) :: (1, nmT (v + 1)) :: ks := by
      unfold asC As.toks; rw [if_pos hc]; rfl
    rw [e, et]
    have h2 : KT (32 :: ((84 :: dgl (v + 1)) ++ 32 :: x)) ((1, 84 :: dgl (v + 1)) :: ks) := KT.sp (KT.word (dgs (v + 1) (by omega)).t hx)
    exact h1 (.tok rfl rfl (.tok rfl rfl (.tok rfl rfl h2)))
  · have e : txC n v ++ 32 :: x = 32 :: ((84 :: dgl v) ++ 32 :: (58 :: 58 :: 61 :: 32 :: 78 :: 85 :: 76 :: 76 :: 32 :: x)) := by
      unfold txC; rw [if_neg hc]; simp
    have et : (asC n v).toks ++ ks = (1, 84 :: dgl v) :: (6, [58, 58, 61]) :: (5, [78, 85, 76, 76]) :: ks := by
      unfold asC As.toks; rw [if_neg hc]; rfl
    rw [e, et]
    exact h1 (.tok rfl rfl (.tok rfl rfl hx))
def txsC (n : Nat) (vs : List Nat) : List UInt8 := vs.flatMap (txC n)
theorem txsC_KT {n : Nat} (hn : n ≤ 15) : ∀ {vs : List Nat} {x : List UInt8} {ks : KS}, (∀ v ∈ vs, v < n) → KT (32 :: x) ks → KT (txsC n vs ++ 32 :: x) ((vs.map (asC n)).flatMap As.toks ++ ks)
  | [], x, ks, _, hx => hx
  | v :: r, x, ks, hv, hx => by
    have ih := txsC_KT hn (vs := r) (fun u hu => hv u (List.mem_cons_of_mem _ hu)) hx
    have e : txsC n (v :: r) ++ 32 :: x = txC n v ++ (txsC n r ++ 32 :: x) := by unfold txsC; rw [List.flatMap_cons, List.append_assoc]
    have et : ((v :: r).map (asC n)).flatMap As.toks ++ ks = (asC n v).toks ++ ((r.map (asC n)).flatMap As.toks ++ ks) := by rw [List.map_cons, List.flatMap_cons, List.append_assoc]
    rw [e, et]
    obtain ⟨y, hy⟩ : ∃ y, txsC n r ++ 32 :: x = 32 :: y := by
      cases r with
      | nil => exact ⟨x, rfl⟩
      | cons w s => exact ⟨_, rfl⟩
    rw [hy] at ih ⊢
    exact txC_KT (hv v (List.mem_cons_self ..)) hn ih
theorem txC_len {n v : Nat} (hv : v < n) (hn : n ≤ 15) : (txC n v).length ≤ 40 := by
  have h1 := (dgs v (by omega)).len
  have h2 := (dgs (v + 1) (by omega)).len
  unfold txC
  split <;> simp only [List.length_cons, List.length_append, List.length_nil] <;> omega
theorem txsC_len {n : Nat} (hn : n ≤ 15) : ∀ {vs : List Nat}, (∀ v ∈ vs, v < n) → (txsC n vs).length ≤ 40 * vs.length
  | [], _ => Nat.zero_le _
  | v :: r, hv => by
    have ih := txsC_len hn (vs := r) fun u hu => hv u (List.mem_cons_of_mem _ hu)
    have := txC_len (hv v (List.mem_cons_self ..)) hn
    unfold txsC at ih ⊢
    rw [List.flatMap_cons, List.length_append, List.length_cons]; omega
def preC : List UInt8 := [77, 32, 68, 69, 70, 73, 78, 73, 84, 73, 79, 78, 83, 32, 58, 58, 61, 32, 66, 69, 71, 73, 78]
theorem szC_le (n : Nat) : ∀ vs : List Nat, szA (vs.map (asC n)) ≤ 2 * vs.length
  | [] => Nat.zero_le _
  | v :: r => by
    have := szC_le n r
    have h2 : (asC n v).sz ≤ 2 := by unfold asC; split <;> (dsimp only; omega)
    unfold szA at this ⊢
    rw [List.map_cons, List.map_cons, List.sum_cons, List.length_cons]; omega
theorem chain_parse {n : Nat} (hn : n ≤ 15) {vs : List Nat} (hl : vs.length ≤ 15) (hv : ∀ v ∈ vs, v < n) {s : Str} (hs : s.b = preC ++ (txsC n vs ++ [32, 69, 78, 68])) : r05_Parse s = some (modM [77] 0 (vs.map (asC n)), 0, 0) := by
  have h1 : KT [32, 69, 78, 68] [(5, [69, 78, 68])] := .tok rfl rfl (.fin rfl)
  have h2 := txsC_KT hn hv (x := [69, 78, 68]) h1
  obtain ⟨y, hy⟩ : ∃ y, txsC n vs ++ [32, 69, 78, 68] = 32 :: y := by
    cases vs with
    | nil => exact ⟨_, rfl⟩
    | cons w s => exact ⟨_, rfl⟩
  have hk : KT s.b (modT [77] 0 (vs.map (asC n))) := by
    rw [hs]
    have e : modT [77] 0 (vs.map (asC n)) = (1, [77]) :: (5, [68, 69, 70, 73, 78, 73, 84, 73, 79, 78, 83]) :: (6, [58, 58, 61]) :: (5, [66, 69, 71, 73, 78]) :: ((vs.map (asC n)).flatMap As.toks ++ [(5, [69, 78, 68])]) := by unfold modT; simp [tagT]
    rw [e]
    rw [hy] at h2 ⊢
    exact .tok rfl rfl (.tok rfl rfl (.tok rfl rfl (.tok rfl rfl h2)))
  have hjl := txsC_len hn hv
  refine parse_mod (g := 0) (by omega) hk ?_ (by rw [List.length_map]; omega) (by have := szC_le n vs; omega) (fun x hx => ?_)
  · rw [hs]; simp only [preC, List.length_append, List.length_cons, List.length_nil]; omega
  · obtain ⟨v, _, rfl⟩ := List.mem_map.1 hx
    exact asC_K n v

/-! ### What uses what -/
/-- Where each name's type stands. -/
theorem chain_at {n : Nat} : ∀ {vs : List Nat} {i0 j v : Nat}, vs[j]? = some v → ∃ p : Nat, (typesA (vs.map (asC n)) i0)[j]? = some (p : Int) ∧ i0 ≤ p ∧ ∀ pre : List GNode, pre.length = i0 → (pre ++ nodesA (vs.map (asC n)) i0)[p]? = some (if v + 1 < n then ofN (p + 1) else nullN) ∧ (v + 1 < n → (pre ++ nodesA (vs.map (asC n)) i0)[p + 1]? = some (refN (v + 1)))
  | [], _, _, _, h => by cases h
  | u :: r, i0, 0, v, h => by
    have : u = v := by simpa using h
    subst this
    refine ⟨i0, rfl, Nat.le_refl _, fun pre hp => ?_⟩
    have e : nodesA ((u :: r).map (asC n)) i0 = (asC n u).ns i0 ++ nodesA (r.map (asC n)) (i0 + (asC n u).sz) := rfl
    rw [e]
    unfold asC
    split
    · rename_i hc
      refine ⟨?_, fun _ => ?_⟩
      · rw [List.getElem?_append_right (by omega), hp, Nat.sub_self]; rfl
      · rw [List.getElem?_append_right (by omega), hp, show i0 + 1 - i0 = 1 by omega]; rfl
    · rename_i hc
      refine ⟨?_, fun h => absurd h hc⟩
      rw [List.getElem?_append_right (by omega), hp, Nat.sub_self]; rfl
  | u :: r, i0, j + 1, v, h => by
    obtain ⟨p, h1, h2, h3⟩ := chain_at (n := n) (vs := r) (i0 := i0 + (asC n u).sz) (show r[j]? = some v from h)
    refine ⟨p, h1, by omega, fun pre hp => ?_⟩
    have e : pre ++ nodesA ((u :: r).map (asC n)) i0 = (pre ++ (asC n u).ns i0) ++ nodesA (r.map (asC n)) (i0 + (asC n u).sz) := by
      show pre ++ ((asC n u).ns i0 ++ nodesA (r.map (asC n)) (i0 + (asC n u).sz)) = _
      rw [List.append_assoc]
    rw [e]
    exact h3 _ (by rw [List.length_append, (asC_K n u).t.len, hp])
section chain
variable {n : Nat} {vs : List Nat}
structure Prm (n : Nat) (vs : List Nat) : Prop where
  len : vs.length = n
  lt : ∀ v ∈ vs, v < n
  nd : vs.Nodup
theorem Prm.has (h : Prm n vs) {v : Nat} (hv : v < n) : ∃ j, j < n ∧ vs[j]? = some v := by
  have hsub : ∀ x ∈ List.range n, x ∈ vs := by
    intro x hx
    apply Classical.byContradiction
    intro hnx
    have h1 := length_le_of_nodup (a := x :: vs) (b := List.range n) (List.nodup_cons.2 ⟨hnx, h.nd⟩) fun y hy => by
      rcases List.mem_cons.1 hy with e | e
      · rw [e]; exact hx
      · exact List.mem_range.2 (h.lt y e)
    rw [List.length_cons, List.length_range, h.len] at h1
    omega
  obtain ⟨j, hj⟩ := List.getElem?_of_mem (hsub v (List.mem_range.2 hv))
  exact ⟨j, by have := (List.getElem?_eq_some_iff.1 hj).1; rw [h.len] at this; exact this, hj⟩
theorem Prm.inj (h : Prm n vs) {i j v : Nat} (h1 : vs[i]? = some v) (h2 : vs[j]? = some v) : i = j := by
  obtain ⟨a, b⟩ := List.getElem?_eq_some_iff.1 h1
  obtain ⟨c, d⟩ := List.getElem?_eq_some_iff.1 h2
  exact (List.getElem_inj h.nd).1 (b.trans d.symm)
theorem names_get (j : Nat) : (modM [77] 0 (vs.map (asC n))).names[j]? = (vs[j]?).map fun v => ⟨nmT v⟩ := by
  show ((vs.map (asC n)).map fun x => (⟨x.name⟩ : Str))[j]? = _
  rw [List.getElem?_map, List.getElem?_map]
  cases vs[j]? with
  | none => rfl
  | some v =>
    show some (⟨(asC n v).name⟩ : Str) = some ⟨nmT v⟩
    unfold asC; split <;> rfl
theorem fnd_chain (h : Prm n vs) (hn : n ≤ 15) {j v : Nat} (hj : vs[j]? = some v) : fnd (modM [77] 0 (vs.map (asC n))).names ⟨nmT v⟩ = (j : Int) := by
  have hv := h.lt v (List.mem_of_getElem? hj)
  rcases fnd_spec (modM [77] 0 (vs.map (asC n))).names ⟨nmT v⟩ with ⟨_, h2⟩ | ⟨h2, h3, h4, _⟩
  · exfalso
    exact h2 (List.mem_of_getElem? (i := j) (by rw [names_get, hj]; rfl))
  · rw [names_get] at h4
    obtain ⟨w, hw, e⟩ := Option.map_eq_some_iff.1 h4
    have e : dgl w = dgl v := by injection e with e; injection e
    have hwl := h.lt w (List.mem_of_getElem? hw)
    have := dgl_inj (by omega) (by omega) e
    subst this
    have := h.inj hw hj
    omega
theorem nms_chain (h : Prm n vs) {j v : Nat} (hj : vs[j]? = some v) : ∃ p : Int, (modM [77] 0 (vs.map (asC n))).types[j]? = some p ∧ nms (modM [77] 0 (vs.map (asC n))) p = if v + 1 < n then [⟨nmT (v + 1)⟩] else [] := by
  obtain ⟨p, h1, _, h3⟩ := chain_at (n := n) (i0 := 0) hj
  obtain ⟨h4, h5⟩ := h3 [] rfl
  rw [List.nil_append] at h4 h5
  refine ⟨(p : Int), h1, ?_⟩
  unfold nms
  have h4 : (modM [77] 0 (vs.map (asC n))).nodes[p]? = some (if v + 1 < n then ofN (p + 1) else nullN) := h4
  by_cases hc : v + 1 < n
  · rw [if_pos hc] at h4 ⊢
    have h5 : (modM [77] 0 (vs.map (asC n))).nodes[p + 1]? = some (refN (v + 1)) := h5 hc
    rw [nm_node h4]
    show (if (10 : Int) = 11 then _ else (kidsOf (ofN (p + 1))).flatMap _) = _
    rw [if_neg (by decide)]
    have hk : kidsOf (ofN (p + 1)) = [((p + 1 : Nat) : Int)] := rfl
    rw [hk, List.flatMap_cons, List.flatMap_nil, List.append_nil, nm_node h5]; rfl
  · rw [if_neg hc] at h4 ⊢
    rw [nm_node h4]; rfl
theorem gr_chain (h : Prm n vs) (hn : n ≤ 15) {j v : Nat} (hj : vs[j]? = some v) : ∃ l, (gr (modM [77] 0 (vs.map (asC n))))[j]? = some l ∧ (v + 1 < n → ∃ k : Nat, vs[k]? = some (v + 1) ∧ l = [(k : Int)]) ∧ (¬ v + 1 < n → l = []) ∧ lost (modM [77] 0 (vs.map (asC n))) (((modM [77] 0 (vs.map (asC n))).types[j]?).getD 0) = false := by
  obtain ⟨p, h1, h2⟩ := nms_chain h hj
  refine ⟨uses (modM [77] 0 (vs.map (asC n))) p, by unfold gr; rw [List.getElem?_map, h1]; rfl, fun hc => ?_, fun hc => ?_, ?_⟩
  · obtain ⟨k, _, hk⟩ := h.has hc
    refine ⟨k, hk, ?_⟩
    unfold uses
    rw [h2, if_pos hc]
    have hf := fnd_chain h hn hk
    unfold adds
    simp only [List.filterMap_cons, List.filterMap_nil, idx, hf]
    rw [if_neg (by omega)]
    rfl
  · unfold uses
    rw [h2, if_neg hc]; rfl
  · rw [h1]
    show lost _ p = false
    unfold lost
    rw [h2]
    by_cases hc : v + 1 < n
    · obtain ⟨k, _, hk⟩ := h.has hc
      rw [if_pos hc]
      simp only [List.any_cons, List.any_nil, fnd_chain h hn hk]
      rw [Bool.or_false]
      exact decide_eq_false (by omega)
    · rw [if_neg hc]; rfl
theorem ed_chain (h : Prm n vs) (hn : n ≤ 15) {i j : Int} (he : Ed (gr (modM [77] 0 (vs.map (asC n)))) i j) : ∃ v, vs[i.toNat]? = some v ∧ vs[j.toNat]? = some (v + 1) := by
  obtain ⟨h0, l, e1, e2⟩ := he
  have hgl : (gr (modM [77] 0 (vs.map (asC n)))).length = n := by
    unfold gr
    rw [List.length_map]
    have : ∀ (a : List As) (i : Nat), (typesA a i).length = a.length := fun a => by
      induction a with
      | nil => intro i; rfl
      | cons y r ih => intro i; show (typesA r (i + y.sz)).length + 1 = _; rw [ih]; rfl
    show (typesA (vs.map (asC n)) 0).length = n
    rw [this, List.length_map, h.len]
  have hi := (List.getElem?_eq_some_iff.1 e1).1
  rw [hgl] at hi
  obtain ⟨v, hv⟩ : ∃ v, vs[i.toNat]? = some v := ⟨_, List.getElem?_eq_getElem (by rw [h.len]; exact hi)⟩
  obtain ⟨l', g1, g2, g3, _⟩ := gr_chain h hn hv
  rw [e1] at g1; cases g1
  by_cases hc : v + 1 < n
  · obtain ⟨k, k1, k2⟩ := g2 hc
    rw [k2] at e2
    rw [List.mem_singleton.1 e2]
    exact ⟨v, hv, by rw [Int.toNat_natCast]; exact k1⟩
  · rw [g3 hc] at e2; cases e2
theorem reach_chain (h : Prm n vs) (hn : n ≤ 15) {i j : Int} (hr : Reach (gr (modM [77] 0 (vs.map (asC n)))) i j) : ∃ v w, vs[i.toNat]? = some v ∧ vs[j.toNat]? = some w ∧ v < w := by
  induction hr with
  | one e =>
    obtain ⟨v, h1, h2⟩ := ed_chain h hn e
    exact ⟨v, v + 1, h1, h2, by omega⟩
  | tail _ e ih =>
    obtain ⟨v, w, h1, h2, h3⟩ := ih
    obtain ⟨u, h4, h5⟩ := ed_chain h hn e
    rw [h2] at h4; cases h4
    exact ⟨v, w + 1, h1, h5, by omega⟩
theorem wr_chain (h : Prm n vs) (hn : n ≤ 15) : wr (modM [77] 0 (vs.map (asC n))) = (0, 0) := by
  have fo : ∀ {P : Int → Bool} (k : Nat) (a : Int), (∀ i, a ≤ i → i < a + k → P i = false) → first P k a = none := fun {P} k => by
    induction k with
    | zero => intro a _; rfl
    | succ k ih =>
      intro a hp
      unfold first
      rw [hp a (Int.le_refl _) (by omega)]
      exact ih (a + 1) fun i h1 h2 => hp i (by omega) (by omega)
  have hml : (modM [77] 0 (vs.map (asC n))).names.length = n := by
    show ((vs.map (asC n)).map _).length = n
    rw [List.length_map, List.length_map, h.len]
  have hgetv : ∀ i : Int, 0 ≤ i → i < n → ∃ v, vs[i.toNat]? = some v := fun i h0 h1 => ⟨_, List.getElem?_eq_getElem (by rw [h.len]; omega)⟩
  have h1 : first (twice (modM [77] 0 (vs.map (asC n)))) n 0 = none := fo _ _ fun i h0 hi => by
    obtain ⟨v, hv⟩ := hgetv i h0 (by omega)
    unfold twice
    rw [names_get, hv]
    show decide (fnd _ (⟨nmT v⟩ : Str) < i) = false
    rw [fnd_chain h hn hv]
    exact decide_eq_false (by omega)
  have h2 : first (none_ (modM [77] 0 (vs.map (asC n)))) n 0 = none := fo _ _ fun i h0 hi => by
    obtain ⟨v, hv⟩ := hgetv i h0 (by omega)
    obtain ⟨l, g1, g2, g3, g4⟩ := gr_chain h hn hv
    unfold none_
    cases ht : (modM [77] 0 (vs.map (asC n))).types[i.toNat]? with
    | none => rfl
    | some p => rw [ht] at g4; exact g4
  have h3 : first (cycle (modM [77] 0 (vs.map (asC n)))) n 0 = none := fo _ _ fun i _ _ => by
    refine cycle_of (b := false) ⟨(fun h => by cases h), fun hr => ?_⟩
    obtain ⟨v, w, k1, k2, k3⟩ := reach_chain h hn hr
    rw [k1] at k2; cases k2; omega
  unfold wr
  rw [hml, h1, h2, h3]
theorem order_chain (h : Prm n vs) (hn : n ≤ 15) (w : WF (modM [77] 0 (vs.map (asC n)))) : ∃ l : List Int, refs_Order (modM [77] 0 (vs.map (asC n))) = some (l, 0, 0) ∧ l.length = n ∧ ∀ (k : Nat) i, l[k]? = some i → 0 ≤ i ∧ vs[i.toNat]? = some (n - 1 - k) := by
  have hwr := wr_chain h hn
  have hml : (modM [77] 0 (vs.map (asC n))).names.length = n := by
    show ((vs.map (asC n)).map _).length = n
    rw [List.length_map, List.length_map, h.len]
  have hlen := topo_full w (by rw [hwr]) (modM [77] 0 (vs.map (asC n))).names.length [] (by simp)
  have hgood := topo_good (gr (modM [77] 0 (vs.map (asC n)))) (modM [77] 0 (vs.map (asC n))).names.length [] (Good.nil _)
  have ho := order_eq w
  unfold ordr at ho
  rw [hwr, if_pos rfl] at ho
  generalize topo (gr (modM [77] 0 (vs.map (asC n)))) (modM [77] 0 (vs.map (asC n))).names.length [] = l at *
  rw [hml] at hlen
  refine ⟨l, ho, hlen, ?_⟩
  intro k
  induction k using Nat.strongRecOn with
  | _ k ih =>
    intro i hk
    obtain ⟨h0, h1, h2, h3⟩ := hgood k i hk
    have hkn : k < n := by have := (List.getElem?_eq_some_iff.1 hk).1; omega
    have hgl := gr_len w
    rw [hml] at hgl
    obtain ⟨a, ha⟩ : ∃ a, vs[i.toNat]? = some a := ⟨_, List.getElem?_eq_getElem (by rw [h.len]; omega)⟩
    have han := h.lt a (List.mem_of_getElem? ha)
    obtain ⟨u, g1, g2, g3, _⟩ := gr_chain h hn ha
    have low : n - 1 - k ≤ a := by
      by_cases hc : a + 1 < n
      · obtain ⟨q, q1, q2⟩ := g2 hc
        have hm := h3 (q : Int) (by rw [g1, q2]; exact List.mem_singleton.2 rfl)
        obtain ⟨j, hj⟩ := List.getElem?_of_mem hm
        have hjl := (List.getElem?_eq_some_iff.1 hj).1
        rw [List.length_take] at hjl
        rw [List.getElem?_take_of_lt (by omega)] at hj
        obtain ⟨_, e⟩ := ih j (by omega) _ hj
        rw [Int.toNat_natCast, q1] at e
        have := Option.some.inj e
        omega
      · omega
    refine ⟨h0, ?_⟩
    by_cases he : a = n - 1 - k
    · rw [ha, he]
    · exfalso
      have hjk : n - 1 - a < k := by omega
      obtain ⟨x, hx⟩ : ∃ x, l[n - 1 - a]? = some x := ⟨_, List.getElem?_eq_getElem (by omega)⟩
      obtain ⟨x0, e⟩ := ih (n - 1 - a) hjk x hx
      rw [show n - 1 - (n - 1 - a) = a by omega] at e
      have := h.inj e ha
      have hxi : x = i := by omega
      subst hxi
      exact h2 (List.mem_of_getElem? (i := n - 1 - a) (by rw [List.getElem?_take_of_lt hjk]; exact hx))
end chain
theorem chain_true (ts : List Int) : law07_RefsChain ts = some true := by
  refine T.eqs ?_
  unfold law07_RefsChain
  refine T.jp (fun b => b = false → 1 ≤ ts.length ∧ ts.length ≤ 15) (fun J hJ => T.br (fun _ => hJ _ fun h => by cases h) fun h1 => hJ _ fun h2 => ?_) fun b hb => T.br (fun _ => T.eq awake07 (T.some rfl)) fun hb' => ?_
  · have h1 := of_decide_eq_false h1
    have h2 := of_decide_eq_false h2
    omega
  obtain ⟨hl1, hl15⟩ := hb hb'
  obtain ⟨n, hn⟩ : ∃ n, n = ts.length := ⟨_, rfl⟩
  refine T.lp (ι := List Int × Int) (fun q => 0 ≤ q.2 ∧ q.2 ≤ n ∧ q.1 = (List.range q.2.toNat).map (fun (v : Nat) => (v : Int))) (fun q => ((n : Int) - q.2).toNat) ⟨Int.le_refl _, by dsimp only; omega, rfl⟩ (by dsimp only; omega) fun L q ⟨q1, q2, q3⟩ hL => ?_
  obtain ⟨us, i⟩ := q
  dsimp only at q1 q2 q3 hL ⊢
  have hul : us.length = i.toNat := by rw [q3, List.length_map, List.length_range]
  refine T.br (fun h => ?_) fun h => ?_
  · have h := of_decide_eq_true h
    refine T.abl (by rw [hul]; simp only [List.length_singleton]; omega) (T.ck (by omega) (hL _ ⟨by dsimp only; omega, by dsimp only; omega, ?_⟩ (by dsimp only; omega)))
    dsimp only
    rw [show (i + 1).toNat = i.toNat + 1 by omega, List.range_succ, List.map_append, q3]
    simp only [List.map_cons, List.map_nil]
    rw [show ((i.toNat : Nat) : Int) = i by omega]
  have h := of_decide_eq_false h
  have hin : i.toNat = n := by omega
  rw [hin] at q3
  -- the turns
  refine T.lp (ι := List Int × Int) (fun q => 0 ≤ q.2 ∧ ∃ vs : List Nat, q.1 = vs.map (fun (v : Nat) => (v : Int)) ∧ Prm n vs) (fun q => ((n : Int) - q.2).toNat) ⟨Int.le_refl _, List.range n, q3, List.length_range, fun v hv => List.mem_range.1 hv, List.nodup_range⟩ (by dsimp only; omega) fun L2 q ⟨r1, vs, r2, hP⟩ hL2 => ?_
  obtain ⟨us2, k⟩ := q
  dsimp only at r1 r2 hL2 ⊢
  have hul2 : us2.length = n := by rw [r2, List.length_map, hP.len]
  refine T.br (fun h4 => ?_) fun h4 => ?_
  · have h4 := of_decide_eq_true h4
    refine T.get r1 h4 fun y hy => ?_
    have hnn : (UInt64.ofNat ((ts.length : Int) % 18446744073709551616).toNat).toNat = n := by rw [UInt64.toNat_ofNat']; omega
    have hmod : ((UInt64.ofNat (y % 18446744073709551616).toNat) % (UInt64.ofNat ((ts.length : Int) % 18446744073709551616).toNat)).toNat < n := by
      rw [UInt64.toNat_mod, hnn]; exact Nat.mod_lt _ (by omega)
    have hne : (!decide ((UInt64.ofNat ((ts.length : Int) % 18446744073709551616).toNat) = 0)) = true := by
      have : ¬ (UInt64.ofNat ((ts.length : Int) % 18446744073709551616).toNat) = 0 := fun e => by
        rw [e] at hnn
        have : (0 : UInt64).toNat = 0 := rfl
        omega
      rw [decide_eq_false this]; rfl
    refine T.asr hne ?_
    generalize ((UInt64.ofNat (y % 18446744073709551616).toNat) % (UInt64.ofNat ((ts.length : Int) % 18446744073709551616).toNat)).toNat = c at *
    obtain ⟨a, ha⟩ : ∃ a, us2[k.toNat]? = some a := ⟨_, List.getElem?_eq_getElem (by omega)⟩
    obtain ⟨d, hd⟩ : ∃ d, us2[(c : Int).toNat]? = some d := ⟨_, List.getElem?_eq_getElem (by rw [Int.toNat_natCast]; omega)⟩
    obtain ⟨e, he⟩ : ∃ e, (us2.set k.toNat d)[(c : Int).toNat]? = some e := ⟨_, List.getElem?_eq_getElem (by rw [List.length_set, Int.toNat_natCast]; omega)⟩
    refine T.ck (by omega) (T.asd (by omega) (T.asd (by omega) (T.eq hd (T.eq ha (T.asd (by omega) (T.eq ha (T.asd (by omega) (T.eq he (T.ck (by omega) (hL2 _ ⟨by dsimp only; omega, (vs.set k.toNat (d.toNat)).set c a.toNat, ?_, ?_⟩ (by dsimp only; omega)))))))))))
    · dsimp only
      rw [r2, List.getElem?_map] at ha hd
      obtain ⟨a', _, rfl⟩ := Option.map_eq_some_iff.1 ha
      obtain ⟨d', _, rfl⟩ := Option.map_eq_some_iff.1 hd
      rw [r2, Int.toNat_natCast, Int.toNat_natCast, Int.toNat_natCast, List.map_set, List.map_set]
    · rw [r2, List.getElem?_map] at ha hd
      obtain ⟨a', ha', rfl⟩ := Option.map_eq_some_iff.1 ha
      obtain ⟨d', hd', rfl⟩ := Option.map_eq_some_iff.1 hd
      rw [Int.toNat_natCast] at hd'
      obtain ⟨b1, b2⟩ := List.getElem?_eq_some_iff.1 ha'
      obtain ⟨b3, b4⟩ := List.getElem?_eq_some_iff.1 hd'
      rw [Int.toNat_natCast, Int.toNat_natCast]
      have hp := List.set_set_perm (as := vs) b1 b3
      rw [b2, b4] at hp
      exact ⟨hp.length_eq.trans hP.len, fun v hv => hP.lt v (hp.subset hv), hp.symm.nodup hP.nd⟩
  -- the text
  have h4 := of_decide_eq_false h4
  refine T.lp (ι := Str × Int) (fun q => 0 ≤ q.2 ∧ q.2 ≤ n ∧ q.1.b = txsC n (vs.take q.2.toNat)) (fun q => ((n : Int) - q.2).toNat) ⟨Int.le_refl _, by dsimp only; omega, rfl⟩ (by dsimp only; omega) fun L3 q ⟨s1, s2, s3⟩ hL3 => ?_
  obtain ⟨tx, p⟩ := q
  dsimp only at s1 s2 s3 hL3 ⊢
  have htl := txsC_len (n := n) (by omega) (vs := vs.take p.toNat) fun v hv => hP.lt v (List.mem_of_mem_take hv)
  rw [← s3, List.length_take] at htl
  refine T.br (fun h5 => ?_) fun h5 => ?_
  · have h5 := of_decide_eq_true h5
    obtain ⟨v, hv⟩ : ∃ v, vs[p.toNat]? = some v := ⟨_, List.getElem?_eq_getElem (by rw [hP.len]; omega)⟩
    have hvn := hP.lt v (List.mem_of_getElem? hv)
    have hg : us2[p.toNat]? = some (v : Int) := by rw [r2, List.getElem?_map, hv]; rfl
    have d1 := (dgs v (by omega)).eq
    have d2 := (dgs (v + 1) (by omega)).eq
    have l1 := (dgs v (by omega)).len
    have l2 := (dgs (v + 1) (by omega)).len
    have e1 : ((v : Int) % 18446744073709551616).toNat = v := by omega
    have e2 : (((v : Int) + 1) % 18446744073709551616).toNat = v + 1 := by omega
    refine T.asd (by omega) (T.eq hg (T.ck (by omega) (T.jp (ι := Str) (fun z => z.b = (if v + 1 < n then [83, 69, 81, 85, 69, 78, 67, 69, 32, 79, 70, 32, 84] ++ dgl (v + 1) else [78, 85, 76, 76])) (fun J hJ => T.br (fun h6 => ?_) fun h6 => hJ _ ?_) fun z hz => ?_)))
    · have h6 := of_decide_eq_true h6
      refine T.asd (by omega) (T.eq hg (T.ck (by omega) ?_))
      rw [e2]
      refine T.eq d2 (T.abl (by simp only [List.length_cons, List.length_nil]; omega) (hJ _ ?_))
      rw [if_pos (by omega)]
    · have h6 := of_decide_eq_false h6
      rw [if_neg (by omega)]
    have hzl : z.b.length ≤ 20 := by rw [hz]; split <;> simp only [List.length_append, List.length_cons, List.length_nil] <;> omega
    refine T.abl (by simp only [List.length_cons, List.length_nil]; omega) (T.asd (by omega) (T.eq hg ?_))
    rw [e1]
    refine T.eq d1 (T.abl (by simp only [List.length_append, List.length_cons, List.length_nil]; omega) (T.abl (by simp only [List.length_append, List.length_cons, List.length_nil]; omega) (T.abl (by simp only [List.length_append, List.length_cons, List.length_nil]; omega) (T.ck (by omega) (hL3 _ ⟨by dsimp only; omega, by dsimp only; omega, ?_⟩ (by dsimp only; omega))))))
    dsimp only
    rw [show (p + 1).toNat = p.toNat + 1 by omega, List.take_add_one, hv, s3, hz]
    unfold txsC txC
    simp
  have h5 := of_decide_eq_false h5
  have hp0 : vs.take p.toNat = vs := List.take_of_length_le (by rw [hP.len]; omega)
  rw [hp0] at s3
  have hvl : vs.length = n := hP.len
  rw [hvl] at htl
  refine T.abl (by simp only [List.length_cons, List.length_nil]; omega) (T.abl (by simp only [List.length_append, List.length_cons, List.length_nil]; omega) ?_)
  have hpar := chain_parse (n := n) (by omega) (vs := vs) (by omega) hP.lt (s := Str.mk ((Str.mk (preC ++ tx.b)).b ++ (Str.mk [32, 69, 78, 68]).b)) (by rw [s3]; simp)
  have w : WF (modM [77] 0 (vs.map (asC n))) := (parse_tot _).get? hpar
  obtain ⟨l, o1, o2, o3⟩ := order_chain hP (by omega) w
  refine T.eq hpar (T.eq o1 (T.eq awake07 ?_))
  dsimp only
  refine T.jp (fun b => b = false) (fun J hJ => T.brF rfl (hJ _ rfl)) fun b hb1 => ?_
  subst hb1
  refine T.jp (fun b => b = false) (fun J hJ => T.brF rfl (hJ _ rfl)) fun b hb1 => ?_
  subst hb1
  refine T.jp (fun b => b = false) (fun J hJ => T.brF rfl (hJ _ (by rw [decide_eq_true (by omega)]; rfl))) fun b hb1 => ?_
  subst hb1
  refine T.brF rfl (T.lp (ι := Int) (fun q => 0 ≤ q ∧ q ≤ n) (fun q => ((n : Int) - q).toNat) ⟨Int.le_refl _, by omega⟩ (by omega) fun L4 q ⟨t1, t2⟩ hL4 => ?_)
  refine T.br (fun hb => ?_) fun _ => T.some rfl
  have hb := of_decide_eq_true hb
  refine T.get t1 (by omega) fun y hy => ?_
  obtain ⟨y0, y1⟩ := o3 q.toNat y hy
  have hyl := (List.getElem?_eq_some_iff.1 y1).1
  refine T.jp (fun b => b = false) (fun J hJ => T.brF (decide_eq_false (by omega)) (T.get t1 (by omega) fun y' hy' => hJ _ ?_)) fun b hb1 => ?_
  · rw [hy] at hy'; cases hy'
    exact decide_eq_false (by omega)
  subst hb1
  refine T.jp (fun b => b = false) (fun J hJ => T.brF rfl (T.get t1 (by omega) fun y' hy' => ?_)) fun b hb1 => T.brF hb1 (T.ck (by omega) (hL4 _ (by omega) (by omega)))
  rw [hy] at hy'; cases hy'
  refine T.asd (by omega) (T.eq (y := ((n - 1 - q.toNat : Nat) : Int)) (by rw [r2, List.getElem?_map, y1]; rfl) (T.ck (by omega) (T.ck (by omega) (hJ _ ?_))))
  rw [decide_eq_true (by omega)]; rfl
end Go.Proofs.YtnnijoepfgnlfaaDoor

