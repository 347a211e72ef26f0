/- Digits of 16, default values: the parser answers. Trees of nodes. No condition: general lemmas. -/
import Derived.Test.YtdcdndflfhaejaaDoorParB
namespace Go.Proofs.YtdcdndflfhaejaaDoor
open Go.Sy
set_option linter.unusedVariables false

theorem hexs_tot (s : Str) (hl : s.b.length ≤ 1000000) : T (fun r => r.length ≤ s.b.length) (r05_Hex s) := by
  unfold r05_Hex
  refine T.lp (fun (q : List UInt8 × Int) => 0 ≤ q.2 ∧ q.2 ≤ (s.b.length : Int) ∧ (q.1.length : Int) ≤ q.2) (fun (q : List UInt8 × Int) => ((s.b.length : Int) - q.2).toNat) ⟨Int.le_refl _, by dsimp only; omega, by simp⟩ (by dsimp only; omega) fun L q hq hL => ?_
  obtain ⟨o, i⟩ := q
  obtain ⟨h1, h2, h3⟩ := hq
  dsimp only at h1 h2 h3 ⊢
  refine T.ck (by omega) (T.br (fun hb => ?_) fun _ => T.some (by omega))
  have hb := of_decide_eq_true hb
  refine T.lp (fun (p : UInt8 × Int) => i ≤ p.2 ∧ p.2 ≤ i + 2) (fun (p : UInt8 × Int) => (i + 2 - p.2).toNat) ⟨Int.le_refl _, by dsimp only; omega⟩ (by dsimp only; omega) fun L2 p hp hL2 => ?_
  obtain ⟨v, k⟩ := p
  obtain ⟨h4, h5⟩ := hp
  dsimp only at h4 h5 ⊢
  refine T.ck (by omega) (T.br (fun hb2 => ?_) fun hb2 => ?_)
  · have hb2 := of_decide_eq_true hb2
    refine T.get (by omega) (by omega) fun y _ => T.get (by omega) (by omega) fun y2 _ => T.jp (fun _ => True) (fun J h6 => T.br (fun _ => T.get (by omega) (by omega) fun _ _ => h6 _ trivial) fun _ => h6 _ trivial) fun u _ => T.asr (by decide) (T.ck (by omega) (hL2 _ ⟨by dsimp only; omega, by dsimp only; omega⟩ (by dsimp only; omega)))
  · refine T.abl ?_ (T.ck (by omega) (hL _ ⟨by dsimp only; omega, by dsimp only; omega, ?_⟩ (by dsimp only; omega)))
    · simp only [List.length_singleton]; omega
    · simp only [List.length_append, List.length_singleton]; omega

theorem Tk.eq {x : GPar} {t t' : GTok} (h : Tk x t) (h' : Tk x t') : t' = t := by unfold Tk at h h'; rw [h] at h'; cases h'; rfl
theorem value_tot {l m a P x} (h : Ok l m a P x) : T (fun r => Ok l m a P r.2) (r05_parser_value x) := by
  unfold r05_parser_value
  refine T.cal (now_tot h) fun ⟨t, x'⟩ _ ⟨ht, hx⟩ => ?_
  subst hx
  dsimp only at ht ⊢
  refine T.jp (fun y => Ok l m a P y) (fun J k => T.br (fun _ => k _ h) fun _ => ?_) fun y hy => T.some hy
  refine T.cal (is_tot _ h) fun y1 _ h1 => T.br (fun _ => T.some h1.1) fun b1 => ?_
  refine T.cal (is_tot _ h1.1) fun y2 _ h2 => T.br (fun _ => T.some h2.1) fun b2 => ?_
  refine T.cal (is_tot _ h2.1) fun y3 _ h3 => T.br (fun _ => T.some h3.1) fun b3 => ?_
  have e : y3.2 = x' := by rw [h3.2.2.2 b3, h2.2.2.2 b2, h1.2.2.2 b1]
  have htl := (Tk.ok h ht).len
  have hnx := next_tot h3.1
  rw [e] at hnx
  refine T.br (fun hk => ?_) fun _ => T.br (fun hk => ?_) fun _ => T.br (fun hk => ?_) fun _ => T.br (fun hk => ?_) fun _ => ?_
  · rw [e]
    refine T.cal hnx fun r _ hr => T.cal (whole_tot r.1.text ?_) fun v _ _ => T.some hr.2.1
    rw [Tk.eq ht hr.1]; exact (Tk.ok h ht).num (of_decide_eq_true hk)
  · rw [e]
    refine T.cal hnx fun r _ hr => T.abl ?_ (T.some hr.2.1)
    rw [Tk.eq ht hr.1]; omega
  · rw [e]
    refine T.cal hnx fun r _ hr => T.cal (hexs_tot r.1.text ?_) fun v _ _ => T.some hr.2.1
    rw [Tk.eq ht hr.1]; omega
  · rw [e]
    refine T.cal hnx fun r _ hr => T.abl ?_ (T.some hr.2.1)
    rw [Tk.eq ht hr.1]; omega
  · exact T.cal (fail_tot _ _ h3.1 (by decide)) fun y _ hy => k _ hy.1

/-- The kids of a node, in order. -/
def kidsOf (n : GNode) : List Int := if n.kind = 11 then [] else n.fields.map (fun f => f.ty) ++ (if n.kind = 10 then [n.of] else [])
/-- Trees that stand one behind the other, from a to b. -/
def Kids (S : Nat → Nat → Prop) : List Int → Nat → Nat → Prop
  | [], a, b => a = b
  | k :: r, a, b => ∃ c, k = (a : Int) ∧ S a c ∧ Kids S r c b
/-- A tree of at most so many levels stands from i to j. -/
def Sub : Nat → List GNode → Nat → Nat → Prop
  | 0, _, _, _ => False
  | h + 1, l, i, j => ∃ n, l[i]? = some n ∧ Kids (Sub h l) (kidsOf n) (i + 1) j
theorem Kids.le {S : Nat → Nat → Prop} (hS : ∀ x y, S x y → x ≤ y) : ∀ {r a b}, Kids S r a b → a ≤ b := by
  intro r
  induction r with
  | nil => intro a b h; exact Nat.le_of_eq h
  | cons k r ih => intro a b ⟨c, _, h1, h2⟩; exact Nat.le_trans (hS _ _ h1) (ih h2)
theorem Sub.lt : ∀ {h l i j}, Sub h l i j → i < j := by
  intro h
  induction h with
  | zero => intro l i j h; exact h.elim
  | succ h ih => intro l i j ⟨n, _, h2⟩; exact Kids.le (fun x y h => Nat.le_of_lt (ih h)) h2
theorem Kids.mono {S S' : Nat → Nat → Prop} (hS : ∀ x y, S x y → x ≤ y) : ∀ {r a b}, (∀ x y, a ≤ x → y ≤ b → S x y → S' x y) → Kids S r a b → Kids S' r a b := by
  intro r
  induction r with
  | nil => intro a b _ h; exact h
  | cons k r ih =>
    intro a b hm ⟨c, h0, h1, h2⟩
    have := Kids.le hS h2
    exact ⟨c, h0, hm _ _ (Nat.le_refl _) this h1, ih (fun x y hx hy => hm x y (Nat.le_trans (hS _ _ h1) hx) hy) h2⟩
theorem Kids.snoc {S : Nat → Nat → Prop} {c : Nat} : ∀ {r a b}, Kids S r a b → S b c → Kids S (r ++ [(b : Int)]) a c := by
  intro r
  induction r with
  | nil => intro a b h h2; cases h; exact ⟨c, rfl, h2, rfl⟩
  | cons k r ih => intro a b ⟨d, h0, h1, h3⟩ h2; exact ⟨d, h0, h1, ih h3 h2⟩
theorem Sub.mono : ∀ {h l l' i j}, (∀ k, i ≤ k → k < j → l'[k]? = l[k]?) → Sub h l i j → Sub h l' i j := by
  intro h
  induction h with
  | zero => intro l l' i j _ h; exact h
  | succ h ih =>
    intro l l' i j hl hs
    have hlt := hs.lt
    obtain ⟨n, h1, h2⟩ := hs
    refine ⟨n, by rw [hl i (Nat.le_refl _) hlt]; exact h1, Kids.mono (fun x y h => Nat.le_of_lt h.lt) (fun x y hx hy hs => ih (fun k h3 h4 => hl k (by omega) (by omega)) hs) h2⟩
theorem Kids.monoL {h l l' r a b} (hl : ∀ k, a ≤ k → k < b → l'[k]? = l[k]?) (hk : Kids (Sub h l) r a b) : Kids (Sub h l') r a b :=
  Kids.mono (fun x y h => Nat.le_of_lt h.lt) (fun x y hx hy hs => hs.mono fun k h3 h4 => hl k (by omega) (by omega)) hk
/-- Nodes are added. -/
structure Grow (m m' : GMod) : Prop where
  name : m'.name = m.name
  tagging : m'.tagging = m.tagging
  names : m'.names = m.names
  types : m'.types = m.types
  le : m.nodes.length ≤ m'.nodes.length
  lim : m'.nodes.length ≤ 300
  pre : ∀ i, i < m.nodes.length → m'.nodes[i]? = m.nodes[i]?
theorem Grow.refl {m : GMod} (h : m.nodes.length ≤ 300) : Grow m m := ⟨rfl, rfl, rfl, rfl, Nat.le_refl _, h, fun _ _ => rfl⟩
theorem Grow.trans {m m' m'' : GMod} (h : Grow m m') (h' : Grow m' m'') : Grow m m'' :=
  ⟨h'.name.trans h.name, h'.tagging.trans h.tagging, h'.names.trans h.names, h'.types.trans h.types, Nat.le_trans h.le h'.le, h'.lim, fun i hi => (h'.pre i (Nat.lt_of_lt_of_le hi h.le)).trans (h.pre i hi)⟩
end Go.Proofs.YtdcdndflfhaejaaDoor
