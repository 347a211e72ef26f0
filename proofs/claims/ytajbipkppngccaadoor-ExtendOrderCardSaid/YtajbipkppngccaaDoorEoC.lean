/- ExtendTells and ExtendOrder: the laws' models answer true. No condition. -/
import Derived.Test.YtajbipkppngccaaDoorEoA
import Derived.Test.YtajbipkppngccaaDoorEoB
set_option linter.unusedVariables false
set_option linter.unusedSimpArgs false

namespace Go.Proofs.YtajbipkppngccaaDoor
open Go.Sy
set_option linter.unusedVariables false

theorem flatMap_eq {α β : Type} {f g : α → List β} : ∀ {l : List α}, (∀ x ∈ l, f x = g x) → l.flatMap f = l.flatMap g := by
  intro l
  induction l with
  | nil => intro _; rfl
  | cons x l ih => intro h; rw [List.flatMap_cons, List.flatMap_cons, h x List.mem_cons_self, ih fun y hy => h y (List.mem_cons_of_mem _ hy)]
theorem Kids.mem {S : Nat → Nat → Prop} {k : Int} : ∀ {r a b}, Kids S r a b → k ∈ r → ∃ (c d : Nat), k = (c : Int) ∧ S c d := by
  intro r
  induction r with
  | nil => intro a b _ h; cases h
  | cons x r ih =>
    intro a b ⟨c, h1, h2, h3⟩ h
    rcases List.mem_cons.1 h with e | e
    · exact ⟨a, c, e.trans h1, h2⟩
    · exact ih h3 e
theorem nm_mono : ∀ {h h' l i j}, Sub h l i j → h ≤ h' → nmx l h' (i : Int) = nmx l h (i : Int) := by
  intro h
  induction h with
  | zero => intro h' l i j hs; exact hs.elim
  | succ h ih =>
    intro h' l i j ⟨n, h1, h2⟩ hle
    obtain ⟨h'', rfl⟩ : ∃ h'', h' = h'' + 1 := ⟨h' - 1, by omega⟩
    rw [nm_node h1, nm_node h1]
    split
    · rfl
    · refine flatMap_eq fun k hk => ?_
      obtain ⟨c, d, e1, e2⟩ := h2.mem hk
      rw [e1]
      exact ih e2 (by omega)
theorem nm_out {l : List GNode} {h : Nat} {i : Int} (hi : i < 0 ∨ (l.length : Int) ≤ i) : nmx l h i = [] := by
  cases h with
  | zero => rfl
  | succ h =>
    rw [nmx]
    have : (if 0 ≤ i then l[i.toNat]? else none) = none := by
      split
      · rename_i h0
        exact List.getElem?_eq_none (by omega)
      · rfl
    rw [this]

theorem WF.at {m : GMod} (w : WF m) {i : Nat} (hi : i < m.nodes.length) : ∃ h j, h ≤ 17 ∧ Sub h m.nodes i j ∧ j ≤ m.nodes.length := w.forest.sub i (Nat.zero_le _) hi
def nms (m : GMod) (node : Int) : List Str := nmx m.nodes 17 node
def uses (m : GMod) (node : Int) : List Int := adds [] ((nms m node).filterMap (idx m.names))
def lost (m : GMod) (node : Int) : Bool := (nms m node).any (fun s => fnd m.names s < 0)
theorem drop_cons {α : Type} {l : List α} {k : Int} {y : α} (h0 : 0 ≤ k) (h : l[k.toNat]? = some y) : l.drop k.toNat = y :: l.drop (k + 1).toNat := by
  have hk : k.toNat < l.length := by
    rcases Nat.lt_or_ge k.toNat l.length with h1 | h1
    · exact h1
    · rw [List.getElem?_eq_none h1] at h; cases h
  have e : (k + 1).toNat = k.toNat + 1 := by omega
  rw [e, List.drop_eq_getElem_cons hk]
  rw [List.getElem?_eq_getElem hk] at h
  rw [Option.some.inj h]
end Go.Proofs.YtajbipkppngccaaDoor


namespace Go.Proofs.YtajbipkppngccaaDoor
open Go.Sy
set_option linter.unusedVariables false

theorem in_int_eq (l : List Int) (x : Int) (hl : l.length ≤ 1000000) : h_In_int l x = some (decide (x ∈ l)) := by
  refine T.eqs ?_
  unfold h_In_int
  refine T.lp (fun (k : Int) => 0 ≤ k ∧ k ≤ (l.length : Int) ∧ (x ∈ l ↔ x ∈ l.drop k.toNat)) (fun (k : Int) => ((l.length : Int) - k).toNat) ⟨Int.le_refl _, by omega, Iff.rfl⟩ (by omega) fun L k ⟨h1, h2, h3⟩ hL => ?_
  refine T.br (fun hb => ?_) fun hb => T.some ?_
  · have hb := of_decide_eq_true hb
    refine T.get h1 hb fun y hy => ?_
    rw [drop_cons h1 hy, List.mem_cons] at h3
    refine T.br (fun he => T.some (decide_eq_true (h3.2 (.inl (of_decide_eq_true he).symm))).symm) fun he => T.ck (by omega) (hL _ ⟨by omega, by omega, ?_⟩ (by omega))
    rw [h3]
    exact ⟨fun h => h.elim (fun e => absurd e.symm (of_decide_eq_false he)) fun h => h, .inr⟩
  · have hb := of_decide_eq_false hb
    rw [List.drop_eq_nil_of_le (by omega)] at h3
    exact (decide_eq_false (fun h => by cases h3.1 h)).symm

def UsesS (m : GMod) (f : GMod → Int → Int → List Int → Option (List Int × Bool)) (h : Nat) : Prop := ∀ i j (d : Int) acc, Sub h m.nodes i j → j ≤ m.nodes.length → 0 ≤ d → d + h ≤ 17 → acc.length ≤ i →
  T (fun r => r.1 = adds acc ((nmx m.nodes h i).filterMap (idx m.names)) ∧ r.2 = (nmx m.nodes h i).any (fun s => decide (fnd m.names s < 0)) ∧ r.1.length ≤ j) (f m i d acc)
theorem uses7_step {m f h} (w : WF m) (ih : UsesS m f h) : UsesS m (r07_uses_F f) (h + 1) := by
  intro i j d acc hs hj hd0 hd hacc
  have hl := w.nodes
  have hnl := w.names
  have hij := hs.lt
  obtain ⟨n, hn, hk⟩ := hs
  unfold r07_uses_F
  have hi : i < m.nodes.length := by omega
  have htn : ((i : Int)).toNat = i := by omega
  refine T.jp (fun b => b = false) (fun J k => T.br (fun hb => by have := of_decide_eq_true hb; omega) fun _ => k _ (decide_eq_false (by omega))) fun b hb => ?_
  subst hb
  refine T.jp (fun b => b = false) (fun J k => T.br (fun hb => by cases hb) fun _ => k _ (decide_eq_false (by omega))) fun b hb => ?_
  subst hb
  refine T.br (fun hb => by cases hb) fun _ => ?_
  refine T.get (by omega) (by omega) fun n' hn' => ?_
  rw [htn, hn] at hn'
  cases hn'
  rw [nm_node hn]
  refine T.br (fun hr => ?_) fun hr => ?_
  · have hr := of_decide_eq_true hr
    rw [if_pos hr]
    refine T.eq (find7_eq _ _ (by omega)) (T.br (fun hf => T.some ⟨?_, ?_, by dsimp only; omega⟩) fun hf => T.eq (in_int_eq _ _ (by omega)) (T.jp (fun l => l = add acc (fnd m.names n.name)) (fun J k => T.br (fun hin => T.abl (by simp only [List.length_singleton]; omega) (k _ ?_)) fun hin => k _ ?_) fun l hlq => T.some ⟨?_, ?_, ?_⟩))
    · have hf := of_decide_eq_true hf
      have : idx m.names n.name = none := by unfold idx; rw [if_pos hf]
      rw [List.filterMap_cons_none this]; rfl
    · rw [List.any_cons, hf]; rfl
    · unfold add; rw [if_neg (by simpa using hin)]
    · unfold add; rw [if_pos (by simpa using hin)]
    · have hf := of_decide_eq_false hf
      have : idx m.names n.name = some (fnd m.names n.name) := by unfold idx; rw [if_neg hf]
      rw [List.filterMap_cons_some this, hlq]; rfl
    · rw [List.any_cons, hf]; rfl
    · have := length_add acc (fnd m.names n.name)
      dsimp only
      rw [hlq]; omega
  · have hr := of_decide_eq_false hr
    rw [if_neg hr]
    unfold kidsOf at hk ⊢
    rw [if_neg hr] at hk ⊢
    obtain ⟨c, hk1, hk2⟩ := Kids.append hk
    rw [List.flatMap_append]
    have hc := Kids.le (fun x y h => Nat.le_of_lt h.lt) hk2
    have hfl := hk1.length
    rw [List.length_map] at hfl
    refine T.lp (fun (q : List Int × Bool × Int) => 0 ≤ q.2.2 ∧ q.2.2 ≤ (n.fields.length : Int) ∧ ∃ e, Kids (Sub h m.nodes) ((n.fields.drop q.2.2.toNat).map (fun f => f.ty)) e c ∧ i + 1 ≤ e ∧ adds q.1 ((((n.fields.drop q.2.2.toNat).map (fun f => f.ty)).flatMap (nmx m.nodes h)).filterMap (idx m.names)) = adds acc (((n.fields.map (fun f => f.ty)).flatMap (nmx m.nodes h)).filterMap (idx m.names)) ∧ (q.2.1 || (((n.fields.drop q.2.2.toNat).map (fun f => f.ty)).flatMap (nmx m.nodes h)).any (fun s => decide (fnd m.names s < 0))) = ((n.fields.map (fun f => f.ty)).flatMap (nmx m.nodes h)).any (fun s => decide (fnd m.names s < 0)) ∧ q.1.length ≤ e) (fun (q : List Int × Bool × Int) => ((n.fields.length : Int) - q.2.2).toNat)
      ⟨Int.le_refl _, by dsimp only; omega, i + 1, hk1, Nat.le_refl _, rfl, rfl, by dsimp only; omega⟩ ?_ fun L q hq hL => ?_
    · dsimp only; omega
    · obtain ⟨a1, b1, k⟩ := q
      obtain ⟨q1, q2, e, q3, q4, q5, q6, q7⟩ := hq
      dsimp only at q1 q2 q3 q5 q6 q7 ⊢
      have he := Kids.le (fun x y h => Nat.le_of_lt h.lt) q3
      refine T.br (fun hb => ?_) fun hb => ?_
      · have hb := of_decide_eq_true hb
        refine T.get q1 hb fun y hy => ?_
        rw [drop_cons q1 hy, List.map_cons] at q3 q5 q6
        obtain ⟨c1, e1, e2, e3⟩ := q3
        have hc1 := Kids.le (fun x y h => Nat.le_of_lt h.lt) e3
        have := e2.lt
        rw [List.flatMap_cons, e1] at q5 q6
        rw [List.filterMap_append, adds_append] at q5
        rw [List.any_append, ← Bool.or_assoc] at q6
        rw [e1]
        refine T.ck (by omega) (T.cal (ih e c1 (d + 1) a1 e2 (by omega) (by omega) (by omega) q7) fun r _ ⟨r1, r2, r3⟩ => T.jp (fun b => b = (b1 || r.2)) (fun J k2 => T.br (fun h => k2 _ (by rw [h]; rfl)) fun h => k2 _ (by rw [h]; rfl)) fun b hb2 => T.ck (by omega) (hL _ ⟨by dsimp only; omega, by dsimp only; omega, c1, e3, by omega, ?_, ?_, r3⟩ (by dsimp only; omega)))
        · dsimp only; rw [r1]; exact q5
        · dsimp only; rw [hb2, r2]; exact q6
      · have hb := of_decide_eq_false hb
        rw [List.drop_eq_nil_of_le (by omega)] at q3 q5 q6
        cases q3
        have q6' : b1 = ((n.fields.map (fun f => f.ty)).flatMap (nmx m.nodes h)).any (fun s => decide (fnd m.names s < 0)) := by rw [← q6]; simp
        rw [List.filterMap_append, adds_append, ← q5, List.any_append, ← q6']
        refine T.jp (fun (q : List Int × Bool) => q.1 = adds a1 (((if n.kind = 10 then [n.of] else []).flatMap (nmx m.nodes h)).filterMap (idx m.names)) ∧ q.2 = (b1 || ((if n.kind = 10 then [n.of] else []).flatMap (nmx m.nodes h)).any (fun s => decide (fnd m.names s < 0))) ∧ q.1.length ≤ j) (fun J k2 => T.br (fun hl10 => ?_) fun hl10 => k2 _ ?_) fun q hq => T.some hq
        · have h10 := of_decide_eq_true hl10
          rw [if_pos h10] at hk2
          obtain ⟨c1, e1, e2, e3⟩ := hk2
          cases e3
          have ih1 := ih c j (d + 1) a1 e2 (by omega) (by omega) (by omega) q7
          rw [← e1] at ih1
          refine T.ck (by omega) (T.cal ih1 fun r _ ⟨r1, r2, r3⟩ => T.jp (fun b => b = (b1 || r.2)) (fun J k3 => T.br (fun h => k3 _ (by rw [h]; rfl)) fun h => k3 _ (by rw [h]; rfl)) fun b hb2 => k2 (r.1, b) ⟨?_, ?_, r3⟩)
          · dsimp only; rw [if_pos h10, r1]; simp [adds_nil]
          · dsimp only; rw [if_pos h10, hb2, r2]; simp
        · have h10 := of_decide_eq_false hl10
          rw [if_neg h10] at hk2 ⊢
          cases hk2
          exact ⟨rfl, by simp, q7⟩
theorem uses7_all {m : GMod} (w : WF m) : ∀ h n, h ≤ n → UsesS m (r07_uses n) h := by
  intro h
  induction h with
  | zero => intro n _ i j d acc hs; exact hs.elim
  | succ h ih =>
    intro n hn
    obtain ⟨n', rfl⟩ : ∃ n', n = n' + 1 := ⟨n - 1, by omega⟩
    exact uses7_step w (ih n' (by omega))
theorem uses7_out {m n i d acc} (hi : i < 0 ∨ (m.nodes.length : Int) ≤ i) : r07_uses (n + 1) m i d acc = some (acc, false) := by
  refine T.eqs ?_
  show T _ (r07_uses_F (r07_uses n) m i d acc)
  unfold r07_uses_F
  refine T.jp (fun b => b = true) (fun J k => T.br (fun _ => k _ rfl) fun hb => k _ (decide_eq_true (by have := of_decide_eq_false hb; omega))) fun b hb => ?_
  subst hb
  refine T.jp (fun b => b = true) (fun J k => T.br (fun _ => k _ rfl) fun hb => by cases hb) fun b hb => ?_
  subst hb
  exact T.br (fun _ => T.some rfl) fun hb => by cases hb
theorem uses7_eq {m : GMod} (w : WF m) (node : Int) : r07_uses fuel m node 0 [] = some (uses m node, lost m node) := by
  by_cases hi : node < 0 ∨ (m.nodes.length : Int) ≤ node
  · obtain ⟨f', hf⟩ : ∃ f', fuel = f' + 1 := ⟨fuel - 1, by unfold fuel; omega⟩
    rw [hf, uses7_out hi]
    unfold uses lost nms
    rw [nm_out hi]; rfl
  · obtain ⟨i, rfl⟩ : ∃ i : Nat, node = (i : Int) := ⟨node.toNat, by omega⟩
    obtain ⟨h, j, h1, h2, h3⟩ := w.at (i := i) (by omega)
    obtain ⟨r, e, r1, r2, r3⟩ := uses7_all w h fuel (by unfold fuel; omega) i j 0 [] h2 h3 (Int.le_refl _) (by omega) (Nat.zero_le _)
    rw [e]
    unfold uses lost nms
    rw [nm_mono h2 h1, ← r1, ← r2]
end Go.Proofs.YtajbipkppngccaaDoor


namespace Go.Proofs.YtajbipkppngccaaDoor
open Go.Sy
set_option linter.unusedVariables false

abbrev Gr := List (List Int)
def Ed (U : Gr) (i j : Int) : Prop := 0 ≤ i ∧ ∃ l, U[i.toNat]? = some l ∧ j ∈ l
inductive Reach (U : Gr) : Int → Int → Prop
  | one {i j} : Ed U i j → Reach U i j
  | tail {i j k} : Reach U i j → Ed U j k → Reach U i k
structure GOk (U : Gr) : Prop where
  len : U.length ≤ 40
  ok : ∀ l ∈ U, l.length ≤ 40 ∧ ∀ j ∈ l, 0 ≤ j ∧ j < U.length
theorem GOk.ed {U i j} (g : GOk U) (h : Ed U i j) : 0 ≤ j ∧ j < U.length := by
  obtain ⟨_, l, h1, h2⟩ := h
  exact (g.ok l (List.mem_of_getElem? h1)).2 j h2
theorem Reach.trans {U i j k} (h1 : Reach U i j) (h2 : Reach U j k) : Reach U i k := by
  induction h2 with
  | one e => exact h1.tail e
  | tail _ e ih => exact ih.tail e

/-! ### By depth -/
def On (s : List Bool) (v : Int) : Prop := 0 ≤ v ∧ s[v.toNat]? = some true
def cf : List Bool → Nat
  | [] => 0
  | b :: r => (if b then 0 else 1) + cf r
theorem On.set {s : List Bool} {k v : Int} (h0 : 0 ≤ k) (hk : k < s.length) : On (s.set k.toNat true) v ↔ On s v ∨ v = k := by
  unfold On
  by_cases h : v = k
  · subst h
    rw [List.getElem?_set_self (by omega)]
    exact ⟨fun _ => .inr rfl, fun _ => ⟨h0, rfl⟩⟩
  · by_cases hv : 0 ≤ v
    · rw [List.getElem?_set_ne (by omega)]
      exact ⟨.inl, fun h1 => h1.elim (fun h => h) fun e => absurd e h⟩
    · exact ⟨fun h1 => absurd h1.1 hv, fun h1 => h1.elim (fun h2 => absurd h2.1 hv) fun e => absurd e h⟩
structure Dep (U : Gr) (i : Int) (s r : List Bool) : Prop where
  len : r.length = s.length
  mono : ∀ v, On s v → On r v
  new : ∀ v, On r v → On s v ∨ (Reach U i v ∧ ∀ j, Ed U v j → On r j)
  cf : cf r ≤ cf s
/-! ### By breadth -/
theorem reach_tot {U} (g : GOk U) {i t : Int} (hi : 0 ≤ i) (hi1 : i < U.length) : T (fun r => r = true ↔ Reach U i t) (r07_reach U i t) := by
  have hgl := g.len
  unfold r07_reach
  refine T.get hi hi1 fun l hl => ?_
  obtain ⟨hll, hlr⟩ := g.ok l (List.mem_of_getElem? hl)
  have hed : ∀ j, Ed U i j ↔ j ∈ l := fun j => ⟨fun ⟨_, l', h1, h2⟩ => by rw [hl] at h1; cases h1; exact h2, fun h => ⟨hi, l, hl, h⟩⟩
  refine T.abl (by simp only [List.length_nil]; omega) ?_
  refine T.lp (fun (q : List Int × List Int) => q.1.Nodup ∧ (∀ v ∈ q.1, 0 ≤ v ∧ v < U.length) ∧ (∀ v ∈ q.2, Reach U i v) ∧ (∀ j, Ed U i j → j ∈ q.1 ∨ j ∈ q.2) ∧ (∀ v ∈ q.1, ∀ j, Ed U v j → j ∈ q.1 ∨ j ∈ q.2) ∧ t ∉ q.1 ∧ q.2.length ≤ 40 * (q.1.length + 1)) (fun (q : List Int × List Int) => (U.length - q.1.length) * 41 + q.2.length)
    ⟨List.nodup_nil, fun v h => (by cases h), fun v hv => .one ((hed v).2 (by simpa using hv)), fun j hj => .inr (by simpa using (hed j).1 hj), fun v h => (by cases h), (by simp), by simp; omega⟩ (by simp; omega) fun L q ⟨h1, h2, h3, h4, h5, h6, h7⟩ hL => ?_
  obtain ⟨s, td⟩ := q
  dsimp only at h1 h2 h3 h4 h5 h6 h7 ⊢
  have hsl : s.length ≤ U.length := by
    have := length_le_of_nodup (b := nums U.length) h1 fun x hx => mem_nums.2 (h2 x hx)
    rwa [length_nums] at this
  refine T.br (fun hb => ?_) fun hb => T.some ⟨(fun h => by cases h), fun h => ?_⟩
  · have hb := of_decide_eq_true hb
    cases td with
    | nil => simp at hb
    | cons y td =>
      refine T.get (Int.le_refl _) hb fun y' hy' => ?_
      have hy' : y = y' := by simpa using hy'
      subst hy'
      have hyr := h3 y List.mem_cons_self
      have hy01 : 0 ≤ y ∧ y < U.length := by
        cases hyr with
        | one e => exact g.ed e
        | tail _ e => exact g.ed e
      refine T.asd (by simp only [List.length_cons]; omega) (T.br (fun he => T.some ⟨fun _ => ?_, fun _ => rfl⟩) fun he => ?_)
      · rw [← of_decide_eq_true he]; exact hyr
      have he := of_decide_eq_false he
      have hdr : (y :: td).drop ((1 : Int)).toNat = td := rfl
      rw [hdr]
      rw [List.length_cons] at h7
      refine T.eq (in_int_eq s y (by omega)) (T.br (fun hn => T.abl (by simp only [List.length_singleton]; omega) ?_) fun hn => hL _ ⟨h1, h2, fun v hv => h3 v (List.mem_cons_of_mem _ hv), ?_, ?_, h6, by dsimp only; omega⟩ (by dsimp only; rw [List.length_cons]; omega))
      · have hys : y ∉ s := by simpa using hn
        refine T.get hy01.1 hy01.2 fun ly hly => ?_
        obtain ⟨hyl, hyr2⟩ := g.ok ly (List.mem_of_getElem? hly)
        have hslt : s.length < U.length := by
          have := length_le_of_nodup (a := y :: s) (b := nums U.length) (List.nodup_cons.2 ⟨hys, h1⟩) fun x hx => mem_nums.2 (by rcases List.mem_cons.1 hx with e | e; rw [e]; exact hy01; exact h2 x e)
          rw [length_nums, List.length_cons] at this
          omega
        refine T.abl (by omega) (hL _ ⟨?_, ?_, ?_, ?_, ?_, ?_, ?_⟩ ?_)
        · dsimp only
          rw [List.nodup_append]
          exact ⟨h1, by simp, fun a ha b hb => by rw [List.mem_singleton.1 hb]; exact fun e => hys (e ▸ ha)⟩
        · dsimp only
          intro v hv
          rcases List.mem_append.1 hv with e | e
          · exact h2 v e
          · rw [List.mem_singleton.1 e]; exact hy01
        · dsimp only
          intro v hv
          rcases List.mem_append.1 hv with e | e
          · exact h3 v (List.mem_cons_of_mem _ e)
          · exact hyr.tail ⟨hy01.1, ly, hly, e⟩
        · dsimp only
          intro j hj
          rw [List.mem_append, List.mem_append, List.mem_singleton]
          rcases h4 j hj with e | e
          · exact .inl (.inl e)
          · rcases List.mem_cons.1 e with e | e
            · exact .inl (.inr e)
            · exact .inr (.inl e)
        · dsimp only
          intro v hv j hj
          rw [List.mem_append, List.mem_append, List.mem_singleton]
          rcases List.mem_append.1 hv with e | e
          · rcases h5 v e j hj with e | e
            · exact .inl (.inl e)
            · rcases List.mem_cons.1 e with e | e
              · exact .inl (.inr e)
              · exact .inr (.inl e)
          · rw [List.mem_singleton.1 e] at hj
            obtain ⟨_, l', e1, e2⟩ := hj
            rw [hly] at e1; cases e1
            exact .inr (.inr e2)
        · dsimp only
          rw [List.mem_append, List.mem_singleton]
          exact fun h => h.elim h6 fun e => he e.symm
        · dsimp only
          rw [List.length_append, List.length_append, List.length_singleton]
          omega
        · dsimp only
          rw [List.length_append, List.length_append, List.length_singleton, List.length_cons]
          omega
      · have hys : y ∈ s := by simpa using hn
        intro j hj
        dsimp only
        rcases h4 j hj with e | e
        · exact .inl e
        · rcases List.mem_cons.1 e with e | e
          · rw [e]; exact .inl hys
          · exact .inr e
      · have hys : y ∈ s := by simpa using hn
        intro v hv j hj
        dsimp only at hv ⊢
        rcases h5 v hv j hj with e | e
        · exact .inl e
        · rcases List.mem_cons.1 e with e | e
          · rw [e]; exact .inl hys
          · exact .inr e
  · have hb := of_decide_eq_false hb
    cases td with
    | cons y td => simp at hb
    | nil =>
      exfalso
      have key : ∀ a b, Reach U a b → a = i → b ∈ s := by
        intro a b hab
        induction hab with
        | one e => intro ea; subst ea; simpa using h4 _ e
        | tail _ e ih => intro ea; simpa using h5 _ (ih ea) _ e
      exact h6 (key _ _ h rfl)

/-! ### One that is ready -/
theorem exists_ready {U : Gr} (g : GOk U) (hac : ∀ i, ¬ Reach U i i) (out : List Int) (hl : out.length < U.length) : ∃ i : Int, 0 ≤ i ∧ i < U.length ∧ i ∉ out ∧ ∀ j, Ed U i j → j ∈ out := by
  refine Classical.byContradiction fun hno => ?_
  have hno : ∀ i : Int, 0 ≤ i → i < U.length → i ∉ out → ∃ j, Ed U i j ∧ j ∉ out := by
    intro i h1 h2 h3
    refine Classical.byContradiction fun h4 => hno ⟨i, h1, h2, h3, fun j hj => Classical.byContradiction fun h5 => h4 ⟨j, hj, h5⟩⟩
  have hst : ∃ i : Int, 0 ≤ i ∧ i < U.length ∧ i ∉ out := by
    refine Classical.byContradiction fun h => ?_
    have := length_le_of_nodup (a := nums U.length) (b := out) (nodup_nums _) fun x hx => by
      have := mem_nums.1 hx
      exact Classical.byContradiction fun h2 => h ⟨x, this.1, this.2, h2⟩
    rw [length_nums] at this
    omega
  have path : ∀ k : Nat, ∃ (h : Int) (p : List Int), p.length = k ∧ (h :: p).Nodup ∧ (∀ x ∈ h :: p, 0 ≤ x ∧ x < U.length ∧ x ∉ out) ∧ ∀ x ∈ p, Reach U x h := by
    intro k
    induction k with
    | zero =>
      obtain ⟨i, h1, h2, h3⟩ := hst
      exact ⟨i, [], rfl, by simp, fun x hx => by rw [List.mem_singleton.1 hx]; exact ⟨h1, h2, h3⟩, fun x hx => by cases hx⟩
    | succ k ih =>
      obtain ⟨h, p, e1, e2, e3, e4⟩ := ih
      obtain ⟨j, hj1, hj2⟩ := hno h (e3 h List.mem_cons_self).1 (e3 h List.mem_cons_self).2.1 (e3 h List.mem_cons_self).2.2
      have hall : ∀ x ∈ h :: p, Reach U x j := by
        intro x hx
        rcases List.mem_cons.1 hx with e | e
        · rw [e]; exact .one hj1
        · exact (e4 x e).tail hj1
      refine ⟨j, h :: p, by rw [List.length_cons, e1], List.nodup_cons.2 ⟨fun hm => hac j (hall j hm), e2⟩, fun x hx => ?_, hall⟩
      rcases List.mem_cons.1 hx with e | e
      · rw [e]; have := g.ed hj1; exact ⟨this.1, this.2, hj2⟩
      · exact e3 x e
  obtain ⟨h, p, e1, e2, e3, _⟩ := path U.length
  have := length_le_of_nodup (b := nums U.length) e2 fun x hx => mem_nums.2 ⟨(e3 x hx).1, (e3 x hx).2.1⟩
  rw [length_nums, List.length_cons] at this
  omega
end Go.Proofs.YtajbipkppngccaaDoor


namespace Go.Proofs.YtajbipkppngccaaDoor
open Go.Sy
set_option linter.unusedVariables false

def first (P : Int → Bool) : Nat → Int → Option Int
  | 0, _ => none
  | n + 1, k => if P k then some k else first P n (k + 1)
theorem first_none {P : Int → Bool} : ∀ {n k}, first P n k = none → ∀ i, k ≤ i → i < k + n → P i = false := by
  intro n
  induction n with
  | zero => intro k _ i h1 h2; omega
  | succ n ih =>
    intro k h i h1 h2
    unfold first at h
    cases hp : P k with
    | true => rw [hp] at h; cases h
    | false =>
      rw [hp] at h
      rcases Int.lt_or_le k i with h3 | h3
      · exact ih h i (by omega) (by omega)
      · have : i = k := by omega
        rw [this]; exact hp
theorem first_some {P : Int → Bool} : ∀ {n k i}, first P n k = some i → k ≤ i ∧ i < k + n ∧ P i = true := by
  intro n
  induction n with
  | zero => intro k i h; cases h
  | succ n ih =>
    intro k i h
    unfold first at h
    cases hp : P k with
    | true => rw [hp] at h; cases h; exact ⟨Int.le_refl _, by omega, hp⟩
    | false => rw [hp] at h; have := ih h; exact ⟨by omega, by omega, this.2.2⟩
def At (P : Int → Bool) (n : Nat) (k : Int) : Prop := 0 ≤ k ∧ k ≤ n ∧ first P n 0 = first P ((n : Int) - k).toNat k
theorem At.zero (P : Int → Bool) (n : Nat) : At P n 0 := ⟨Int.le_refl _, by omega, by simp⟩
theorem At.next {P : Int → Bool} {n : Nat} {k : Int} (h : At P n k) (hk : k < n) (hp : P k = false) : At P n (k + 1) := by
  obtain ⟨h1, h2, h3⟩ := h
  have e : ((n : Int) - k).toNat = ((n : Int) - (k + 1)).toNat + 1 := by omega
  rw [e, first, hp] at h3
  exact ⟨by omega, by omega, h3⟩
theorem At.hit {P : Int → Bool} {n : Nat} {k : Int} (h : At P n k) (hk : k < n) (hp : P k = true) : first P n 0 = some k := by
  obtain ⟨h1, h2, h3⟩ := h
  have e : ((n : Int) - k).toNat = ((n : Int) - (k + 1)).toNat + 1 := by omega
  rw [e, first, hp] at h3
  exact h3
theorem At.miss {P : Int → Bool} {n : Nat} {k : Int} (h : At P n k) (hk : ¬ k < n) : first P n 0 = none := by
  obtain ⟨h1, h2, h3⟩ := h
  have e : ((n : Int) - k).toNat = 0 := by omega
  rw [e] at h3
  exact h3

/-! ### What is wrong first -/
/-- What uses what. -/
def gr (m : GMod) : Gr := m.types.map (uses m)
theorem gr_len {m : GMod} (w : WF m) : (gr m).length = m.names.length := by unfold gr; rw [List.length_map]; exact w.types
theorem uses_range {m : GMod} {t x : Int} (h : x ∈ uses m t) : 0 ≤ x ∧ x < m.names.length := by
  unfold uses at h
  rcases mem_adds.1 h with e | e
  · cases e
  · obtain ⟨s, _, h2⟩ := List.mem_filterMap.1 e
    exact idx_range h2
theorem gr_ok {m : GMod} (w : WF m) : GOk (gr m) := by
  refine ⟨by rw [gr_len w]; exact w.names, fun l hl => ?_⟩
  unfold gr at hl
  obtain ⟨t, _, rfl⟩ := List.mem_map.1 hl
  refine ⟨?_, fun j hj => by rw [gr_len w]; exact uses_range hj⟩
  have := length_le_of_nodup (a := uses m t) (b := nums m.names.length) (nodup_adds List.nodup_nil) fun x hx => mem_nums.2 (uses_range hx)
  rw [length_nums] at this
  have := w.names
  omega
def twice (m : GMod) (i : Int) : Bool := match m.names[i.toNat]? with | some s => decide (fnd m.names s < i) | none => false
def none_ (m : GMod) (i : Int) : Bool := match m.types[i.toNat]? with | some t => lost m t | none => false
open Classical in
noncomputable def cycle (m : GMod) (i : Int) : Bool := decide (Reach (gr m) i i)
noncomputable def wr (m : GMod) : Int × Int :=
  match first (twice m) m.names.length 0 with
  | some i => (i, 8)
  | none => match first (none_ m) m.names.length 0 with
    | some i => (i, 9)
    | none => match first (cycle m) m.names.length 0 with
      | some i => (i, 10)
      | none => (0, 0)
open Classical in
theorem cycle_of {m : GMod} {b : Bool} {i : Int} (h : b = true ↔ Reach (gr m) i i) : cycle m i = b := by
  unfold cycle
  cases b with
  | true => exact decide_eq_true (h.1 rfl)
  | false => exact decide_eq_false fun h2 => by cases h.2 h2
end Go.Proofs.YtajbipkppngccaaDoor


namespace Go.Proofs.YtajbipkppngccaaDoor
open Go.Sy
set_option linter.unusedVariables false

def rdy (U : Gr) (out : List Int) (i : Int) : Bool := decide (i ∉ out) && ((U[i.toNat]?).getD []).all (fun j => decide (j ∈ out))
def topo (U : Gr) : Nat → List Int → List Int
  | 0, out => out
  | k + 1, out => match first (rdy U out) U.length 0 with
    | some i => topo U k (out ++ [i])
    | none => out
noncomputable def ordr (m : GMod) : List Int × Int × Int := if (wr m).2 = 0 then (topo (gr m) m.names.length [], 0, 0) else ([], (wr m).1, (wr m).2)
theorem no_cycle {m : GMod} (w : WF m) (h : (wr m).2 = 0) : ∀ i, ¬ Reach (gr m) i i := by
  intro i hr
  have hi : 0 ≤ i ∧ i < (gr m).length := by
    cases hr with
    | one e => exact (gr_ok w).ed e
    | tail _ e => exact (gr_ok w).ed e
  rw [gr_len w] at hi
  unfold wr at h
  split at h
  · cases h
  split at h
  · cases h
  split at h
  · cases h
  · rename_i h3
    have := first_none h3 i hi.1 (by omega)
    have h4 : cycle m i = true := cycle_of (b := true) ⟨fun _ => hr, fun _ => rfl⟩
    rw [this] at h4; cases h4
theorem first_rdy {m : GMod} (w : WF m) (h : (wr m).2 = 0) {out : List Int} (hl : out.length < m.names.length) : first (rdy (gr m) out) (gr m).length 0 ≠ none := by
  intro hn
  obtain ⟨i, h1, h2, h3, h4⟩ := exists_ready (gr_ok w) (no_cycle w h) out (by rw [gr_len w]; exact hl)
  have := first_none hn i h1 (by omega)
  unfold rdy at this
  rw [decide_eq_true h3, Bool.true_and] at this
  have ha : ((gr m)[i.toNat]?.getD []).all (fun j => decide (j ∈ out)) = true := by
    rw [List.all_eq_true]
    intro j hj
    rw [List.getElem?_eq_getElem (by omega)] at hj
    exact decide_eq_true (h4 j ⟨h1, _, List.getElem?_eq_getElem (by omega), hj⟩)
  rw [this] at ha; cases ha
def Tp (m : GMod) (out : List Int) : Prop := out.length ≤ m.names.length ∧ topo (gr m) (m.names.length - out.length) out = topo (gr m) m.names.length []
theorem Tp.nil (m : GMod) : Tp m [] := ⟨Nat.zero_le _, rfl⟩
theorem Tp.next {m : GMod} {out : List Int} {i : Int} (h : Tp m out) (hl : out.length < m.names.length) (hf : first (rdy (gr m) out) (gr m).length 0 = some i) : Tp m (out ++ [i]) := by
  obtain ⟨h1, h2⟩ := h
  have e : m.names.length - out.length = (m.names.length - (out ++ [i]).length) + 1 := by rw [List.length_append, List.length_singleton]; omega
  rw [e, topo, hf] at h2
  exact ⟨by rw [List.length_append, List.length_singleton]; omega, h2⟩
theorem Tp.done {m : GMod} {out : List Int} (h : Tp m out) (hl : ¬ (out.length : Int) < m.names.length) : out = topo (gr m) m.names.length [] := by
  obtain ⟨h1, h2⟩ := h
  have e : m.names.length - out.length = 0 := by omega
  rw [e] at h2
  exact h2

/-! ### The program's order -/
/-! ### The document's order -/
theorem twice_in {l : List Str} {k : Int} {s : Str} (h0 : 0 ≤ k) (h : l[k.toNat]? = some s) : decide (s ∈ (l.take k.toNat).drop (0 : Int).toNat) = decide (fnd l s < k) := by
  have e0 : (l.take k.toNat).drop (0 : Int).toNat = l.take k.toNat := rfl
  rw [e0]
  rcases fnd_spec l s with h1 | ⟨h1, h2, h3, h4⟩
  · exact absurd (List.mem_of_getElem? h) h1.2
  · by_cases h5 : fnd l s < k
    · rw [decide_eq_true h5]
      refine decide_eq_true (List.mem_of_getElem? (i := (fnd l s).toNat) ?_)
      rw [List.getElem?_take_of_lt (by omega)]
      exact h3
    · rw [decide_eq_false h5]
      refine decide_eq_false fun hm => ?_
      obtain ⟨j, hj⟩ := List.getElem?_of_mem hm
      rw [List.getElem?_take] at hj
      split at hj
      · exact h4 j (by omega) hj
      · cases hj
theorem order7_eq {m : GMod} (w : WF m) : r07_Order m = some (ordr m) := by
  have hn := w.names
  have ht := w.types
  have hgl := gr_len w
  have hgo := gr_ok w
  refine T.eqs ?_
  unfold r07_Order
  refine T.lp (fun (k : Int) => At (twice m) m.names.length k) (fun (k : Int) => ((m.names.length : Int) - k).toNat) (At.zero _ _) (by omega) fun L k hk hL => ?_
  have hk0 := hk.1
  refine T.br (fun hb => ?_) fun hb => ?_
  · have hb := of_decide_eq_true hb
    refine T.asd (by omega) (T.get hk0 hb fun s hs => T.cal (in_string_tot _ s (by rw [List.length_drop, List.length_take]; omega)) fun b _ hbq => ?_)
    rw [twice_in hk0 hs] at hbq
    have e : twice m k = decide (fnd m.names s < k) := by unfold twice; rw [hs]
    refine T.br (fun h => T.some ?_) fun h => T.ck (by omega) (hL _ (hk.next hb (by rw [e, ← hbq]; exact h)) (by omega))
    have : wr m = (k, 8) := by unfold wr; rw [hk.hit hb (by rw [e, ← hbq]; exact h)]
    unfold ordr; rw [this]; rfl
  have m1 := hk.miss (of_decide_eq_false hb)
  refine T.lp (fun (q : List (List Int) × Int × Int) => 0 ≤ q.2.2 ∧ q.2.2 ≤ (m.names.length : Int) ∧ (q.1.length : Int) = q.2.2 ∧ q.1 ++ (m.types.drop q.2.2.toNat).map (uses m) = gr m ∧ ((q.2.1 < 0 ∧ At (none_ m) m.names.length q.2.2) ∨ (0 ≤ q.2.1 ∧ first (none_ m) m.names.length 0 = some q.2.1))) (fun (q : List (List Int) × Int × Int) => ((m.names.length : Int) - q.2.2).toNat) ⟨Int.le_refl _, by dsimp only; omega, rfl, rfl, .inl ⟨by dsimp only; omega, At.zero _ _⟩⟩ (by dsimp only; omega) fun L q ⟨h1, h2, h3, h4, h5⟩ hL => ?_
  obtain ⟨U, mi, k⟩ := q
  dsimp only at h1 h2 h3 h4 h5 ⊢
  refine T.br (fun hb => ?_) fun hb => ?_
  · have hb := of_decide_eq_true hb
    obtain ⟨t, htt⟩ : ∃ t, m.types[k.toNat]? = some t := ⟨_, List.getElem?_eq_getElem (by omega)⟩
    rw [drop_cons h1 htt, List.map_cons] at h4
    have e : none_ m k = lost m t := by unfold none_; rw [htt]
    refine T.jp (fun (q : List (List Int) × Int) => q.1 = U ++ [uses m t] ∧ ((q.2 < 0 ∧ At (none_ m) m.names.length (k + 1)) ∨ (0 ≤ q.2 ∧ first (none_ m) m.names.length 0 = some q.2))) (fun J kk => ?_) fun q ⟨hq1, hq2⟩ => T.ck (by omega) (hL _ ⟨by dsimp only; omega, by dsimp only; omega, ?_, ?_, hq2⟩ (by dsimp only; omega))
    · refine T.get h1 (by omega) fun t' ht' => ?_
      rw [htt] at ht'; cases ht'
      refine T.eq (uses7_eq w t) (T.abl (by simp only [List.length_singleton]; omega) (T.jp (fun b => b = (lost m t && decide (mi < 0))) (fun J2 k2 => T.br (fun h => k2 _ ?_) fun h => k2 _ ?_) fun b hbq => T.br (fun h => kk _ ⟨rfl, ?_⟩) fun h => kk _ ⟨rfl, ?_⟩))
      · dsimp only at h; rw [h]; rfl
      · dsimp only at h; rw [h]; rfl
      · rw [hbq, Bool.and_eq_true] at h
        obtain ⟨l1, l2⟩ := h
        have l2 := of_decide_eq_true l2
        rcases h5 with h5 | h5
        · exact .inr ⟨h1, h5.2.hit hb (by rw [e]; exact l1)⟩
        · omega
      · rw [hbq, Bool.and_eq_false_iff] at h
        rcases h5 with h5 | h5
        · refine .inl ⟨h5.1, h5.2.next hb ?_⟩
          rw [e]
          rcases h with h | h
          · exact h
          · have := of_decide_eq_false h
            exact absurd h5.1 this
        · exact .inr h5
    · dsimp only; rw [hq1, List.length_append, List.length_singleton]; omega
    · dsimp only; rw [hq1, ← h4]; simp
  have hb9 := of_decide_eq_false hb
  rw [List.drop_eq_nil_of_le (by omega), List.map_nil, List.append_nil] at h4
  subst h4
  refine T.br (fun hm => T.some ?_) fun hm => ?_
  · have hm := of_decide_eq_true hm
    have m2 := (h5.resolve_left fun h => by omega).2
    have : wr m = (mi, 9) := by unfold wr; rw [m1, m2]
    unfold ordr; rw [this]; rfl
  have hm := of_decide_eq_false hm
  have m2 := (h5.resolve_right fun h => by omega).2.miss hb9
  refine T.lp (fun (k : Int) => At (cycle m) m.names.length k) (fun (k : Int) => ((m.names.length : Int) - k).toNat) (At.zero _ _) (by omega) fun L k hk hL => ?_
  have hk0 := hk.1
  refine T.br (fun hb => ?_) fun hb => ?_
  · have hb := of_decide_eq_true hb
    refine T.cal (reach_tot hgo (t := k) hk0 (by omega)) fun b _ hbq => ?_
    have e := cycle_of hbq
    refine T.br (fun h => T.some ?_) fun h => T.ck (by omega) (hL _ (hk.next hb (by rw [e]; exact h)) (by omega))
    have : wr m = (k, 10) := by unfold wr; rw [m1, m2, hk.hit hb (by rw [e]; exact h)]
    unfold ordr; rw [this]; rfl
  have m3 := hk.miss (of_decide_eq_false hb)
  have hwr : wr m = (0, 0) := by unfold wr; rw [m1, m2, m3]
  have he : (wr m).2 = 0 := by rw [hwr]
  refine T.lp (fun (out : List Int) => Tp m out) (fun (out : List Int) => m.names.length - out.length) (Tp.nil m) (by omega) fun L out ho hL => ?_
  have hol := ho.1
  refine T.br (fun hb => ?_) fun hb => T.some ?_
  · have hb := of_decide_eq_true hb
    have hlt : out.length < m.names.length := by omega
    refine T.lp (fun (k : Int) => At (rdy (gr m) out) (gr m).length k) (fun (k : Int) => ((m.names.length : Int) - k).toNat) (At.zero _ _) (by omega) fun L2 k hk hL2 => ?_
    have hk0 := hk.1
    refine T.br (fun hb2 => ?_) fun hb2 => ?_
    · have hb2 := of_decide_eq_true hb2
      obtain ⟨l, hl⟩ : ∃ l, (gr m)[k.toNat]? = some l := ⟨_, List.getElem?_eq_getElem (by omega)⟩
      have hll := (hgo.ok l (List.mem_of_getElem? hl)).1
      have hrd : rdy (gr m) out k = (!decide (k ∈ out) && l.all (fun j => decide (j ∈ out))) := by unfold rdy; rw [hl]; simp
      refine T.eq (in_int_eq out k (by omega)) ?_
      refine T.lp (fun (q : Bool × Int) => 0 ≤ q.2 ∧ q.2 ≤ (l.length : Int) ∧ (q.1 && (l.drop q.2.toNat).all (fun j => decide (j ∈ out))) = rdy (gr m) out k) (fun (q : Bool × Int) => ((l.length : Int) - q.2).toNat) ⟨Int.le_refl _, by dsimp only; omega, hrd.symm⟩ (by dsimp only; omega) fun L3 q ⟨g1, g2, g3⟩ hL3 => ?_
      obtain ⟨b, j⟩ := q
      dsimp only at g1 g2 g3 ⊢
      refine T.get hk0 (by omega) fun l' hl' => ?_
      rw [hl] at hl'; cases hl'
      refine T.br (fun hb3 => ?_) fun hb3 => ?_
      · have hb3 := of_decide_eq_true hb3
        obtain ⟨x, hx⟩ : ∃ x, l[j.toNat]? = some x := ⟨_, List.getElem?_eq_getElem (by omega)⟩
        rw [drop_cons g1 hx, List.all_cons, ← Bool.and_assoc] at g3
        refine T.jp (fun c => c = (b && decide (x ∈ out))) (fun J kk => T.br (fun h => T.get hk0 (by omega) fun l' hl' => ?_) fun h => kk _ (by rw [h]; rfl)) fun c hc => T.ck (by omega) (hL3 _ ⟨by dsimp only; omega, by dsimp only; omega, by dsimp only; rw [hc]; exact g3⟩ (by dsimp only; omega))
        rw [hl] at hl'; cases hl'
        refine T.get g1 hb3 fun x' hx' => ?_
        rw [hx] at hx'; cases hx'
        exact T.eq (in_int_eq out x (by omega)) (kk _ (by rw [h]; rfl))
      · have hb3 := of_decide_eq_false hb3
        rw [List.drop_eq_nil_of_le (by omega), List.all_nil, Bool.and_true] at g3
        refine T.br (fun hr => T.abl (by simp only [List.length_singleton]; omega) (hL _ (ho.next hlt (hk.hit (by omega) (by rw [← g3]; exact hr))) (by rw [List.length_append, List.length_singleton]; omega))) fun hr => T.ck (by omega) (hL2 _ (hk.next (by omega) (by rw [← g3]; exact hr)) (by omega))
    · have hb2 := of_decide_eq_false hb2
      exact absurd (hk.miss (by omega)) (first_rdy w he hlt)
  · unfold ordr; rw [if_pos he, ho.done (of_decide_eq_false hb)]
end Go.Proofs.YtajbipkppngccaaDoor


namespace Go.Proofs.YtajbipkppngccaaDoor
open Go.Sy
set_option linter.unusedVariables false

def Good (U : Gr) (out : List Int) : Prop := ∀ (k : Nat) (i : Int), out[k]? = some i → 0 ≤ i ∧ i < U.length ∧ i ∉ out.take k ∧ ∀ j ∈ (U[i.toNat]?).getD [], j ∈ out.take k
theorem Good.nil (U : Gr) : Good U [] := fun k i h => by simp at h
theorem Good.next {U : Gr} {out : List Int} {i : Int} (h : Good U out) (hf : first (rdy U out) U.length 0 = some i) : Good U (out ++ [i]) := by
  obtain ⟨h1, h2, h3⟩ := first_some hf
  unfold rdy at h3
  rw [Bool.and_eq_true] at h3
  intro k x hk
  rcases Nat.lt_trichotomy k out.length with e | e | e
  · rw [List.getElem?_append_left e] at hk
    rw [List.take_append_of_le_length (by omega)]
    exact h k x hk
  · subst e
    rw [List.getElem?_append_right (Nat.le_refl _)] at hk
    simp at hk
    subst hk
    rw [List.take_append_of_le_length (Nat.le_refl _), List.take_length]
    exact ⟨h1, by omega, of_decide_eq_true h3.1, fun j hj => of_decide_eq_true (List.all_eq_true.1 h3.2 j hj)⟩
  · rw [List.getElem?_append_right (by omega), List.getElem?_eq_none (by simp; omega)] at hk
    cases hk
theorem topo_good (U : Gr) : ∀ k out, Good U out → Good U (topo U k out) := by
  intro k
  induction k with
  | zero => intro out h; exact h
  | succ k ih =>
    intro out h
    unfold topo
    split
    · rename_i i hi; exact ih _ (h.next hi)
    · exact h
theorem topo_full {m : GMod} (w : WF m) (h : (wr m).2 = 0) : ∀ k out, out.length + k = m.names.length → (topo (gr m) k out).length = m.names.length := by
  intro k
  induction k with
  | zero => intro out h; exact h
  | succ k ih =>
    intro out hl
    unfold topo
    split
    · rename_i i hi; exact ih _ (by rw [List.length_append, List.length_singleton]; omega)
    · rename_i hn; exact absurd hn (first_rdy w h (by omega))
theorem ranks {m : GMod} (w : WF m) (h : (wr m).2 = 0) : ∃ rk : Int → Nat, (∀ i, rk i ≤ m.names.length) ∧ ∀ i j, Ed (gr m) i j → rk j < rk i := by
  have hl := topo_full w h m.names.length [] (by simp)
  have hg := topo_good (gr m) m.names.length [] (Good.nil _)
  generalize topo (gr m) m.names.length [] = out at hl hg
  have hgl := gr_len w
  have hnd : out.Nodup := by
    rw [List.nodup_iff_pairwise_ne, List.pairwise_iff_getElem]
    intro i j hi hj hij he
    have h1 := (hg j (out[j]) (List.getElem?_eq_getElem hj)).2.2.1
    refine h1 ?_
    rw [← he]
    exact List.mem_take_iff_getElem.2 ⟨i, by omega, rfl⟩
  have hsub : ∀ x ∈ out, x ∈ nums m.names.length := fun x hx => by
    obtain ⟨k, hk⟩ := List.mem_iff_getElem?.1 hx
    have := hg k x hk
    exact mem_nums.2 ⟨this.1, by omega⟩
  have hall : ∀ i : Int, 0 ≤ i → i < m.names.length → i ∈ out := fun i h0 h1 => by
    refine Classical.byContradiction fun hno => ?_
    have := length_le_of_nodup (a := i :: out) (b := nums m.names.length) (List.nodup_cons.2 ⟨hno, hnd⟩) (fun x hx => by
      rcases List.mem_cons.1 hx with e | e
      · rw [e]; exact mem_nums.2 ⟨h0, h1⟩
      · exact hsub x e)
    rw [length_nums, List.length_cons] at this
    omega
  refine ⟨fun i => out.idxOf i, fun i => by rw [← hl]; exact List.idxOf_le_length, fun i j ⟨h0, l, h1, h2⟩ => ?_⟩
  have hi : i < m.names.length := by
    have := (List.getElem?_eq_some_iff.1 h1).1
    omega
  have hio := hall i h0 hi
  have hlt := List.idxOf_lt_length_of_mem hio
  have hk := hg (out.idxOf i) i (by rw [List.getElem?_eq_getElem hlt, List.getElem_idxOf])
  have hj := hk.2.2.2 j (by rw [h1]; exact h2)
  obtain ⟨n, hn, he⟩ := List.mem_take_iff_getElem.1 hj
  have hn2 : n < out.length := by omega
  have : out.idxOf j ≤ n := by
    rw [← he]
    rw [hnd.idxOf_getElem n hn2]
    exact Nat.le_refl _
  show out.idxOf j < out.idxOf i
  omega
end Go.Proofs.YtajbipkppngccaaDoor


namespace Go.Proofs.YtajbipkppngccaaDoor
open Go.Sy
set_option linter.unusedVariables false

theorem fail10_eq (x : GMk) (e : Int) : r10_maker_fail x e = some (if x.e = 0 then GMk.mk x.m x.l e else x) := by
  unfold r10_maker_fail br
  by_cases h : x.e = 0 <;> simp [h]
theorem univ_tot (k : Int) : T (fun _ => True) (r09_Universal k) := by
  unfold r09_Universal
  refine T.br (fun _ => T.some trivial) fun _ => T.br (fun _ => T.some trivial) fun _ => T.br (fun _ => T.some trivial) fun _ => T.br (fun _ => T.some trivial) fun _ => T.br (fun _ => T.some trivial) fun _ => T.br (fun _ => T.some trivial) fun _ => ?_
  refine T.jp (fun _ => True) (fun J h => T.br (fun _ => h _ trivial) fun _ => h _ trivial) fun q _ => T.br (fun _ => T.some trivial) fun _ => T.br (fun _ => T.some trivial) fun _ => T.some trivial
theorem check_tot (c : GCon) (b : Bool) : T (fun _ => True) (r08_Check c b) := by
  unfold r08_Check
  refine T.br (fun _ => T.some trivial) fun _ => T.jp (fun _ => True) (fun J h => T.br (fun _ => h _ trivial) fun _ => h _ trivial) fun q _ => T.jp (fun _ => True) (fun J h => T.br (fun _ => h _ trivial) fun _ => h _ trivial) fun q2 _ => T.br (fun _ => T.some trivial) fun _ => ?_
  refine T.jp (fun _ => True) (fun J h => T.br (fun _ => ?_) fun _ => h _ trivial) fun q3 _ => T.br (fun _ => T.some trivial) fun _ => T.some trivial
  refine T.jp (fun _ => True) (fun J2 h2 => T.br (fun _ => h2 _ trivial) fun _ => h2 _ trivial) fun q4 _ => T.jp (fun _ => True) (fun J2 h2 => T.br (fun _ => h2 _ trivial) fun _ => h2 _ trivial) fun q5 _ => ?_
  refine T.jp (fun _ => True) (fun J2 h2 => T.br (fun _ => h2 _ trivial) fun _ => T.jp (fun _ => True) (fun J3 h3 => T.br (fun _ => T.jp (fun _ => True) (fun J4 h4 => T.br (fun _ => h4 _ trivial) fun _ => h4 _ trivial) fun q _ => h3 _ trivial) fun _ => h3 _ trivial) fun q _ => h2 _ trivial) fun q6 _ => h _ trivial
theorem within_tot (c : GCon) (v : Int) : T (fun _ => True) (r08_Within c v) := by
  unfold r08_Within
  refine T.jp (fun _ => True) (fun J h => T.br (fun _ => h _ trivial) fun _ => ?_) fun q _ => T.some trivial
  refine T.jp (fun _ => True) (fun J2 h2 => T.br (fun _ => h2 _ trivial) fun _ => h2 _ trivial) fun q2 _ => ?_
  exact T.jp (fun _ => True) (fun J2 h2 => T.br (fun _ => T.jp (fun _ => True) (fun J3 h3 => T.br (fun _ => h3 _ trivial) fun _ => h3 _ trivial) fun q _ => h2 _ trivial) fun _ => h2 _ trivial) fun q3 _ => h _ trivial

/-! ### Numbers of items -/
def hasNum (l : List GItem) (v : Int) : Bool := l.any fun it => it.has && decide (it.number = v)
theorem hasNum_cons (y : GItem) (l : List GItem) (v : Int) : hasNum (y :: l) v = ((y.has && decide (y.number = v)) || hasNum l v) := by unfold hasNum; rw [List.any_cons]
theorem taken_eq (l : List GItem) (v : Int) (hl : l.length ≤ 1000000) : r10_taken l v = some (hasNum l v) := by
  refine T.eqs ?_
  unfold r10_taken
  refine T.lp (fun (k : Int) => 0 ≤ k ∧ k ≤ (l.length : Int) ∧ hasNum l v = hasNum (l.drop k.toNat) v) (fun (k : Int) => ((l.length : Int) - k).toNat) ⟨Int.le_refl _, by omega, rfl⟩ (by omega) fun L k ⟨h1, h2, h3⟩ hL => ?_
  refine T.br (fun hb => ?_) fun hb => T.some ?_
  · have hb := of_decide_eq_true hb
    refine T.get h1 hb fun y hy => ?_
    rw [drop_cons h1 hy] at h3
    refine T.jp (fun q => q = (y.has && decide (y.number = v))) (fun J h => T.br (fun h4 => T.get h1 hb fun y' hy' => h _ (by rw [hy] at hy'; cases hy'; rw [h4]; rfl)) fun h4 => h _ (by rw [h4]; rfl)) fun q hq => ?_
    subst hq
    rw [hasNum_cons] at h3
    refine T.br (fun h5 => T.some (by rw [h3, h5]; rfl)) fun h5 => T.ck (by omega) (hL _ ⟨by omega, by omega, ?_⟩ (by omega))
    rw [h3, h5, Bool.false_or]
  · have hb := of_decide_eq_false hb
    rw [List.drop_eq_nil_of_le (by omega)] at h3
    rw [h3]; rfl
def cntGe (l : List GItem) (v : Int) : Nat := (l.filter fun it => it.has && decide (v ≤ it.number)).length
theorem cntGe_le (l : List GItem) (v : Int) : cntGe l v ≤ l.length := List.length_filter_le _ _
theorem cntGe_mono (l : List GItem) (v : Int) : cntGe l (v + 1) ≤ cntGe l v := by
  unfold cntGe
  induction l with
  | nil => exact Nat.le_refl _
  | cons a l ih =>
    rw [List.filter_cons, List.filter_cons]
    by_cases h1 : a.has && decide (v + 1 ≤ a.number)
    · have h2 : (a.has && decide (v ≤ a.number)) = true := by
        simp only [Bool.and_eq_true, decide_eq_true_eq] at h1 ⊢
        exact ⟨h1.1, by omega⟩
      rw [if_pos h1, if_pos h2]; simp only [List.length_cons]; omega
    · rw [if_neg h1]
      split
      · simp only [List.length_cons]; omega
      · exact ih
theorem cntGe_taken {l : List GItem} {v : Int} (h : hasNum l v = true) : cntGe l (v + 1) + 1 ≤ cntGe l v := by
  induction l with
  | nil => cases h
  | cons a l ih =>
    unfold hasNum at h ih
    rw [List.any_cons, Bool.or_eq_true] at h
    have hm := cntGe_mono l v
    unfold cntGe at hm ih ⊢
    rw [List.filter_cons, List.filter_cons]
    by_cases h1 : (a.has && decide (a.number = v)) = true
    · simp only [Bool.and_eq_true, decide_eq_true_eq] at h1
      have h2 : ¬ (a.has && decide (v + 1 ≤ a.number)) = true := by
        simp only [Bool.and_eq_true, decide_eq_true_eq, not_and]
        intro _; omega
      have h3 : (a.has && decide (v ≤ a.number)) = true := by
        simp only [Bool.and_eq_true, decide_eq_true_eq]; exact ⟨h1.1, by omega⟩
      rw [if_neg h2, if_pos h3]; simp only [List.length_cons]; omega
    · have ih := ih (by rcases h with h | h; exact absurd h h1; exact h)
      by_cases h2 : (a.has && decide (v + 1 ≤ a.number)) = true
      · have h3 : (a.has && decide (v ≤ a.number)) = true := by
          simp only [Bool.and_eq_true, decide_eq_true_eq] at h2 ⊢; exact ⟨h2.1, by omega⟩
        rw [if_pos h2, if_pos h3]; simp only [List.length_cons]; omega
      · rw [if_neg h2]
        split
        · simp only [List.length_cons]; omega
        · exact ih
theorem items10_tot (x : GMk) (n : GNode) (ok : NodeOk n) (hk : n.root ≤ n.items.length) : T (fun r => r.2.m = x.m ∧ r.2.l = x.l ∧ (r.2.e = 0 → x.e = 0 ∧ r.1.length = n.items.length ∧ ∀ it ∈ r.1, I64 it.number)) (r10_maker_items x n) := by
  unfold r10_maker_items
  have hr0 := ok.root0
  have hil := ok.ilen
  have htk : (n.items.take n.root.toNat).drop (0 : Int).toNat = n.items.take n.root.toNat := rfl
  refine T.lp (ι := (List GItem) × Int × Int) (fun q => 0 ≤ q.2.2 ∧ q.2.2 ≤ n.root ∧ (q.1.length : Int) = q.2.2 ∧ 0 ≤ q.2.1 ∧ q.2.1 + (cntGe (n.items.take n.root.toNat) q.2.1 : Int) ≤ q.2.2 + n.root ∧ ∀ it ∈ q.1, I64 it.number) (fun q => (n.root - q.2.2).toNat)
    ⟨Int.le_refl _, hr0, rfl, Int.le_refl _, by
      have := cntGe_le (n.items.take n.root.toNat) 0
      rw [List.length_take] at this
      dsimp only; omega, by simp⟩ (by dsimp only; omega) fun L q ⟨h1, h2, h3, h4, h5, h6⟩ hL => ?_
  obtain ⟨out, next, i⟩ := q
  dsimp only at h1 h2 h3 h4 h5 h6 hL ⊢
  refine T.br (fun hb => ?_) fun hb => ?_
  · have hb := of_decide_eq_true hb
    refine T.get h1 (by omega) fun y hy => ?_
    have hyn : I64 y.number := ok.nums y (List.mem_of_getElem? hy)
    refine T.jp (ι := Int × GItem) (fun p => 0 ≤ p.1 ∧ p.1 + (cntGe (n.items.take n.root.toNat) p.1 : Int) ≤ i + 1 + n.root ∧ I64 p.2.number) (fun J h => T.br (fun _ => ?_) fun _ => h _ ⟨h4, by dsimp only; omega, hyn⟩) fun p ⟨p1, p2, p3⟩ => ?_
    · refine T.lp (fun (v : Int) => 0 ≤ v ∧ v + (cntGe (n.items.take n.root.toNat) v : Int) ≤ i + n.root) (fun (v : Int) => cntGe (n.items.take n.root.toNat) v) ⟨h4, h5⟩ (by have := cntGe_le (n.items.take n.root.toNat) next; rw [List.length_take] at this; omega) fun L2 v ⟨v1, v2⟩ hL2 => ?_
      refine T.asd ⟨Int.le_refl _, hr0, hk⟩ ?_
      rw [htk]
      refine T.eq (taken_eq _ v (by rw [List.length_take]; omega)) (T.br (fun ht => T.ck (by omega) (hL2 _ ⟨by omega, ?_⟩ ?_)) fun _ => T.ck (by omega) (h _ ⟨by dsimp only; omega, ?_, ?_⟩))
      · have := cntGe_taken ht; omega
      · have := cntGe_taken ht; omega
      · have := cntGe_mono (n.items.take n.root.toNat) v; dsimp only; omega
      · unfold I64; dsimp only; omega
    · refine T.abl (by simp only [List.length_singleton]; omega) (T.ck (by omega) (hL _ ⟨by dsimp only; omega, by dsimp only; omega, by dsimp only; rw [List.length_append, List.length_singleton]; omega, p1, p2, ?_⟩ (by dsimp only; omega)))
      intro it hit
      rcases List.mem_append.1 hit with h | h
      · exact h6 it h
      · rw [List.mem_singleton.1 h]; exact p3
  · have hb := of_decide_eq_false hb
    refine T.lp (ι := (List GItem) × Int × Bool × Bool × Int) (fun q => n.root ≤ q.2.2.2.2 ∧ q.2.2.2.2 ≤ n.items.length ∧ (q.1.length : Int) = q.2.2.2.2 ∧ ∀ it ∈ q.1, I64 it.number) (fun q => ((n.items.length : Int) - q.2.2.2.2).toNat) ⟨Int.le_refl _, hk, by dsimp only; omega, h6⟩ (by dsimp only; omega) fun L2 q ⟨k1, k2, k3, k4⟩ hL2 => ?_
    obtain ⟨o, rise, some_, twice_, j⟩ := q
    dsimp only at k1 k2 k3 k4 hL2 ⊢
    refine T.br (fun hb2 => ?_) fun hb2 => ?_
    · have hb2 := of_decide_eq_true hb2
      refine T.get (by omega) hb2 fun y hy => ?_
      have hyn : I64 y.number := ok.nums y (List.mem_of_getElem? hy)
      refine T.jp (ι := GItem) (fun p => I64 p.number) (fun J h => T.br (fun _ => ?_) fun _ => h _ hyn) fun p hp => ?_
      · refine T.lp (ι := Int × GItem) (fun p => 0 ≤ p.1 ∧ p.1 ≤ o.length ∧ I64 p.2.number) (fun p => ((o.length : Int) - p.1).toNat) ⟨Int.le_refl _, by dsimp only; omega, by unfold I64; dsimp only; omega⟩ (by dsimp only; omega) fun L3 p ⟨p1, p2, p3⟩ hL3 => ?_
        obtain ⟨k, it⟩ := p
        dsimp only at p1 p2 p3 hL3 ⊢
        refine T.br (fun hb3 => ?_) fun _ => h _ p3
        have hb3 := of_decide_eq_true hb3
        refine T.jp (ι := GItem) (fun it => I64 it.number) (fun J2 h2 => T.get p1 hb3 fun z hz => T.br (fun _ => ?_) fun hne => ?_) fun it2 hit2 => T.ck (by omega) (hL3 _ ⟨by dsimp only; omega, by dsimp only; omega, hit2⟩ (by dsimp only; omega))
        · refine T.eq (fail10_eq _ _) (T.some ⟨?_, ?_, ?_⟩)
          · dsimp only; split <;> rfl
          · dsimp only; split <;> rfl
          · dsimp only
            split
            · intro h; cases h
            · rename_i hx; intro h; exact absurd h hx
        · have hz1 : I64 z.number := k4 z (List.mem_of_getElem? hz)
          have hne := of_decide_eq_false hne
          refine T.jp (fun _ => True) (fun J3 h3 => T.br (fun _ => h3 _ trivial) fun _ => T.get p1 hb3 fun _ _ => h3 _ trivial) fun q _ => T.br (fun _ => T.get p1 hb3 fun z2 hz2 => ?_) fun _ => h2 _ p3
          rw [hz] at hz2; cases hz2
          unfold I64 at hz1
          exact T.ck (by omega) (h2 _ (by unfold I64; dsimp only; omega))
      · refine T.jp (fun _ => True) (fun J h => T.br (fun _ => h _ trivial) fun _ => T.jp (fun _ => True) (fun J2 h2 => T.br (fun _ => h2 _ trivial) fun _ => h2 _ trivial) fun _ _ => h _ trivial) fun q _ => ?_
        refine T.abl (by simp only [List.length_singleton]; omega) (T.ck (by omega) (hL2 _ ⟨by dsimp only; omega, by dsimp only; omega, by dsimp only; rw [List.length_append, List.length_singleton]; omega, ?_⟩ (by dsimp only; omega)))
        intro it hit
        rcases List.mem_append.1 hit with h | h
        · exact k4 it h
        · rw [List.mem_singleton.1 h]; exact hp
    · have hb2 := of_decide_eq_false hb2
      refine T.lp (ι := Bool × Int) (fun q => 0 ≤ q.2 ∧ q.2 ≤ o.length) (fun q => ((o.length : Int) - q.2).toNat) ⟨Int.le_refl _, by dsimp only; omega⟩ (by dsimp only; omega) fun L3 q ⟨p1, p2⟩ hL3 => ?_
      obtain ⟨tw, k⟩ := q
      dsimp only at p1 p2 hL3 ⊢
      refine T.br (fun hb3 => ?_) fun _ => ?_
      · have hb3 := of_decide_eq_true hb3
        refine T.lp (ι := Bool × Int) (fun q => 0 ≤ q.2 ∧ q.2 ≤ k) (fun q => (k - q.2).toNat) ⟨Int.le_refl _, p1⟩ (by dsimp only; omega) fun L4 q ⟨s1, s2⟩ hL4 => ?_
        refine T.br (fun hb4 => ?_) fun _ => T.ck (by omega) (hL3 _ ⟨by dsimp only; omega, by dsimp only; omega⟩ (by dsimp only; omega))
        have hb4 := of_decide_eq_true hb4
        refine T.jp (fun _ => True) (fun J h => T.br (fun _ => h _ trivial) fun _ => T.get s1 (by omega) fun _ _ => T.get p1 hb3 fun _ _ => h _ trivial) fun q2 _ => T.jp (fun _ => True) (fun J h => T.br (fun _ => h _ trivial) fun _ => T.get s1 (by omega) fun _ _ => T.get p1 hb3 fun _ _ => h _ trivial) fun q3 _ => T.ck (by omega) (hL4 _ ⟨by dsimp only; omega, by dsimp only; omega⟩ (by dsimp only; omega))
      · refine T.jp (ι := GMk) (fun y => y.m = x.m ∧ y.l = x.l ∧ (y.e = 0 → x.e = 0)) (fun J h => T.br (fun _ => T.eq (fail10_eq _ _) (h _ ?_)) fun _ => h _ ⟨rfl, rfl, fun h => h⟩) fun y hy => T.some ⟨hy.1, hy.2.1, fun e => ⟨hy.2.2 e, by dsimp only; omega, k4⟩⟩
        refine ⟨by split <;> rfl, by split <;> rfl, ?_⟩
        split
        · intro h; cases h
        · rename_i hx; intro h; exact absurd h hx

/-! ### UTF-8 -/
theorem tkl {α : Type} (l : List α) : l.take ((l.length : Int)).toNat = l := by rw [Int.toNat_natCast, List.take_length]
theorem word_tot8 (s : List UInt8) (h : 8 ≤ s.length) : T (fun _ => True) (utf8_word_Lbyte s) := by
  unfold utf8_word_Lbyte
  refine T.get (by omega) (by omega) fun _ _ => T.get (by omega) (by omega) fun _ _ => T.asr (by decide) (T.get (by omega) (by omega) fun _ _ => T.asr (by decide) (T.get (by omega) (by omega) fun _ _ => T.asr (by decide) (T.get (by omega) (by omega) fun _ _ => T.asr (by decide) (T.get (by omega) (by omega) fun _ _ => T.asr (by decide) (T.get (by omega) (by omega) fun _ _ => T.asr (by decide) (T.get (by omega) (by omega) fun _ _ => T.asr (by decide) (T.some trivial)))))))
theorem tab1_hi (y : UInt8) : (shr8 (tab1 y) (4 : UInt64).toNat).toNat < 16 := by
  unfold shr8
  have h := (tab1 y).toNat_lt
  have e : (4 : UInt64).toNat = 4 := rfl
  rw [e, UInt8.toNat_ofNat', show (2 : Nat) ^ 4 = 16 from rfl]
  omega
theorem utf8_tot (p : List UInt8) (hp : p.length ≤ 1000000) : T (fun _ => True) (utf8_Valid p) := by
  unfold utf8_Valid
  have e1 : (1 : Int).toNat = 1 := rfl
  have e2 : (2 : Int).toNat = 2 := rfl
  have e3 : (3 : Int).toNat = 3 := rfl
  have e4 : (4 : Int).toNat = 4 := rfl
  have e8 : (8 : Int).toNat = 8 := rfl
  have e16 : (16 : Int).toNat = 16 := rfl
  have e24 : (24 : Int).toNat = 24 := rfl
  have e32 : (32 : Int).toNat = 32 := rfl
  simp only [tkl, e1, e2, e3, e4, e8, e16, e24, e32, List.drop_drop]
  refine T.asd ⟨by omega, Int.le_refl _⟩ (T.lp (fun (q : List UInt8) => q.length ≤ 1000000) (fun (q : List UInt8) => q.length) hp (by omega) fun L q hq hL => ?_)
  refine T.br (fun hb => ?_) fun _ => T.some trivial
  have hb := of_decide_eq_true hb
  refine T.get (by omega) hb fun y hy => T.br (fun _ => ?_) fun _ => ?_
  · have hd1 : (q.drop 1).length = q.length - 1 := List.length_drop
    refine T.asd ⟨by omega, by omega, by omega⟩ ?_
    refine T.jp (fun b => b = true → 8 < (q.drop 1).length) (fun J h => T.br (fun h2 => ?_) fun _ => h _ fun h => by cases h) fun b hb1 => ?_
    · have h2 := of_decide_eq_true h2
      exact T.cal (word_tot8 _ (by omega)) fun _ _ _ => h _ fun _ => by omega
    refine T.jp (fun (r : List UInt8) => r.length < q.length) (fun J h => T.br (fun h2 => ?_) fun _ => h _ (by omega)) fun r hr => hL _ (by omega) hr
    have h2 := hb1 h2
    have hd9 : (q.drop (1 + 8)).length = q.length - 9 := List.length_drop
    refine T.asd ⟨by omega, by omega, by omega⟩ ?_
    refine T.jp (fun b => b = true → 16 < (q.drop (1 + 8)).length) (fun J2 h3 => T.br (fun h4 => ?_) fun _ => h3 _ fun h => by cases h) fun b2 hb2 => ?_
    · have h4 := of_decide_eq_true h4
      have hd17 : (q.drop (1 + 8 + 8)).length = q.length - 17 := List.length_drop
      exact T.asd ⟨by omega, by omega, by omega⟩ (T.cal (word_tot8 _ (by omega)) fun _ _ _ => T.cal (word_tot8 _ (by omega)) fun _ _ _ => h3 _ fun _ => by omega)
    refine T.br (fun h5 => ?_) fun _ => h _ (by omega)
    have h5 := hb2 h5
    have hd25 : (q.drop (1 + 8 + 16)).length = q.length - 25 := List.length_drop
    refine T.asd ⟨by omega, by omega, by omega⟩ (T.lp (fun (r : List UInt8) => r.length < q.length) (fun (r : List UInt8) => r.length) (by omega) (by omega) fun L2 r hr hL2 => ?_)
    have r8 : (r.drop 8).length = r.length - 8 := List.length_drop
    have r16 : (r.drop 16).length = r.length - 16 := List.length_drop
    have r24 : (r.drop 24).length = r.length - 24 := List.length_drop
    have r32 : (r.drop 32).length = r.length - 32 := List.length_drop
    refine T.jp (fun b => b = true → 32 < r.length) (fun J2 h3 => T.br (fun h6 => ?_) fun _ => h3 _ fun h => by cases h) fun b3 hb3 => ?_
    · have h6 := of_decide_eq_true h6
      exact T.asd ⟨by omega, by omega, by omega⟩ (T.asd ⟨by omega, by omega, by omega⟩ (T.asd ⟨by omega, by omega, by omega⟩ (T.cal (word_tot8 _ (by omega)) fun _ _ _ => T.cal (word_tot8 _ (by omega)) fun _ _ _ => T.cal (word_tot8 _ (by omega)) fun _ _ _ => T.cal (word_tot8 _ (by omega)) fun _ _ _ => h3 _ fun _ => by omega)))
    · refine T.br (fun h6 => ?_) fun _ => h _ hr
      have h6 := hb3 h6
      exact T.asd ⟨by omega, by omega, by omega⟩ (hL2 _ (by omega) (by omega))
  · have hd2 : (q.drop 2).length = q.length - 2 := List.length_drop
    have hd3 : (q.drop 3).length = q.length - 3 := List.length_drop
    have hd4 : (q.drop 4).length = q.length - 4 := List.length_drop
    have ht : Nat.blt (shr8 (tab1 y) (4 : UInt64).toNat).toNat 16 = true := by have := tab1_hi y; simpa using this
    have or1 : ∀ {β : Type} {R : β → Prop} {b : Bool} {n : Nat} {f : UInt8 → Bool} {i : Int} {K : Bool → Option β}, (b = false → (n : Int) ≤ q.length) → 0 ≤ i → i < n → (∀ c, (c = false → (n : Int) ≤ q.length) → T R (K c)) → T R (jp (ι := Bool) (fun J => br b (J true) (cal (getI q i) fun z => J (f z))) K) := fun {β R b n f i K} h1 h2 h3 h4 => T.jp (fun c => c = false → (n : Int) ≤ q.length) (fun J h => T.br (fun _ => h _ fun h => by cases h) fun hb => T.get h2 (by have := h1 hb; omega) fun _ _ => h _ fun _ => h1 hb) h4
    have lt1 : ∀ {n : Nat}, decide ((q.length : Int) < (n : Int)) = false → (n : Int) ≤ q.length := fun {n} h => by have := of_decide_eq_false h; omega
    refine T.asr (by decide) (T.asr ht (T.br (fun _ => ?_) fun _ => T.br (fun _ => ?_) fun _ => T.br (fun _ => ?_) fun _ => T.some trivial))
    · refine or1 (n := 2) lt1 (by omega) (by omega) fun c1 k1 => or1 (n := 2) k1 (by omega) (by omega) fun c2 k2 => T.br (fun _ => T.some trivial) fun h6 => ?_
      have := k2 h6
      exact T.asd ⟨by omega, by omega, by omega⟩ (hL _ (by omega) (by omega))
    · refine or1 (n := 3) lt1 (by omega) (by omega) fun c1 k1 => or1 (n := 3) k1 (by omega) (by omega) fun c2 k2 => or1 (n := 3) k2 (by omega) (by omega) fun c3 k3 => or1 (n := 3) k3 (by omega) (by omega) fun c4 k4 => T.br (fun _ => T.some trivial) fun h6 => ?_
      have := k4 h6
      exact T.asd ⟨by omega, by omega, by omega⟩ (hL _ (by omega) (by omega))
    · refine or1 (n := 4) lt1 (by omega) (by omega) fun c1 k1 => or1 (n := 4) k1 (by omega) (by omega) fun c2 k2 => or1 (n := 4) k2 (by omega) (by omega) fun c3 k3 => or1 (n := 4) k3 (by omega) (by omega) fun c4 k4 => or1 (n := 4) k4 (by omega) (by omega) fun c5 k5 => or1 (n := 4) k5 (by omega) (by omega) fun c6 k6 => T.br (fun _ => T.some trivial) fun h6 => ?_
      have := k6 h6
      exact T.asd ⟨by omega, by omega, by omega⟩ (hL _ (by omega) (by omega))
end Go.Proofs.YtajbipkppngccaaDoor


namespace Go.Proofs.YtajbipkppngccaaDoor
open Go.Sy
set_option linter.unusedVariables false

def kidsT (t : GTyp) : List Int := t.fields.map (fun f => f.ty) ++ (if t.kind = 10 then [t.of] else [])
structure TypOk (t : GTyp) : Prop where
  tags : t.kind ≠ 9 → t.tags ≠ []
  tlen : t.tags.length ≤ 100000
  root0 : 0 ≤ t.root
  rootF : t.kind = 7 ∨ t.kind = 8 ∨ t.kind = 9 → t.root ≤ t.fields.length
  rootI : t.kind = 3 → t.root ≤ t.items.length
  fields : ¬ (t.kind = 7 ∨ t.kind = 8 ∨ t.kind = 9) → t.fields = []
  items : t.kind ≠ 3 → t.items = []
  ilen : t.items.length ≤ 8001
  nums : ∀ it ∈ t.items, I64 it.number
  dflt : ∀ f ∈ t.fields, DOk f.dflt
  rootZ : t.kind ≠ 3 → ¬ (t.kind = 7 ∨ t.kind = 8 ∨ t.kind = 9) → t.root = 0
def SubT : Nat → List GTyp → Nat → Nat → Prop
  | 0, _, _, _ => False
  | h + 1, l, i, j => ∃ t, l[i]? = some t ∧ TypOk t ∧ Kids (SubT h l) (kidsT t) (i + 1) j
theorem SubT.lt : ∀ {h l i j}, SubT h l i j → i < j := by
  intro h
  induction h with
  | zero => intro l i j h; exact h.elim
  | succ h ih => intro l i j ⟨n, _, _, h2⟩; exact Kids.le (fun x y h => Nat.le_of_lt (ih h)) h2
theorem SubT.mono : ∀ {h l l' i j}, (∀ k, i ≤ k → k < j → l'[k]? = l[k]?) → SubT h l i j → SubT h l' i j := by
  intro h
  induction h with
  | zero => intro l l' i j _ h; exact h
  | succ h ih =>
    intro l l' i j hl hs
    have hlt := hs.lt
    obtain ⟨n, h1, h0, h2⟩ := hs
    refine ⟨n, by rw [hl i (Nat.le_refl _) hlt]; exact h1, h0, Kids.mono (fun x y h => Nat.le_of_lt h.lt) (fun x y hx hy hs => ih (fun k h3 h4 => hl k (by omega) (by omega)) hs) h2⟩
theorem KidsT.monoL {h l l' r a b} (hl : ∀ k, a ≤ k → k < b → l'[k]? = l[k]?) (hk : Kids (SubT h l) r a b) : Kids (SubT h l') r a b :=
  Kids.mono (fun x y h => Nat.le_of_lt h.lt) (fun x y hx hy hs => hs.mono fun k h3 h4 => hl k (by omega) (by omega)) hk
theorem SubT.up : ∀ {h l i j}, SubT h l i j → SubT (h + 1) l i j := by
  intro h
  induction h with
  | zero => intro l i j h; exact h.elim
  | succ h ih =>
    intro l i j ⟨n, h1, h0, h2⟩
    exact ⟨n, h1, h0, Kids.mono (fun x y h => Nat.le_of_lt h.lt) (fun x y _ _ hs => ih hs) h2⟩
theorem SubT.set {h l i j t t'} (hs : SubT h l i j) (ht : l[i]? = some t) (ok : TypOk t') (hk : kidsT t' = kidsT t) : SubT h (l.set i t') i j := by
  cases h with
  | zero => exact hs
  | succ h =>
    obtain ⟨n, h1, h0, h2⟩ := hs
    rw [ht] at h1; cases h1
    have hlt := (List.getElem?_eq_some_iff.1 ht).1
    refine ⟨t', by rw [List.getElem?_set_self hlt], ok, ?_⟩
    rw [hk]
    exact KidsT.monoL (fun k h3 h4 => List.getElem?_set_ne (by omega)) h2
theorem Kids.mem3 {S : Nat → Nat → Prop} (hS : ∀ x y, S x y → x ≤ y) {k : Int} : ∀ {r a b}, Kids S r a b → k ∈ r → ∃ (c d : Nat), k = (c : Int) ∧ S c d ∧ a ≤ c ∧ d ≤ b := by
  intro r
  induction r with
  | nil => intro a b _ h; cases h
  | cons x r ih =>
    intro a b ⟨c, h0, h1, h2⟩ hm
    have h3 := Kids.le hS h2
    rcases List.mem_cons.1 hm with e | e
    · exact ⟨a, c, e.trans h0, h1, Nat.le_refl _, h3⟩
    · obtain ⟨c', d', k1, k2, k3, k4⟩ := ih h2 e
      have := hS _ _ h1
      exact ⟨c', d', k1, k2, by omega, k4⟩
theorem SubT.le' {h l} : ∀ x y, SubT h l x y → x ≤ y := fun x y h => Nat.le_of_lt h.lt
theorem kidsT_f {t : GTyp} (f : GFld) (hf : f ∈ t.fields) : f.ty ∈ kidsT t := List.mem_append_left _ (List.mem_map.2 ⟨f, hf, rfl⟩)
theorem SubT.inb : ∀ {h l i j}, SubT h l i j → j ≤ l.length := by
  intro h
  induction h with
  | zero => intro l i j h; exact h.elim
  | succ h ih =>
    intro l i j ⟨t, h1, h0, h2⟩
    have hi := (List.getElem?_eq_some_iff.1 h1).1
    have : ∀ (r : List Int) (a b : Nat), Kids (SubT h l) r a b → a ≤ l.length → b ≤ l.length := by
      intro r
      induction r with
      | nil => intro a b h2 ha; cases h2; exact ha
      | cons x r ih2 => intro a b ⟨c, k1, k2, k3⟩ ha; exact ih2 c b k3 (ih k2)
    exact this _ _ _ h2 (by omega)

/-! ### By which tags they begin -/
def bgs : Nat → List GTyp → Int → List Tag
  | 0, _, _ => []
  | h + 1, l, i => match (if 0 ≤ i then l[i.toNat]? else none) with
    | none => []
    | some t => if 0 < t.tags.length then t.tags.take 1 else t.fields.flatMap fun f => bgs h l f.ty
def wld : Nat → List GTyp → Int → Bool
  | 0, _, _ => false
  | h + 1, l, i => match (if 0 ≤ i then l[i.toNat]? else none) with
    | none => false
    | some t => if t.kind ≠ 9 ∨ 0 < t.tags.length then false else t.more || t.fields.any fun f => wld h l f.ty
theorem bgs_at {l : List GTyp} {h i : Nat} {t : GTyp} (e : l[i]? = some t) : bgs (h + 1) l (i : Int) = if 0 < t.tags.length then t.tags.take 1 else t.fields.flatMap fun f => bgs h l f.ty := by
  conv => lhs; unfold bgs
  rw [if_pos (by omega), Int.toNat_natCast, e]
theorem wld_at {l : List GTyp} {h i : Nat} {t : GTyp} (e : l[i]? = some t) : wld (h + 1) l (i : Int) = if t.kind ≠ 9 ∨ 0 < t.tags.length then false else t.more || t.fields.any fun f => wld h l f.ty := by
  conv => lhs; unfold wld
  rw [if_pos (by omega), Int.toNat_natCast, e]
theorem kids_flat {h : Nat} {l : List GTyp} (F : Int → List Tag) (hF : ∀ x y, SubT h l x y → (F (x : Int)).length ≤ y - x) : ∀ {r : List Int} {a b : Nat}, Kids (SubT h l) r a b → (r.flatMap F).length ≤ b - a := by
  intro r
  induction r with
  | nil => intro a b _; simp
  | cons k r ih =>
    intro a b ⟨c, h0, h1, h2⟩
    have e1 := hF _ _ h1
    have e2 := ih h2
    have e3 := h1.lt
    have e4 := Kids.le SubT.le' h2
    rw [List.flatMap_cons, List.length_append, h0]
    omega
theorem Kids.app {S : Nat → Nat → Prop} {ys : List Int} : ∀ {xs : List Int} {a b : Nat}, Kids S (xs ++ ys) a b → ∃ c, Kids S xs a c ∧ Kids S ys c b := by
  intro xs
  induction xs with
  | nil => intro a b h; exact ⟨a, rfl, h⟩
  | cons x xs ih =>
    intro a b ⟨c, h0, h1, h2⟩
    obtain ⟨d, h3, h4⟩ := ih h2
    exact ⟨d, ⟨c, h0, h1, h3⟩, h4⟩
theorem bgs_len : ∀ {h l i j}, SubT h l i j → (bgs h l (i : Int)).length ≤ j - i := by
  intro h
  induction h with
  | zero => intro l i j h; exact h.elim
  | succ h ih =>
    intro l i j hs
    have hlt := hs.lt
    obtain ⟨t, h1, h0, h2⟩ := hs
    rw [bgs_at h1]
    split
    · rw [List.length_take]; omega
    · unfold kidsT at h2
      obtain ⟨c, h3, h4⟩ := Kids.app h2
      have := kids_flat (bgs h l) (fun x y hs => ih hs) h3
      rw [List.flatMap_map] at this
      have e4 := Kids.le SubT.le' h4
      have e3 := Kids.le SubT.le' h3
      omega
theorem take_flat {α β : Type} {l : List α} {f : α → List β} {k : Nat} {y : α} (h : l[k]? = some y) : (l.take (k + 1)).flatMap f = (l.take k).flatMap f ++ f y := by
  rw [List.take_add_one, h]
  simp
theorem flat_take_le {α β : Type} {l : List α} {f : α → List β} {k : Nat} : ((l.take k).flatMap f).length ≤ (l.flatMap f).length := by
  conv => rhs; rw [← List.take_append_drop k l]
  rw [List.flatMap_append, List.length_append]
  omega
theorem begins10_eq : ∀ {h n l i j}, SubT h l i j → h ≤ n → l.length ≤ 1000 → r10_begins n l (i : Int) = some (bgs h l (i : Int)) := by
  intro h
  induction h with
  | zero => intro n l i j h; exact h.elim
  | succ h ih =>
    intro n l i j hs hn hl
    obtain ⟨n, rfl⟩ : ∃ n', n = n' + 1 := ⟨n - 1, by omega⟩
    have hjl := hs.inb
    have hbl := bgs_len hs
    have hlt := hs.lt
    obtain ⟨t, h1, h0, h2⟩ := hs
    have hti : (i : Int).toNat = i := Int.toNat_natCast i
    have hget : ∀ {β : Type} {R : β → Prop} {K : GTyp → Option β}, T R (K t) → T R (asr (decide (0 ≤ (i : Int) ∧ (i : Int) < ((l.length : Nat) : Int))) (cal (l[(i : Int).toNat]?) K)) := fun h => T.asd ⟨by omega, by omega⟩ (by rw [hti]; exact T.eq h1 h)
    refine T.eqs ?_
    show T _ (r10_begins_F (r10_begins n) l (i : Int))
    unfold r10_begins_F
    rw [bgs_at h1] at hbl ⊢
    refine hget (T.br (fun hb => hget (T.asd ⟨Int.le_refl _, by omega, by have := of_decide_eq_true hb; omega⟩ (T.some ?_))) fun hb => ?_)
    · have hb := of_decide_eq_true hb
      rw [if_pos (by omega)]; rfl
    have hb := of_decide_eq_false hb
    rw [if_neg (by omega)] at hbl ⊢
    have hfl : ∀ (k : Nat), (((t.fields.take k).flatMap fun f => bgs h l f.ty)).length ≤ 1000 := fun k => by
      have := flat_take_le (l := t.fields) (f := fun f => bgs h l f.ty) (k := k)
      omega
    have hfc : t.fields.length ≤ 1000 := by
      unfold kidsT at h2
      obtain ⟨c, h3, h4⟩ := Kids.app h2
      have e : ∀ (r : List Int) (a b : Nat), Kids (SubT h l) r a b → r.length ≤ b - a := by
        intro r
        induction r with
        | nil => intro a b _; exact Nat.zero_le _
        | cons x r ih2 =>
          intro a b ⟨c, k0, k1, k2⟩
          have := ih2 _ _ k2
          have := k1.lt
          have := Kids.le SubT.le' k2
          simp only [List.length_cons]; omega
      have := e _ _ _ h3
      rw [List.length_map] at this
      have := Kids.le SubT.le' h4
      omega
    refine T.lp (ι := List Tag × Int) (fun q => 0 ≤ q.2 ∧ q.2 ≤ t.fields.length ∧ q.1 = (t.fields.take q.2.toNat).flatMap fun f => bgs h l f.ty) (fun q => ((t.fields.length : Int) - q.2).toNat) ⟨Int.le_refl _, by dsimp only; omega, rfl⟩ (by dsimp only; omega) fun L q ⟨q1, q2, q3⟩ hL => ?_
    obtain ⟨o, k⟩ := q
    dsimp only at q1 q2 q3 hL ⊢
    refine hget (T.br (fun hb2 => ?_) fun hb2 => T.some ?_)
    · have hb2 := of_decide_eq_true hb2
      refine hget (T.get q1 hb2 fun f hf => ?_)
      obtain ⟨c, d, e1, e2, e3, e4⟩ := Kids.mem3 SubT.le' h2 (kidsT_f f (List.mem_of_getElem? hf))
      rw [e1]
      have hk1 : (k + 1).toNat = k.toNat + 1 := by omega
      have hnx := take_flat (f := fun f : GFld => bgs h l f.ty) hf
      have hle := hfl (k.toNat + 1)
      rw [hnx, List.length_append, e1] at hle
      have hle2 := hfl k.toNat
      refine T.eq (ih e2 (by omega) hl) (T.abl (by rw [q3]; omega) (T.ck (by omega) (hL _ ⟨by dsimp only; omega, by dsimp only; omega, ?_⟩ (by dsimp only; omega))))
      dsimp only
      rw [hk1, hnx, q3, e1]
    · have hb2 := of_decide_eq_false hb2
      rw [q3, List.take_of_length_le (by omega)]
theorem wild10_eq : ∀ {h n l i j}, SubT h l i j → h ≤ n → l.length ≤ 1000 → r10_wild n l (i : Int) = some (wld h l (i : Int)) := by
  intro h
  induction h with
  | zero => intro n l i j h; exact h.elim
  | succ h ih =>
    intro n l i j hs hn hl
    obtain ⟨n, rfl⟩ : ∃ n', n = n' + 1 := ⟨n - 1, by omega⟩
    have hjl := hs.inb
    have hlt := hs.lt
    obtain ⟨t, h1, h0, h2⟩ := hs
    have hti : (i : Int).toNat = i := Int.toNat_natCast i
    have hget : ∀ {β : Type} {R : β → Prop} {K : GTyp → Option β}, T R (K t) → T R (asr (decide (0 ≤ (i : Int) ∧ (i : Int) < ((l.length : Nat) : Int))) (cal (l[(i : Int).toNat]?) K)) := fun h => T.asd ⟨by omega, by omega⟩ (by rw [hti]; exact T.eq h1 h)
    refine T.eqs ?_
    show T _ (r10_wild_F (r10_wild n) l (i : Int))
    unfold r10_wild_F
    rw [wld_at h1]
    have hfc : t.fields.length ≤ 1000 := by
      unfold kidsT at h2
      obtain ⟨c, h3, h4⟩ := Kids.app h2
      have e : ∀ (r : List Int) (a b : Nat), Kids (SubT h l) r a b → r.length ≤ b - a := by
        intro r
        induction r with
        | nil => intro a b _; exact Nat.zero_le _
        | cons x r ih2 =>
          intro a b ⟨c, k0, k1, k2⟩
          have := ih2 _ _ k2
          have := k1.lt
          have := Kids.le SubT.le' k2
          simp only [List.length_cons]; omega
      have := e _ _ _ h3
      rw [List.length_map] at this
      have := Kids.le SubT.le' h4
      omega
    refine hget (T.jp (fun b => b = decide (t.kind ≠ 9 ∨ 0 < t.tags.length)) (fun J hJ => T.br (fun hb => hJ _ ?_) fun hb => hget (hJ _ ?_)) fun b hb => ?_)
    · have : ¬ t.kind = 9 := by simpa using hb
      rw [decide_eq_true (.inl this)]
    · have : t.kind = 9 := by simpa using hb
      rw [decide_eq_decide]; omega
    subst hb
    refine T.br (fun hb => T.some ?_) fun hb => hget ?_
    · rw [if_pos (of_decide_eq_true hb)]
    rw [if_neg (of_decide_eq_false hb)]
    refine T.lp (ι := Bool × Int) (fun q => 0 ≤ q.2 ∧ q.2 ≤ t.fields.length ∧ q.1 = (t.more || (t.fields.take q.2.toNat).any fun f => wld h l f.ty)) (fun q => ((t.fields.length : Int) - q.2).toNat) ⟨Int.le_refl _, by dsimp only; omega, by simp⟩ (by dsimp only; omega) fun L q ⟨q1, q2, q3⟩ hL => ?_
    obtain ⟨o, k⟩ := q
    dsimp only at q1 q2 q3 hL ⊢
    refine hget (T.br (fun hb2 => ?_) fun hb2 => T.some ?_)
    · have hb2 := of_decide_eq_true hb2
      have hk1 : (k + 1).toNat = k.toNat + 1 := by omega
      obtain ⟨f, hf⟩ : ∃ f, t.fields[k.toNat]? = some f := ⟨_, List.getElem?_eq_getElem (by omega)⟩
      have hnx : (t.fields.take (k.toNat + 1)).any (fun f => wld h l f.ty) = ((t.fields.take k.toNat).any (fun f => wld h l f.ty) || wld h l f.ty) := by
        rw [List.take_add_one, hf]; simp
      refine T.jp (fun b => b = (o || wld h l f.ty)) (fun J hJ => T.br (fun hb => hJ _ (by rw [hb]; rfl)) fun hb => hget (T.get q1 hb2 fun f' hf' => ?_)) fun b hb => T.ck (by omega) (hL _ ⟨by dsimp only; omega, by dsimp only; omega, by dsimp only; rw [hk1, hnx, hb, q3, Bool.or_assoc]⟩ (by dsimp only; omega))
      rw [hf] at hf'; cases hf'
      obtain ⟨c, d, e1, e2, e3, e4⟩ := Kids.mem3 SubT.le' h2 (kidsT_f f (List.mem_of_getElem? hf))
      rw [e1] at hJ ⊢
      exact T.eq (ih e2 (by omega) hl) (hJ _ (by rw [hb]; rfl))
    · have hb2 := of_decide_eq_false hb2
      rw [q3, List.take_of_length_le (by omega)]

/-! ### Told apart -/
theorem in_tag_eq (l : List Tag) (x : Tag) (hl : l.length ≤ 1000000) : h_In_api_Tag l x = some (decide (x ∈ l)) := by
  refine T.eqs ?_
  unfold h_In_api_Tag
  refine T.lp (fun (k : Int) => 0 ≤ k ∧ k ≤ (l.length : Int) ∧ x ∉ l.take k.toNat) (fun (k : Int) => ((l.length : Int) - k).toNat) ⟨Int.le_refl _, by omega, by simp⟩ (by omega) fun L k hk hL => ?_
  refine T.br (fun h2 => ?_) fun h2 => T.some ?_
  · have h2 := of_decide_eq_true h2
    refine T.get hk.1 h2 fun y hy => T.br (fun h3 => T.some ?_) fun h3 => T.ck (by omega) (hL _ ⟨by omega, by omega, ?_⟩ (by omega))
    · have h3 := of_decide_eq_true h3
      subst h3
      exact (decide_eq_true (List.mem_of_getElem? hy)).symm
    · have h3 := of_decide_eq_false h3
      have e : (k + 1).toNat = k.toNat + 1 := by omega
      rw [e, List.take_add_one, hy]
      simp only [Option.toList_some, List.mem_append, List.mem_singleton, not_or]
      exact ⟨hk.2.2, fun h => h3 h.symm⟩
  · have h2 := of_decide_eq_false h2
    have h4 := hk.2.2
    rw [List.take_of_length_le (by omega)] at h4
    exact (decide_eq_false h4).symm
theorem flat_snoc_list {α : Type} {l : List (List α)} {k : Nat} {y : List α} (h : l[k]? = some y) : (l.take (k + 1)).flatten = (l.take k).flatten ++ y := by
  rw [List.take_add_one, h]; simp
theorem flat_le {α : Type} (l : List (List α)) (k : Nat) : ((l.take k).flatten).length ≤ l.flatten.length := by
  conv => rhs; rw [← List.take_append_drop k l]
  rw [List.flatten_append, List.length_append]
  omega
theorem distinct9_eq (s : List (List Tag)) (h1 : s.length ≤ 10000) (h2 : s.flatten.length ≤ 100000) : r09_Distinct s = some (decide s.flatten.Nodup) := by
  refine T.eqs ?_
  unfold r09_Distinct
  refine T.lp (ι := List Tag × Int) (fun q => 0 ≤ q.2 ∧ q.2 ≤ s.length ∧ q.1 = (s.take q.2.toNat).flatten ∧ q.1.Nodup) (fun q => ((s.length : Int) - q.2).toNat) ⟨Int.le_refl _, by dsimp only; omega, rfl, List.nodup_nil⟩ (by dsimp only; omega) fun L q ⟨q1, q2, q3, q4⟩ hL => ?_
  obtain ⟨o, k⟩ := q
  dsimp only at q1 q2 q3 q4 hL ⊢
  refine T.br (fun hb => ?_) fun hb => T.some ?_
  · have hb := of_decide_eq_true hb
    obtain ⟨y, hy⟩ : ∃ y, s[k.toNat]? = some y := ⟨_, List.getElem?_eq_getElem (by omega)⟩
    have hk1 : (k + 1).toNat = k.toNat + 1 := by omega
    have hnx := flat_snoc_list hy
    have hle := flat_le s (k.toNat + 1)
    rw [hnx, List.length_append] at hle
    have hget : ∀ {β : Type} {R : β → Prop} {K : List Tag → Option β}, T R (K y) → T R (cal (getI s k) K) := fun h => T.get q1 hb fun y' hy' => by rw [hy] at hy'; cases hy'; exact h
    have hpre : ∀ n : Nat, n ≤ y.length → ¬ ((s.take k.toNat).flatten ++ y.take n).Nodup → ¬ s.flatten.Nodup := fun n hn hno h => hno (by
      have e : s.flatten = ((s.take k.toNat).flatten ++ y.take n) ++ (y.drop n ++ (s.drop (k.toNat + 1)).flatten) := by
        conv => lhs; rw [← List.take_append_drop (k.toNat + 1) s]
        rw [List.flatten_append, hnx]
        conv => lhs; rw [← List.take_append_drop n y]
        simp only [List.append_assoc]
      rw [e] at h
      exact (List.nodup_append.1 h).1)
    refine T.lp (ι := List Tag × Int) (fun p => 0 ≤ p.2 ∧ p.2 ≤ y.length ∧ p.1 = (s.take k.toNat).flatten ++ y.take p.2.toNat ∧ p.1.Nodup) (fun p => ((y.length : Int) - p.2).toNat) ⟨Int.le_refl _, by dsimp only; omega, by dsimp only; rw [q3]; simp, q4⟩ (by dsimp only; omega) fun L2 p ⟨p1, p2, p3, p4⟩ hL2 => ?_
    obtain ⟨o2, i⟩ := p
    dsimp only at p1 p2 p3 p4 hL2 ⊢
    have hi1 : (i + 1).toNat = i.toNat + 1 := by omega
    refine hget (T.br (fun hb2 => ?_) fun hb2 => T.ck (by omega) (hL _ ⟨by dsimp only; omega, by dsimp only; omega, ?_, p4⟩ (by dsimp only; omega)))
    · have hb2 := of_decide_eq_true hb2
      obtain ⟨z, hz⟩ : ∃ z, y[i.toNat]? = some z := ⟨_, List.getElem?_eq_getElem (by omega)⟩
      have hget2 : ∀ {β : Type} {R : β → Prop} {K : Tag → Option β}, T R (K z) → T R (cal (getI y i) K) := fun h => T.get p1 hb2 fun z' hz' => by rw [hz] at hz'; cases hz'; exact h
      have hz2 : y.take (i.toNat + 1) = y.take i.toNat ++ [z] := by rw [List.take_add_one, hz]; rfl
      have hol : o2.length ≤ 100000 := by rw [p3, List.length_append, List.length_take]; omega
      refine hget (hget2 (T.eq (in_tag_eq _ _ (by omega)) (T.br (fun hm => T.some ?_) fun hm => hget (hget2 (T.abl (by simp only [List.length_singleton]; omega) (T.ck (by omega) (hL2 _ ⟨by dsimp only; omega, by dsimp only; omega, ?_, ?_⟩ (by dsimp only; omega))))))))
      · have hm := of_decide_eq_true hm
        symm
        refine decide_eq_false (hpre (i.toNat + 1) (by omega) ?_)
        rw [hz2, ← List.append_assoc, ← p3]
        intro hnd
        have := (List.nodup_append.1 hnd).2.2 z hm z (List.mem_singleton.2 rfl)
        exact this rfl
      · dsimp only; rw [hi1, hz2, p3, List.append_assoc]
      · have hm := of_decide_eq_false hm
        dsimp only
        rw [List.nodup_append]
        refine ⟨p4, by simp, fun a ha b hb e => ?_⟩
        rw [List.mem_singleton.1 hb] at e
        exact hm (e ▸ ha)
    · have hb2 := of_decide_eq_false hb2
      dsimp only
      rw [hk1, hnx, p3, List.take_of_length_le (show y.length ≤ i.toNat by omega)]
  · have hb := of_decide_eq_false hb
    rw [q3, List.take_of_length_le (by omega)] at q4
    exact (decide_eq_true q4).symm

theorem kids_len {h : Nat} {l : List GTyp} : ∀ {r : List Int} {a b : Nat}, Kids (SubT h l) r a b → r.length ≤ b - a := by
  intro r
  induction r with
  | nil => intro a b _; exact Nat.zero_le _
  | cons x r ih =>
    intro a b ⟨c, k0, k1, k2⟩
    have := ih k2
    have := k1.lt
    have := Kids.le SubT.le' k2
    simp only [List.length_cons]; omega
def tld (h : Nat) (l : List GTyp) (fs : List GFld) (o : Bool) : Bool := !(fs.any fun f => wld h l f.ty && (o || decide (1 < fs.length))) && decide (fs.flatMap fun f => bgs h l f.ty).Nodup
theorem told_eq {h a b : Nat} {x : GMk} {fs : List GFld} {o : Bool} (hk : Kids (SubT h x.l) (fs.map fun f => f.ty) a b) (hh : h ≤ 1000) (hl : x.l.length ≤ 1000) (hb : b ≤ x.l.length) : r10_maker_told x fs o = some (tld h x.l fs o, x) := by
  refine T.eqs ?_
  unfold r10_maker_told
  have hfl := kids_len hk
  rw [List.length_map] at hfl
  have hflat := kids_flat (bgs h x.l) (fun x y hs => bgs_len hs) hk
  rw [List.flatMap_map] at hflat
  have hfu : h ≤ fuel := by unfold fuel; omega
  have hsub : ∀ f ∈ fs, ∃ c d : Nat, f.ty = (c : Int) ∧ SubT h x.l c d := fun f hf => by
    obtain ⟨c, d, e1, e2, _⟩ := Kids.mem3 SubT.le' hk (List.mem_map.2 ⟨f, hf, rfl⟩)
    exact ⟨c, d, e1, e2⟩
  refine T.lp (ι := List (List Tag) × Int) (fun q => 0 ≤ q.2 ∧ q.2 ≤ fs.length ∧ q.1 = (fs.take q.2.toNat).map (fun f => bgs h x.l f.ty) ∧ (fs.take q.2.toNat).any (fun f => wld h x.l f.ty && (o || decide (1 < fs.length))) = false) (fun q => ((fs.length : Int) - q.2).toNat) ⟨Int.le_refl _, by dsimp only; omega, rfl, rfl⟩ (by dsimp only; omega) fun L q ⟨q1, q2, q3, q4⟩ hL => ?_
  obtain ⟨s, k⟩ := q
  dsimp only at q1 q2 q3 q4 hL ⊢
  refine T.br (fun hb1 => ?_) fun hb1 => ?_
  · have hb1 := of_decide_eq_true hb1
    have hk1 : (k + 1).toNat = k.toNat + 1 := by omega
    refine T.get q1 hb1 fun f hf => ?_
    obtain ⟨c, d, e1, e2⟩ := hsub f (List.mem_of_getElem? hf)
    have htk : fs.take (k.toNat + 1) = fs.take k.toNat ++ [f] := by rw [List.take_add_one, hf]; rfl
    rw [e1]
    refine T.eq (wild10_eq e2 hfu hl) (T.jp (fun q => q = (wld h x.l f.ty && (o || decide (1 < fs.length)))) (fun J hJ => T.br (fun h2 => T.jp (fun q => q = (o || decide (1 < fs.length))) (fun J2 hJ2 => T.br (fun h3 => hJ2 _ (by rw [h3]; rfl)) fun h3 => hJ2 _ (by rw [h3, Bool.false_or, decide_eq_decide]; omega)) fun q hq => hJ _ (by rw [e1, h2, hq]; rfl)) fun h2 => hJ _ (by rw [e1, h2]; rfl)) fun q hq => ?_)
    refine T.br (fun h2 => T.some ?_) fun h2 => T.get q1 hb1 fun f' hf' => ?_
    · have : (fs.any fun f => wld h x.l f.ty && (o || decide (1 < fs.length))) = true := List.any_eq_true.2 ⟨f, List.mem_of_getElem? hf, by rw [← hq]; exact h2⟩
      unfold tld
      rw [this]; rfl
    · rw [hf] at hf'; cases hf'
      rw [e1]
      refine T.eq (begins10_eq e2 hfu hl) (T.abl (by rw [q3, List.length_map, List.length_take, List.length_singleton]; omega) (T.ck (by omega) (hL _ ⟨by dsimp only; omega, by dsimp only; omega, ?_, ?_⟩ (by dsimp only; omega))))
      · dsimp only; rw [hk1, htk, q3, List.map_append, List.map_singleton, e1]
      · dsimp only; rw [hk1, htk, List.any_append, q4, List.any_cons, ← hq, h2]; rfl
  · have hb1 := of_decide_eq_false hb1
    rw [List.take_of_length_le (by omega)] at q3 q4
    have hfe : s.flatten = fs.flatMap fun f => bgs h x.l f.ty := by rw [q3]; rfl
    refine T.eq (distinct9_eq s (by rw [q3, List.length_map]; omega) (by rw [hfe]; omega)) (T.some ?_)
    unfold tld
    rw [q4, hfe]; rfl

def lse (t : GTyp) : List Bool := t.fields.mapIdx fun k f => f.optional || f.has || decide (t.root ≤ (k : Int))
theorem lse_len (t : GTyp) : (lse t).length = t.fields.length := by unfold lse; rw [List.length_mapIdx]
theorem lse_get {t : GTyp} {k : Nat} {f : GFld} (h : t.fields[k]? = some f) : (lse t)[k]? = some (f.optional || f.has || decide (t.root ≤ (k : Int))) := by
  unfold lse; rw [List.getElem?_mapIdx, h]; rfl
theorem loose_eq (t : GTyp) (hl : t.fields.length ≤ 1000) : r10_Loose t = some (lse t) := by
  refine T.eqs ?_
  unfold r10_Loose
  have hll := lse_len t
  refine T.lp (ι := List Bool × Int) (fun q => 0 ≤ q.2 ∧ q.2 ≤ t.fields.length ∧ q.1 = (lse t).take q.2.toNat) (fun q => ((t.fields.length : Int) - q.2).toNat) ⟨Int.le_refl _, by dsimp only; omega, rfl⟩ (by dsimp only; omega) fun L q ⟨q1, q2, q3⟩ hL => ?_
  obtain ⟨s, k⟩ := q
  dsimp only at q1 q2 q3 hL ⊢
  refine T.br (fun hb => ?_) fun hb => T.some ?_
  · have hb := of_decide_eq_true hb
    refine T.get q1 hb fun f hf => ?_
    refine T.jp (fun q => q = (f.optional || f.has)) (fun J h => T.br (fun h2 => h _ (by rw [h2]; rfl)) fun h2 => T.get q1 hb fun f' hf' => h _ (by rw [hf] at hf'; cases hf'; rw [h2]; rfl)) fun q hq => ?_
    refine T.jp (fun q' => q' = (f.optional || f.has || decide (t.root ≤ k))) (fun J h => T.br (fun h2 => h _ (by rw [← hq, h2]; rfl)) fun h2 => h _ (by rw [← hq, h2]; rfl)) fun q' hq' => ?_
    have hk1 : (k + 1).toNat = k.toNat + 1 := by omega
    have hkk : ((k.toNat : Nat) : Int) = k := by omega
    have := lse_get hf
    rw [hkk] at this
    refine T.abl (by rw [q3, List.length_take, List.length_singleton]; omega) (T.ck (by omega) (hL _ ⟨by dsimp only; omega, by dsimp only; omega, ?_⟩ (by dsimp only; omega)))
    dsimp only
    rw [hk1, List.take_add_one, this, q3, hq']; rfl
  · have hb := of_decide_eq_false hb
    rw [q3, List.take_of_length_le (by omega)]
def lst (t : GTyp) : Nat → Nat
  | 0 => 0
  | k + 1 => if (lse t)[k]? = some true then lst t k else k + 1
theorem lst_le (t : GTyp) : ∀ k, lst t k ≤ k
  | 0 => Nat.le_refl _
  | k + 1 => by
    unfold lst
    split
    · exact Nat.le_trans (lst_le t k) (Nat.le_succ k)
    · exact Nat.le_refl _
theorem last_eq (t : GTyp) (hl : t.fields.length ≤ 1000) (h0 : 0 ≤ t.root) (h1 : t.root ≤ t.fields.length) : r10_Last t = some ((lst t t.root.toNat : Nat) : Int) := by
  refine T.eqs ?_
  unfold r10_Last
  have hll := lse_len t
  refine T.eq (loose_eq t hl) (T.lp (fun (k : Int) => 0 ≤ k ∧ k ≤ t.root ∧ lst t t.root.toNat = lst t k.toNat) (fun (k : Int) => k.toNat) ⟨h0, Int.le_refl _, rfl⟩ (by omega) fun L k ⟨k1, k2, k3⟩ hL => ?_)
  refine T.jp (fun q => (q = true → 0 < k ∧ lst t k.toNat = lst t (k - 1).toNat) ∧ (q = false → lst t k.toNat = k.toNat)) (fun J h => T.br (fun hb => ?_) fun hb => h _ ⟨(fun h => by cases h), fun _ => ?_⟩) fun q hq => ?_
  · have hb := of_decide_eq_true hb
    have e : k.toNat = (k - 1).toNat + 1 := by omega
    refine T.ck (by omega) (T.get (by omega) (by omega) fun y hy => h _ ?_)
    rw [e]
    refine ⟨fun hy1 => ⟨hb, ?_⟩, fun hy1 => ?_⟩
    · rw [lst, if_pos (by rw [hy, hy1])]
    · rw [lst, if_neg (by rw [hy, hy1]; simp)]
  · have hb := of_decide_eq_false hb
    have e : k.toNat = 0 := by omega
    rw [e]; rfl
  · refine T.br (fun h2 => T.ck (by have := (hq.1 h2).1; omega) (hL _ ⟨by have := (hq.1 h2).1; omega, by omega, by rw [k3, (hq.1 h2).2]⟩ (by have := (hq.1 h2).1; omega))) fun h2 => T.some ?_
    rw [k3, hq.2 h2]; omega
theorem KidsT.sub {h : Nat} {l : List GTyp} : ∀ {r a b} (n m : Nat), Kids (SubT h l) r a b → ∃ c d, Kids (SubT h l) ((r.take n).drop m) c d ∧ d ≤ b := by
  intro r a b n m hk
  have h1 : r = (r.take n).take m ++ ((r.take n).drop m ++ r.drop n) := by
    rw [← List.append_assoc, List.take_append_drop, List.take_append_drop]
  rw [h1] at hk
  obtain ⟨c, _, h3⟩ := Kids.app hk
  obtain ⟨d, h4, h5⟩ := Kids.app h3
  exact ⟨c, d, h4, Kids.le SubT.le' h5⟩
theorem apart_tot {h a b : Nat} {x : GMk} {t : GTyp} (hk : Kids (SubT h x.l) (t.fields.map fun f => f.ty) a b) (hh : h ≤ 1000) (hl : x.l.length ≤ 1000) (hb : b ≤ x.l.length) (r0 : 0 ≤ t.root) (r1 : t.kind = 7 → t.root ≤ t.fields.length) : T (fun r => r.2 = x) (r10_maker_apart x t) := by
  unfold r10_maker_apart
  have hfl := kids_len hk
  rw [List.length_map] at hfl
  have hfl1 : t.fields.length ≤ 1000 := by omega
  have hll := lse_len t
  refine T.br (fun _ => T.eq (told_eq hk hh hl hb) (T.some rfl)) fun hk7 => ?_
  have hk7 : t.kind = 7 := by simpa using hk7
  have hsub : ∀ (n m : Nat) (o : Bool), r10_maker_told x ((t.fields.take n).drop m) o = some (tld h x.l ((t.fields.take n).drop m) o, x) := fun n m o => by
    obtain ⟨c, d, k1, k2⟩ := KidsT.sub n m hk
    rw [← List.map_take, ← List.map_drop] at k1
    exact told_eq k1 hh hl (by omega)
  refine T.eq (loose_eq t hfl1) (T.lp (ι := Int × GMk) (fun q => 0 ≤ q.1 ∧ q.1 ≤ t.fields.length ∧ q.2 = x) (fun q => ((t.fields.length : Int) - q.1).toNat) ⟨Int.le_refl _, by dsimp only; omega, rfl⟩ (by dsimp only; omega) fun L q ⟨q1, q2, q3⟩ hL => ?_)
  obtain ⟨k, y⟩ := q
  dsimp only at q1 q2 q3 hL ⊢
  subst q3
  refine T.br (fun hb1 => ?_) fun hb1 => ?_
  · have hb1 := of_decide_eq_true hb1
    refine T.jp (ι := GMk) (fun z => z = y) (fun J hJ => T.get q1 (by omega) fun c hc => T.br (fun _ => hJ _ rfl) fun _ => T.ck (by omega) ?_) fun z hz => T.ck (by omega) (hL _ ⟨by dsimp only; omega, by dsimp only; omega, hz⟩ (by dsimp only; omega))
    refine T.lp (fun (e : Int) => k + 1 ≤ e ∧ e ≤ t.fields.length) (fun (e : Int) => ((t.fields.length : Int) - e).toNat) ⟨Int.le_refl _, by omega⟩ (by omega) fun L2 e ⟨e1, e2⟩ hL2 => ?_
    refine T.jp (fun q => q = true → e < t.fields.length) (fun J2 h2 => T.br (fun h3 => T.get (by omega) (by have := of_decide_eq_true h3; omega) fun _ _ => h2 _ fun _ => of_decide_eq_true h3) fun _ => h2 _ fun h => by cases h) fun q hq => ?_
    refine T.br (fun h3 => T.ck (by have := hq h3; omega) (hL2 _ (by have := hq h3; omega) (by have := hq h3; omega))) fun _ => T.ck (by omega) (T.asd (by omega) (T.eq (hsub _ _ _) (T.br (fun _ => T.some rfl) fun _ => hJ _ rfl)))
  · refine T.jp (ι := Bool × GMk) (fun z => z.2 = y) (fun J hJ => T.br (fun _ => hJ _ rfl) fun _ => T.eq (last_eq t hfl1 r0 (r1 hk7)) ?_) fun z hz => T.some hz
    have := lst_le t t.root.toNat
    have := r1 hk7
    exact T.asd ⟨by omega, by omega, Int.le_refl _⟩ (T.eq (hsub _ _ _) (hJ _ rfl))
end Go.Proofs.YtajbipkppngccaaDoor


namespace Go.Proofs.YtajbipkppngccaaDoor
open Go.Sy
set_option linter.unusedVariables false

def fl (x : GMk) (e : Int) : GMk := if x.e = 0 then GMk.mk x.m x.l e else x
theorem fail10 (x : GMk) (e : Int) : r10_maker_fail x e = some (fl x e) := fail10_eq x e
theorem fl_m (x : GMk) (e : Int) : (fl x e).m = x.m := by unfold fl; split <;> rfl
theorem fl_l (x : GMk) (e : Int) : (fl x e).l = x.l := by unfold fl; split <;> rfl
theorem fl_ne {x : GMk} {e : Int} (h : e ≠ 0) : (fl x e).e ≠ 0 := by
  unfold fl
  split
  · exact h
  · assumption
structure Sm (x y : GMk) : Prop where
  m : y.m = x.m
  l : y.l = x.l
  e : y.e = 0 → x.e = 0
theorem Sm.refl (x : GMk) : Sm x x := ⟨rfl, rfl, fun h => h⟩
theorem Sm.trans {x y z : GMk} (h : Sm x y) (k : Sm y z) : Sm x z := ⟨k.m.trans h.m, k.l.trans h.l, fun e => h.e (k.e e)⟩
theorem Sm.fl {x : GMk} {e : Int} (h : e ≠ 0) : Sm x (fl x e) := ⟨fl_m x e, fl_l x e, fun k => absurd k (fl_ne h)⟩
theorem standard10_tot {x : GMk} {i : Nat} {t : GTyp} (v : Val) (ht : x.l[i]? = some t) (hv : DOk v) (r0 : 0 ≤ t.root) (r1 : t.kind = 3 → t.root ≤ t.items.length) (hi : t.items.length ≤ 8001) :
    T (fun r => Sm x r.2 ∧ DOk r.1) (r10_maker_standard x (i : Int) v) := by
  unfold r10_maker_standard
  have hlt := (List.getElem?_eq_some_iff.1 ht).1
  have hti : (i : Int).toNat = i := Int.toNat_natCast i
  refine T.asd ⟨by omega, by omega⟩ ?_
  rw [hti]
  refine T.eq ht (T.jp (ι := Bool × Val) (fun q => DOk q.2) (fun J k => ?_) fun q hq => T.jp (ι := GMk) (fun y => Sm x y) (fun J k => T.br (fun _ => T.eq (fail10 _ _) (k _ (Sm.fl (by decide)))) fun _ => k _ (Sm.refl x)) fun y hy => T.some ⟨hy, hq⟩)
  refine T.jp (fun _ => True) (fun J1 k1 => T.br (fun _ => k1 _ trivial) fun _ => k1 _ trivial) fun b1 _ => T.br (fun _ => k _ hv) fun _ => ?_
  refine T.br (fun _ => T.jp (fun _ => True) (fun J1 k1 => T.br (fun _ => T.cal (within_tot _ _) fun _ _ _ => k1 _ trivial) fun _ => k1 _ trivial) fun b2 _ => k _ hv) fun _ => ?_
  refine T.jp (fun _ => True) (fun J1 k1 => T.br (fun _ => k1 _ trivial) fun _ => k1 _ trivial) fun b3 _ => T.br (fun _ => ?_) fun _ => ?_
  · refine T.jp (fun _ => True) (fun J1 k1 => T.br (fun _ => T.cal (within_tot _ _) fun _ _ _ => k1 _ trivial) fun _ => k1 _ trivial) fun b4 _ => ?_
    refine T.jp (fun _ => True) (fun J1 k1 => T.br (fun _ => T.jp (fun _ => True) (fun J2 k2 => T.br (fun _ => k2 _ trivial) fun _ => T.cal (utf8_tot _ (by have := hv.1; omega)) fun _ _ _ => k2 _ trivial) fun b5 _ => k1 _ trivial) fun _ => k1 _ trivial) fun b6 _ => k _ hv
  · refine T.br (fun h3 => T.br (fun _ => ?_) fun _ => k _ hv) fun _ => k _ hv
    have h3 := of_decide_eq_true h3
    have r2 := r1 h3
    refine T.lp (ι := Bool × Int × Val) (fun q => 0 ≤ q.2.1 ∧ q.2.1 ≤ t.root ∧ DOk q.2.2) (fun q => (t.root - q.2.1).toNat) ⟨Int.le_refl _, r0, hv⟩ (by dsimp only; omega) fun L q ⟨q1, q2, q3⟩ hL => ?_
    obtain ⟨b, j, w⟩ := q
    dsimp only at q1 q2 q3 hL ⊢
    refine T.jp (fun b' => b' = true → j < t.root) (fun J1 k1 => T.br (fun h4 => k1 _ fun _ => of_decide_eq_true h4) fun _ => k1 _ fun h => by cases h) fun b' hb' => T.br (fun h5 => ?_) fun _ => k _ q3
    have h5 := hb' h5
    refine T.jp (ι := Bool × Val) (fun p => DOk p.2) (fun J2 k2 => T.get q1 (by omega) fun y _ => T.br (fun _ => T.get q1 (by omega) fun y2 _ => k2 _ ⟨Nat.zero_le _, rfl, rfl⟩) fun _ => k2 _ q3) fun p hp => T.ck (by omega) (hL _ ⟨by dsimp only; omega, by dsimp only; omega, hp⟩ (by dsimp only; omega))
theorem soft10_tot {x : GMk} {i : Nat} (hi : i < x.l.length) : T (fun r => r.2 = x) (r10_maker_soft x (i : Int)) := by
  unfold r10_maker_soft
  have hti : (i : Int).toNat = i := Int.toNat_natCast i
  refine T.asd ⟨by omega, by omega⟩ ?_
  rw [hti]
  exact T.eq (List.getElem?_eq_getElem hi) (T.br (fun _ => T.some rfl) fun _ => T.some rfl)
theorem wrap9_tot (tags : List Tag) (n mode : Int) (hl : tags.length ≤ 1000000) : T (fun r => r.2 = 0 → r.1 ≠ [] ∧ r.1.length ≤ tags.length + 1) (r09_Wrap tags n mode) := by
  unfold r09_Wrap
  refine T.jp (fun _ => True) (fun J k => T.br (fun _ => k _ trivial) fun _ => k _ trivial) fun b1 _ => ?_
  refine T.jp (fun b => b = false → (mode = 1 → 0 < tags.length)) (fun J k => T.br (fun _ => k _ fun h => by cases h) fun _ => ?_) fun b2 hb2 => T.br (fun _ => T.some fun h => by cases h) fun h2 => ?_
  · refine T.jp (fun b => b = false → (mode = 1 → 0 < tags.length)) (fun J2 k2 => T.br (fun _ => k2 _ fun h _ => ?_) fun h => k2 _ fun _ hm => absurd hm (of_decide_eq_false h)) fun b hb => k _ hb
    have := of_decide_eq_false h
    omega
  · have h2 := hb2 h2
    rw [tkl]
    refine T.br (fun h3 => T.asd ⟨by omega, by have := h2 (of_decide_eq_true h3); omega, Int.le_refl _⟩ (T.abl (by rw [List.length_drop, List.length_singleton]; omega) (T.some fun _ => ⟨by simp, by dsimp only; rw [List.length_append, List.length_drop, List.length_singleton]; omega⟩))) fun h3 => T.abl (by rw [List.length_singleton]; omega) (T.some fun _ => ⟨by simp, by dsimp only; rw [List.length_append, List.length_singleton]; omega⟩)
def Wp1 (x y : GMk) (i : Nat) : Prop := y.m = x.m ∧ y.l.length = x.l.length ∧ (y.e = 0 → x.e = 0 ∧ ∀ t, x.l[i]? = some t → ∃ tg : List Tag, y.l = x.l.set i { t with tags := tg } ∧ tg ≠ [] ∧ tg.length ≤ t.tags.length + 1)
theorem wrap10_tot {x : GMk} {i : Nat} {t : GTyp} (n mode : Int) (ht : x.e = 0 → x.l[i]? = some t ∧ t.tags.length ≤ 100000) : T (fun y => Wp1 x y i) (r10_maker_wrap x (i : Int) n mode) := by
  unfold r10_maker_wrap
  refine T.br (fun he => T.some ⟨rfl, rfl, fun h => absurd h (by simpa using he)⟩) fun he => ?_
  have he : x.e = 0 := by simpa using he
  obtain ⟨h1, h2⟩ := ht he
  have hlt := (List.getElem?_eq_some_iff.1 h1).1
  have hti : (i : Int).toNat = i := Int.toNat_natCast i
  refine T.asd ⟨by omega, by omega⟩ ?_
  rw [hti]
  refine T.eq h1 (T.cal (wrap9_tot _ _ _ (by omega)) fun r _ hr => T.br (fun hr2 => T.eq (fail10 _ _) (T.some ⟨fl_m _ _, by rw [fl_l], fun h => absurd h (fl_ne (by simpa using hr2))⟩)) fun hr2 => ?_)
  have hr2 : r.2 = 0 := by simpa using hr2
  obtain ⟨h3, h4⟩ := hr hr2
  refine T.asd ⟨by omega, by omega⟩ (T.eq h1 (T.some ⟨rfl, by dsimp only; rw [List.length_set], fun _ => ⟨he, fun t' ht' => ?_⟩⟩))
  rw [h1] at ht'; cases ht'
  exact ⟨r.1, rfl, h3, h4⟩
theorem TypOk.tag {t : GTyp} (h : TypOk t) {tg : List Tag} (h1 : tg ≠ []) (h2 : tg.length ≤ 100000) : TypOk { t with tags := tg } :=
  ⟨fun _ => h1, h2, h.root0, h.rootF, h.rootI, h.fields, h.items, h.ilen, h.nums, h.dflt, h.rootZ⟩
end Go.Proofs.YtajbipkppngccaaDoor


namespace Go.Proofs.YtajbipkppngccaaDoor
open Go.Sy
set_option linter.unusedVariables false

def Dn (m : GMod) (a : Int) (k j : Nat) : Prop := ∀ (p : Nat) (n : GNode), k ≤ p → p < j → m.nodes[p]? = some n → n.kind = 11 → 0 ≤ fnd m.names n.name ∧ Ed (gr m) a (fnd m.names n.name)
structure Env (m : GMod) (rk : Int → Nat) : Prop where
  wf : WF m
  rk40 : ∀ i, rk i ≤ 40
  ed : ∀ i j, Ed (gr m) i j → rk j < rk i
  root : ∀ b : Int, 0 ≤ b → b < m.names.length → ∃ c d : Nat, m.types[b.toNat]? = some (c : Int) ∧ Sub 17 m.nodes c d ∧ d ≤ m.nodes.length ∧ Dn m b c d
structure Gk (x y : GMk) : Prop where
  m : y.m = x.m
  le : x.l.length ≤ y.l.length
  lim : y.l.length ≤ 300
  e : y.e = 0 → x.e = 0
  pre : y.e = 0 → ∀ k, k < x.l.length → y.l[k]? = x.l[k]?
theorem Gk.refl {x : GMk} (h : x.l.length ≤ 300) : Gk x x := ⟨rfl, Nat.le_refl _, h, fun e => e, fun _ _ _ => rfl⟩
theorem Gk.sm {x y : GMk} (h : Sm x y) (k : x.l.length ≤ 300) : Gk x y := ⟨h.m, by rw [h.l]; exact Nat.le_refl _, by rw [h.l]; exact k, h.e, fun _ _ _ => by rw [h.l]⟩
theorem Gk.trans {x y z : GMk} (h : Gk x y) (k : Gk y z) : Gk x z :=
  ⟨k.m.trans h.m, Nat.le_trans h.le k.le, k.lim, fun e => h.e (k.e e), fun e p hp => (k.pre e p (Nat.lt_of_lt_of_le hp h.le)).trans (h.pre (k.e e) p hp)⟩
theorem Gk.wp {x y : GMk} {i : Nat} (h : Wp1 x y i) (hl : x.l.length ≤ 300) (hi : i < x.l.length) : y.m = x.m ∧ y.l.length = x.l.length := ⟨h.1, h.2.1⟩

def NodeS (m : GMod) (rk : Int → Nat) (f : GMk → Int → Int → Option (Int × GMk)) (N : Nat) : Prop :=
  ∀ (x : GMk) (k j h : Nat) (a d : Int), x.m = m → x.l.length ≤ 300 → Sub h m.nodes k j → j ≤ m.nodes.length → Dn m a k j → rk a * 301 + (j - k) ≤ N → 0 ≤ d → d ≤ 17 →
  T (fun r => Gk x r.2 ∧ (r.2.e = 0 → r.1 = (x.l.length : Int) ∧ SubT (17 - d).toNat r.2.l x.l.length r.2.l.length ∧ ∃ t, r.2.l[x.l.length]? = some t ∧ t.tags.length ≤ N + 1)) (f x (k : Int) d)
def MadeS (m : GMod) (rk : Int → Nat) (f : GMk → GNode → Int → Option (Int × GMk)) (N : Nat) : Prop :=
  ∀ (x : GMk) (n : GNode) (k j h : Nat) (a d : Int), x.m = m → x.l.length ≤ 300 → m.nodes[k]? = some n → n.kind ≠ 11 → Sub h m.nodes k j → j ≤ m.nodes.length → Dn m a k j → rk a * 301 + (j - k) ≤ N → 0 ≤ d → d ≤ 17 →
  T (fun r => Gk x r.2 ∧ (r.2.e = 0 → r.1 = (x.l.length : Int) ∧ SubT (17 - d).toNat r.2.l x.l.length r.2.l.length ∧ ∃ t, r.2.l[x.l.length]? = some t ∧ t.tags.length ≤ 1)) (f x n d)
def FieldsT (m : GMod) (rk : Int → Nat) (f : GMk → Int → GNode → Int → Option GMk) (N : Nat) : Prop :=
  ∀ (x : GMk) (n : GNode) (k j h : Nat) (a d : Int) (l0 : List GTyp) (t : GTyp), x.m = m → x.l = l0 ++ [t] → x.l.length ≤ 300 → m.nodes[k]? = some n → Kids (Sub h m.nodes) (n.fields.map fun f => f.ty) (k + 1) j → j ≤ m.nodes.length → Dn m a k j → rk a * 301 + (j - k) ≤ N → 0 ≤ d → d ≤ 16 →
    (n.kind = 7 ∨ n.kind = 8 ∨ n.kind = 9) → t.kind = n.kind → t.root = n.root →
  T (fun y => y.m = m ∧ x.l.length ≤ y.l.length ∧ y.l.length ≤ 300 ∧ (y.e = 0 → x.e = 0 ∧ (∀ p, p < l0.length → y.l[p]? = x.l[p]?) ∧ ∃ fs, y.l[l0.length]? = some { t with fields := fs } ∧ fs.length = n.fields.length ∧ Kids (SubT (16 - d).toNat y.l) (fs.map fun f => f.ty) x.l.length y.l.length ∧ ∀ f ∈ fs, DOk f.dflt)) (f x (l0.length : Int) n d)

theorem Kids.subs {h : Nat} {l : List GNode} {k : Int} {r : List Int} {a b : Nat} (hk : Kids (Sub h l) r a b) (hm : k ∈ r) : ∃ (c d : Nat), k = (c : Int) ∧ Sub h l c d ∧ a ≤ c ∧ d ≤ b := Kids.mem3 (fun x y h => Nat.le_of_lt h.lt) hk hm
theorem Dn.part {m : GMod} {a : Int} {k j c d : Nat} (h : Dn m a k j) (h1 : k ≤ c) (h2 : d ≤ j) : Dn m a c d := fun p n hp hq => h p n (by omega) (by omega)

theorem fields_stepT {m : GMod} {rk : Int → Nat} {Fs Nd Md} {N : Nat} (E : Env m rk) (hN : N ≤ 50000) (hnd : ∀ N', N' + 1 = N → NodeS m rk Nd N') : FieldsT m rk (r10_maker_fields_F Fs Nd Md) N := by
  intro x n k j h a d l0 t hm hxl hx3 hk hkid hj hdn hN2 hd0 hd hkind htk htr
  unfold r10_maker_fields_F
  have hok := E.wf.ok n (List.mem_of_getElem? hk)
  have hkl := Kids.length hkid
  have hnl := E.wf.nodes
  rw [List.length_map] at hkl
  have hxlen : x.l.length = l0.length + 1 := by rw [hxl, List.length_append, List.length_singleton]
  have hsub : ∀ f ∈ n.fields, ∃ c d : Nat, f.ty = (c : Int) ∧ Sub h m.nodes c d ∧ k + 1 ≤ c ∧ d ≤ j := fun f hf => by
    obtain ⟨c, d, h1, h2, h3, h4⟩ := Kids.subs hkid (List.mem_map.2 ⟨f, hf, rfl⟩)
    exact ⟨c, d, h1, h2, h3, h4⟩
  refine T.lp (ι := Bool × Int) (fun q => 0 ≤ q.2 ∧ q.2 ≤ n.fields.length) (fun q => ((n.fields.length : Int) - q.2).toNat) ⟨Int.le_refl _, by dsimp only; omega⟩ (by dsimp only; omega) fun L q ⟨q1, q2⟩ hL => ?_
  obtain ⟨mk, i⟩ := q
  dsimp only at q1 q2 hL ⊢
  refine T.br (fun hb => ?_) fun hb => ?_
  · have hb := of_decide_eq_true hb
    refine T.get q1 hb fun f hf => ?_
    obtain ⟨c, dd, h1, h2, h3, h4⟩ := hsub f (List.mem_of_getElem? hf)
    have := h2.lt
    refine T.jp (fun _ => True) (fun J kk => T.br (fun _ => kk _ trivial) fun _ => T.get (by omega) (by rw [hm]; omega) fun _ _ => kk _ trivial) fun b _ => T.ck (by omega) (hL _ ⟨by dsimp only; omega, by dsimp only; omega⟩ (by dsimp only; omega))
  refine T.jp (fun _ => True) (fun J kk => T.br (fun _ => kk _ trivial) fun _ => kk _ trivial) fun b1 _ => T.jp (fun _ => True) (fun J kk => T.br (fun _ => kk _ trivial) fun _ => kk _ trivial) fun b2 _ => ?_
  refine T.jp (ι := GMk) (fun y => Sm x y) (fun J kk => T.br (fun _ => T.eq (fail10 _ _) (kk _ (Sm.fl (by decide)))) fun _ => kk _ (Sm.refl x)) fun x1 hx1 => ?_
  -- the fields, one behind the other
  have hD : (17 - (d + 1)).toNat = (16 - d).toNat := by omega
  refine T.lp (ι := List GFld × Int × GMk) (fun q => 0 ≤ q.2.1 ∧ q.2.1 ≤ n.fields.length ∧ Gk x q.2.2 ∧ (q.1.length : Int) = q.2.1 ∧ (q.2.2.e = 0 → Kids (SubT (16 - d).toNat q.2.2.l) (q.1.map fun f => f.ty) x.l.length q.2.2.l.length ∧ ∀ f ∈ q.1, DOk f.dflt)) (fun q => ((n.fields.length : Int) - q.2.1).toNat)
    ⟨Int.le_refl _, by dsimp only; omega, Gk.sm hx1 hx3, rfl, fun _ => ⟨by dsimp only; rw [hx1.l]; rfl, by simp⟩⟩ (by dsimp only; omega) fun L2 q ⟨p1, p2, p3, p4, p5⟩ hL2 => ?_
  obtain ⟨out, i2, y⟩ := q
  dsimp only at p1 p2 p3 p4 p5 hL2 ⊢
  refine T.jp (fun b => (b = true → i2 < n.fields.length) ∧ (b = false → y.e = 0 → ¬ i2 < n.fields.length)) (fun J kk => T.br (fun h1 => kk _ ⟨fun _ => of_decide_eq_true h1, fun h2 h3 => absurd h3 (of_decide_eq_false h2)⟩) fun h1 => kk _ ⟨(fun h => by cases h), fun _ _ => of_decide_eq_false h1⟩) fun b hb2 => T.br (fun hb3 => ?_) fun hb3 => ?_
  · have hb3 := hb2.1 hb3
    refine T.get p1 hb3 fun f hf => ?_
    obtain ⟨c, dd, h1, h2, h3, h4⟩ := hsub f (List.mem_of_getElem? hf)
    have hclt := h2.lt
    have hN1 : N - 1 + 1 < 100000 := by omega
    have hA : ∀ p : GFld, (out ++ [p]).length ≤ 100000 ∧ ((out ++ [p]).length : Int) = i2 + 1 := fun p => by rw [List.length_append, List.length_singleton]; omega
    have hA2 : 0 ≤ i2 + 1 ∧ i2 + 1 ≤ (n.fields.length : Int) ∧ i2 + 1 ≤ 100000 := by omega
    have hA4 : -9223372036854775808 ≤ i2 + 1 ∧ i2 + 1 ≤ 9223372036854775807 := by omega
    have hA3 : ((n.fields.length : Int) - (i2 + 1)).toNat < ((n.fields.length : Int) - i2).toNat := by omega
    have hfd : DOk f.dflt := hok.dflt f (List.mem_of_getElem? hf)
    refine T.lp (ι := Int × GMk) (fun p => 0 ≤ p.1 ∧ p.1 ≤ i2 ∧ Sm y p.2) (fun p => (i2 - p.1).toNat) ⟨Int.le_refl _, p1, Sm.refl y⟩ (by dsimp only; omega) fun L3 p ⟨s1, s2, s3⟩ hL3 => ?_
    obtain ⟨i3, y2⟩ := p
    dsimp only at s1 s2 s3 hL3 ⊢
    refine T.br (fun hb4 => ?_) fun hb4 => ?_
    · have hb4 := of_decide_eq_true hb4
      refine T.jp (ι := GMk) (fun z => Sm y z) (fun J kk => T.get s1 (by omega) fun g _ => T.br (fun _ => T.eq (fail10 _ _) (kk _ (s3.trans (Sm.fl (by decide))))) fun _ => kk _ s3) fun z hz => T.ck (by omega) (hL3 _ ⟨by dsimp only; omega, by dsimp only; omega, hz⟩ (by dsimp only; omega))
    refine T.ck (by omega) ?_
    rw [h1]
    have hy2l : y2.l.length = y.l.length := by rw [s3.l]
    have hlim := p3.lim
    refine T.cal (hnd (N - 1) (by omega) y2 c dd h a (d + 1) (s3.m.trans (p3.m.trans hm)) (by omega) h2 (by omega) (hdn.part (by omega) h4) (by omega) (by omega) (by omega)) fun r _ ⟨r1, r2⟩ => ?_
    have g1 : Gk x r.2 := p3.trans ((Gk.sm s3 hlim).trans r1)
    refine T.jp (fun b => b = true → r.2.e = 0) (fun J kk => T.br (fun h5 => kk _ fun _ => of_decide_eq_true h5) fun _ => kk _ fun h => by cases h) fun b5 hb5 => ?_
    -- the default
    refine T.jp (ι := GFld × GMk) (fun p => Sm r.2 p.2 ∧ p.1.ty = r.1 ∧ DOk p.1.dflt) (fun J kk => T.br (fun h6 => ?_) fun _ => kk _ ⟨Sm.refl _, rfl, hfd⟩) fun p ⟨u1, u2, u3⟩ => ?_
    · have h6 := hb5 h6
      obtain ⟨e1, e2, t1, e3, e4⟩ := r2 h6
      rw [e1]
      have hto : TypOk t1 := by
        have : 0 < (17 - (d + 1)).toNat := by
          rcases Nat.eq_zero_or_pos (17 - (d + 1)).toNat with h | h
          · rw [h] at e2; exact e2.elim
          · exact h
        obtain ⟨D', hD'⟩ : ∃ D', (17 - (d + 1)).toNat = D' + 1 := ⟨_, (Nat.succ_pred_eq_of_pos this).symm⟩
        rw [hD'] at e2
        obtain ⟨t2, k1, k2, _⟩ := e2
        rw [e3] at k1; cases k1; exact k2
      exact T.cal (standard10_tot f.dflt e3 hfd hto.root0 hto.rootI hto.ilen) fun s _ hs => kk _ ⟨hs.1, e1.symm, hs.2⟩
    refine T.jp (fun b => b = true → p.2.e = 0) (fun J kk => T.br (fun h5 => kk _ fun _ => of_decide_eq_true h5) fun _ => kk _ fun h => by cases h) fun b6 hb6 => ?_
    -- a tag of its own
    have hfin : ∀ z : GMk, z.m = r.2.m → z.l.length = r.2.l.length → (z.e = 0 → r.2.e = 0 ∧ ((z.l = r.2.l) ∨ ∃ t1 tg, r.2.l[y2.l.length]? = some t1 ∧ z.l = r.2.l.set y2.l.length { t1 with tags := tg } ∧ tg ≠ [] ∧ tg.length ≤ t1.tags.length + 1)) →
        Gk x z ∧ (z.e = 0 → Kids (SubT (16 - d).toNat z.l) ((out ++ [p.1]).map fun f => f.ty) x.l.length z.l.length ∧ ∀ f ∈ out ++ [p.1], DOk f.dflt) := by
      intro z z1 z2 z3
      have hpre : z.e = 0 → ∀ q, q < y2.l.length → z.l[q]? = r.2.l[q]? := fun ez q hq => by
        rcases (z3 ez).2 with h | ⟨t1, tg, _, h, _⟩
        · rw [h]
        · rw [h, List.getElem?_set_ne (by omega)]
      refine ⟨⟨z1.trans g1.m, by rw [z2]; exact g1.le, by rw [z2]; exact g1.lim, fun ez => g1.e (z3 ez).1, fun ez q hq => ?_⟩, fun ez => ?_⟩
      · have := p3.le
        rw [hpre ez q (by omega)]
        exact g1.pre (z3 ez).1 q hq
      · have er := (z3 ez).1
        obtain ⟨e1, e2, t1, e3, e4⟩ := r2 er
        have ey : y.e = 0 := s3.e (r1.e er)
        obtain ⟨k1, k2⟩ := p5 ey
        rw [hD] at e2
        have e2z : SubT (16 - d).toNat z.l y2.l.length z.l.length := by
          rw [z2]
          rcases (z3 ez).2 with h | ⟨t2, tg, k3, h, k4, k5⟩
          · rw [h]; exact e2
          · rw [h]
            rw [e3] at k3; cases k3
            have hto : TypOk t1 := by
              cases hDz : (16 - d).toNat with
              | zero => rw [hDz] at e2; exact e2.elim
              | succ D' =>
                rw [hDz] at e2
                obtain ⟨t3, k6, k7, _⟩ := e2
                rw [e3] at k6; cases k6; exact k7
            exact e2.set e3 (hto.tag k4 (Nat.le_trans k5 (Nat.succ_le_of_lt (Nat.lt_of_le_of_lt e4 hN1)))) rfl
        rw [hy2l] at e2z
        refine ⟨?_, fun f' hf' => ?_⟩
        · rw [List.map_append, List.map_singleton, u2, e1, hy2l]
          refine Kids.snoc (KidsT.monoL (fun q hq1 hq2 => ?_) k1) e2z
          rw [hpre ez q (by omega), r1.pre er q (by omega), s3.l]
        · rcases List.mem_append.1 hf' with h | h
          · exact k2 f' h
          · rw [List.mem_singleton.1 h]; exact u3
    refine T.jp (ι := GMk) (fun z => Gk x z ∧ (z.e = 0 → Kids (SubT (16 - d).toNat z.l) ((out ++ [p.1]).map fun f => f.ty) x.l.length z.l.length ∧ ∀ f ∈ out ++ [p.1], DOk f.dflt)) (fun J kk => T.br (fun h6 => ?_) fun _ => kk _ (hfin p.2 u1.m (by rw [u1.l]) fun ez => ⟨u1.e ez, .inl u1.l⟩)) fun z ⟨v1, v2⟩ => ?_
    · have h6 := hb6 h6
      have er := u1.e h6
      obtain ⟨e1, e2, t1, e3, e4⟩ := r2 er
      have hlt := (List.getElem?_eq_some_iff.1 e3).1
      rw [u2, e1]
      refine T.cal (soft10_tot (x := p.2) (i := y2.l.length) (by rw [u1.l]; exact hlt)) fun s _ hs => ?_
      rw [hs]
      refine T.cal (wrap10_tot (t := t1) _ _ (fun _ => ⟨by rw [u1.l]; exact e3, by omega⟩)) fun z _ ⟨w1, w2, w3⟩ => kk _ (hfin z (w1.trans u1.m) (by rw [w2, u1.l]) fun ez => ⟨er, ?_⟩)
      obtain ⟨tg, k1, k2, k3⟩ := (w3 ez).2 t1 (by rw [u1.l]; exact e3)
      exact .inr ⟨t1, tg, e3, by rw [k1, u1.l], k2, k3⟩
    · exact T.abl (by have := (hA p.1).1; rw [List.length_append] at this; exact Nat.le_trans this (by decide)) (T.ck hA4 (hL2 _ ⟨hA2.1, hA2.2.1, v1, (hA _).2, v2⟩ hA3))
  · -- all are there
    refine T.br (fun he => ?_) fun he => T.some ⟨p3.m.trans hm, p3.le, p3.lim, fun h => absurd h (of_decide_eq_false he)⟩
    have he := of_decide_eq_true he
    have hfin := hb2.2 hb3 he
    obtain ⟨k1, k2⟩ := p5 he
    have hti : ((l0.length : Nat) : Int).toNat = l0.length := Int.toNat_natCast _
    have hle := p3.le
    have hlim := p3.lim
    have hget : y.l[l0.length]? = some t := by
      rw [p3.pre he l0.length (by omega), hxl, List.getElem?_append_right (Nat.le_refl _), Nat.sub_self]; rfl
    have hget2 : (y.l.set l0.length { t with fields := out })[l0.length]? = some { t with fields := out } := List.getElem?_set_self (by omega)
    have hmono : ∀ q, l0.length + 1 ≤ q → (y.l.set l0.length { t with fields := out })[q]? = y.l[q]? := fun q hq => List.getElem?_set_ne (by omega)
    have hkids : Kids (SubT (16 - d).toNat (y.l.set l0.length { t with fields := out })) (out.map fun f => f.ty) x.l.length y.l.length := KidsT.monoL (fun q hq1 hq2 => hmono q (by omega)) k1
    refine T.asd ⟨by omega, by omega⟩ ?_
    rw [hti]
    refine T.eq hget (T.asd ⟨by omega, by rw [List.length_set]; omega⟩ (T.eq hget2 ?_))
    have hpost : ∀ z : GMk, Sm (GMk.mk y.m (y.l.set l0.length { t with fields := out }) y.e) z → (z.m = m ∧ x.l.length ≤ z.l.length ∧ z.l.length ≤ 300 ∧ (z.e = 0 → x.e = 0 ∧ (∀ p, p < l0.length → z.l[p]? = x.l[p]?) ∧ ∃ fs, z.l[l0.length]? = some { t with fields := fs } ∧ fs.length = n.fields.length ∧ Kids (SubT (16 - d).toNat z.l) (fs.map fun f => f.ty) x.l.length z.l.length ∧ ∀ f ∈ fs, DOk f.dflt)) := by
      intro z hz
      have zl := hz.l
      dsimp only at zl
      refine ⟨hz.m.trans (p3.m.trans hm), by rw [zl, List.length_set]; exact hle, by rw [zl, List.length_set]; exact hlim, fun ez => ⟨p3.e (hz.e ez), fun q hq => ?_, out, by rw [zl]; exact hget2, by omega, by rw [zl, List.length_set]; exact hkids, k2⟩⟩
      rw [zl, List.getElem?_set_ne (by omega)]
      exact p3.pre he q (by omega)
    refine T.cal (apart_tot (h := (16 - d).toNat) (a := x.l.length) (b := y.l.length) (x := GMk.mk y.m (y.l.set l0.length { t with fields := out }) y.e) (t := { t with fields := out }) hkids (by omega) (by dsimp only; rw [List.length_set]; omega) (by dsimp only; rw [List.length_set]; exact Nat.le_refl _) (by dsimp only; rw [htr]; exact hok.root0) (fun h7 => by dsimp only; rw [htr]; have := hok.fields (by omega); omega)) fun r _ hr => ?_
    rw [hr]
    exact T.br (fun _ => T.eq (fail10 _ _) (T.some (hpost _ (Sm.fl (by decide))))) fun _ => T.some (hpost _ (Sm.refl _))
end Go.Proofs.YtajbipkppngccaaDoor


namespace Go.Proofs.YtajbipkppngccaaDoor
open Go.Sy
set_option linter.unusedVariables false

theorem rank_le0 {U V N p q c : Nat} (h : U + (c + 1) ≤ V) (h2 : V + p ≤ N) (hp : 0 < p) (hq : q ≤ c) : U + q ≤ N - 1 := by omega
theorem rank_le1 (c : Nat) {u v N p q : Nat} (h : u < v) (h2 : v * (c + 1) + p ≤ N) (hp : 0 < p) (hq : q ≤ c) : u * (c + 1) + q ≤ N - 1 := by
  have h3 := Nat.mul_le_mul_right (c + 1) (Nat.succ_le_of_lt h)
  rw [Nat.succ_mul] at h3
  exact rank_le0 h3 h2 hp hq
theorem rank_le {u v N p q : Nat} (h : u < v) (h2 : v * 301 + p ≤ N) (hp : 0 < p) (hq : q ≤ 300) : u * 301 + q ≤ N - 1 := rank_le1 300 h h2 hp hq
theorem node_stepT {m : GMod} {rk : Int → Nat} {Fs Nd Md} {N : Nat} (E : Env m rk) (hN : N ≤ 50000) (hnd : ∀ N', N' + 1 = N → NodeS m rk Nd N') (hmd : MadeS m rk Md N) : NodeS m rk (r10_maker_node_F Fs Nd Md) N := by
  intro x k j h a d hm hx3 hs hj hdn hN2 hd0 hd
  unfold r10_maker_node_F
  have hlt := hs.lt
  obtain ⟨n, hn⟩ : ∃ n, m.nodes[k]? = some n := ⟨_, List.getElem?_eq_getElem (by omega)⟩
  refine T.br (fun hb => T.some ⟨Gk.refl hx3, fun e => absurd e (by simpa using hb)⟩) fun hb => ?_
  refine T.get (Int.natCast_nonneg _) (by rw [hm]; omega) fun n' hn' => ?_
  rw [hm, Int.toNat_natCast, hn] at hn'
  cases hn'
  have hN0 : 1 ≤ N := by omega
  refine T.jp (ι := Int × GMk) (fun r => Gk x r.2 ∧ (r.2.e = 0 → r.1 = (x.l.length : Int) ∧ SubT (17 - d).toNat r.2.l x.l.length r.2.l.length ∧ ∃ t, r.2.l[x.l.length]? = some t ∧ t.tags.length ≤ N)) (fun J kk => T.br (fun hk => ?_) fun hk => ?_) fun q ⟨q1, q2⟩ => ?_
  · have hk := of_decide_eq_true hk
    obtain ⟨f0, f1⟩ := hdn k n (Nat.le_refl _) hlt hn hk
    have hf2 : fnd m.names n.name < m.names.length := by
      rcases fnd_spec m.names n.name with h | h
      · omega
      · exact h.2.1
    obtain ⟨c, dd, c1, c2, c3, c4⟩ := E.root _ f0 (by omega)
    have hrk := E.ed _ _ f1
    have hwn := E.wf.nodes
    have hc := c2.lt
    have hNN : rk (fnd m.names n.name) * 301 + (dd - c) ≤ N - 1 := rank_le hrk hN2 (Nat.sub_pos_of_lt hlt) (Nat.le_trans (Nat.sub_le _ _) (Nat.le_trans c3 hwn))
    refine T.eq (find7_eq x.m n.name (by rw [hm]; have := E.wf.names; omega)) (T.get (by rw [hm]; exact f0) (by rw [hm, E.wf.types]; omega) fun y hy => ?_)
    rw [hm, c1] at hy
    cases hy
    exact T.cal (hnd (N - 1) (by omega) x c dd 17 _ d hm hx3 c2 c3 c4 hNN hd0 hd) fun r _ ⟨r1, r2⟩ => kk _ ⟨r1, fun e => by
      obtain ⟨e1, e2, t, e3, e4⟩ := r2 e
      exact ⟨e1, e2, t, e3, Nat.le_trans e4 (by rw [Nat.sub_add_cancel hN0]; exact Nat.le_refl _)⟩⟩
  · have hk := of_decide_eq_false hk
    exact T.cal (hmd x n k j h a d hm hx3 hn hk hs hj hdn hN2 hd0 hd) fun r _ ⟨r1, r2⟩ => kk _ ⟨r1, fun e => by
      obtain ⟨e1, e2, t, e3, e4⟩ := r2 e
      exact ⟨e1, e2, t, e3, Nat.le_trans e4 hN0⟩⟩
  have hNb : N < 100000 := by omega
  refine T.jp (fun b => b = true → q.2.e = 0) (fun J kk => T.br (fun h5 => kk _ fun _ => of_decide_eq_true h5) fun _ => kk _ fun h => by cases h) fun b hb3 => ?_
  refine T.jp (ι := GMk) (fun z => Gk x z ∧ (z.e = 0 → q.1 = (x.l.length : Int) ∧ SubT (17 - d).toNat z.l x.l.length z.l.length ∧ ∃ t, z.l[x.l.length]? = some t ∧ t.tags.length ≤ N + 1)) (fun J kk => T.br (fun h6 => ?_) fun _ => kk _ ⟨q1, fun e => ?_⟩) fun z ⟨z1, z2⟩ => T.some ⟨z1, z2⟩
  · have h6 := hb3 h6
    obtain ⟨e1, e2, t, e3, e4⟩ := q2 h6
    have hl1 := (List.getElem?_eq_some_iff.1 e3).1
    have hto : TypOk t := by
      cases hD : (17 - d).toNat with
      | zero => rw [hD] at e2; exact e2.elim
      | succ D' =>
        rw [hD] at e2
        obtain ⟨t3, k6, k7, _⟩ := e2
        rw [e3] at k6; cases k6; exact k7
    refine T.jp (ι := Int × GMk) (fun p => p.2 = q.2) (fun J2 k2 => T.br (fun _ => k2 _ rfl) fun _ => T.jp (fun _ => True) (fun J3 k3 => T.br (fun _ => k3 _ trivial) fun _ => k3 _ trivial) fun b4 _ => T.br (fun _ => ?_) fun _ => k2 _ rfl) fun p hp => ?_
    · rw [e1]
      exact T.cal (soft10_tot hl1) fun s _ hs => k2 _ hs
    · rw [hp, e1]
      refine T.cal (wrap10_tot (t := t) _ _ (fun _ => ⟨e3, Nat.le_of_lt (Nat.lt_of_le_of_lt e4 hNb)⟩)) fun z _ ⟨w1, w2, w3⟩ => kk _ ⟨⟨w1.trans q1.m, by rw [w2]; exact q1.le, by rw [w2]; exact q1.lim, fun ez => q1.e (w3 ez).1, fun ez p hp => ?_⟩, fun ez => ?_⟩
      · obtain ⟨tg, k1, k2, k3⟩ := (w3 ez).2 t e3
        rw [k1, List.getElem?_set_ne (Nat.ne_of_gt hp)]
        exact q1.pre h6 p hp
      · obtain ⟨tg, k1, k2, k3⟩ := (w3 ez).2 t e3
        rw [w2, k1]
        exact ⟨e1, e2.set e3 (hto.tag k2 (Nat.le_trans k3 (Nat.succ_le_of_lt (Nat.lt_of_le_of_lt e4 hNb)))) rfl, _, List.getElem?_set_self hl1, Nat.le_trans k3 (Nat.succ_le_succ e4)⟩
  · obtain ⟨e1, e2, t, e3, e4⟩ := q2 e
    exact ⟨e1, e2, t, e3, Nat.le_succ_of_le e4⟩
structure New (n : GNode) (t : GTyp) : Prop where
  kind : t.kind = n.kind
  root : t.root = n.root
  items : t.items = []
  fields : t.fields = []
  tags : t.kind ≠ 9 → t.tags ≠ []
  tlen : t.tags.length ≤ 1
theorem New.ok {n : GNode} {t : GTyp} (h : New n t) (hn : NodeOk n) (h3 : n.kind ≠ 3) (h7 : n.kind ≠ 7) (h8 : n.kind ≠ 8) (h9 : n.kind ≠ 9) (o : Int) : TypOk { t with of := o } := by
  have hk := h.kind
  exact ⟨h.tags, by have := h.tlen; show t.tags.length ≤ _; omega, by rw [h.root]; exact hn.root0, fun e => by rcases e with e | e | e <;> (rw [hk] at e; contradiction), fun e => by rw [hk] at e; contradiction, fun _ => h.fields, fun _ => h.items, by show t.items.length ≤ _; rw [h.items]; decide, fun it hit => (by dsimp only at hit; rw [h.items] at hit; cases hit), fun f hf => (by dsimp only at hf; rw [h.fields] at hf; cases hf), fun _ _ => (by dsimp only; rw [h.root]; exact hn.rootZ h3 (by omega))⟩
theorem snoc_get {α : Type} (l : List α) (t : α) : (l ++ [t])[l.length]? = some t := by rw [List.getElem?_append_right (Nat.le_refl _), Nat.sub_self]; rfl
theorem made_stepT {m : GMod} {rk : Int → Nat} {Fs Nd Md} {N : Nat} (E : Env m rk) (hN : N ≤ 50000) (hnd : ∀ N', N' + 1 = N → NodeS m rk Nd N') (hfs : FieldsT m rk Fs N) : MadeS m rk (r10_maker_made_F Fs Nd Md) N := by
  intro x n k j h a d hm hx3 hn hk11 hs hj hdn hN2 hd0 hd
  unfold r10_maker_made_F
  have hlt := hs.lt
  have hok := E.wf.ok n (List.mem_of_getElem? hn)
  obtain ⟨h', rfl, hkid⟩ : ∃ h', h = h' + 1 ∧ Kids (Sub h' m.nodes) (kidsOf n) (k + 1) j := by
    cases h with
    | zero => exact hs.elim
    | succ h' =>
      obtain ⟨n', e1, e2⟩ := hs
      rw [hn] at e1; cases e1
      exact ⟨h', rfl, e2⟩
  refine T.jp (fun b => b = false → d ≤ 16 ∧ x.l.length < 300) (fun J kk => T.br (fun _ => kk _ fun h => by cases h) fun h1 => kk _ fun h2 => ?_) fun b hb => T.br (fun _ => T.eq (fail10 _ _) (T.some ⟨Gk.sm (Sm.fl (by decide)) hx3, fun e => absurd e (fl_ne (by decide))⟩)) fun hb1 => ?_
  · have h1 := of_decide_eq_false h1
    have h2 := of_decide_eq_false h2
    omega
  obtain ⟨hd16, hx300⟩ := hb hb1
  obtain ⟨D, hD, hD2⟩ : ∃ D, (17 - d).toNat = D + 1 ∧ (16 - d).toNat = D := ⟨(16 - d).toNat, by omega, rfl⟩
  refine T.jp (ι := GTyp) (fun t => New n t) (fun J kk => T.br (fun _ => T.cal (univ_tot _) fun u _ _ => kk _ ⟨rfl, rfl, rfl, rfl, fun _ => by simp, by simp⟩) fun h9 => kk _ ⟨rfl, rfl, rfl, rfl, fun h => absurd (by simpa using h9) h, by simp⟩) fun t ht => ?_
  refine T.jp (ι := GMk) (fun y => y = GMk.mk x.m (x.l ++ [t]) x.e) (fun J kk => T.abl (by rw [List.length_singleton]; omega) (kk _ rfl)) fun y hy => ?_
  subst hy
  have hxl1 : (x.l ++ [t]).length = x.l.length + 1 := by rw [List.length_append, List.length_singleton]
  have hkind := ht.kind
  have g0 : ∀ y : GMk, Sm (GMk.mk x.m (x.l ++ [t]) x.e) y → Gk x y := fun y hy => ⟨hy.m, by rw [hy.l]; dsimp only; omega, by rw [hy.l]; dsimp only; omega, hy.e, fun _ q hq => by rw [hy.l]; exact List.getElem?_append_left hq⟩
  have hti : ((x.l.length : Nat) : Int).toNat = x.l.length := Int.toNat_natCast _
  have hleaf : n.kind ≠ 3 → n.kind ≠ 7 → n.kind ≠ 8 → n.kind ≠ 9 → n.kind ≠ 10 → ∀ y : GMk, Sm (GMk.mk x.m (x.l ++ [t]) x.e) y → (y.e = 0 → SubT (17 - d).toNat y.l x.l.length y.l.length ∧ ∃ t, y.l[x.l.length]? = some t ∧ t.tags.length ≤ 1) := fun h3 h7 h8 h9 h10 y hy _ => by
    have hl := hy.l
    dsimp only at hl
    rw [hl, hD, hxl1]
    refine ⟨⟨t, snoc_get _ _, ht.ok hok h3 h7 h8 h9 t.of, ?_⟩, t, snoc_get _ _, ht.tlen⟩
    unfold kidsT
    rw [ht.fields, if_neg (by rw [hkind]; exact h10)]
    rfl
  refine T.jp (ι := GMk) (fun y => Gk x y ∧ (y.e = 0 → SubT (17 - d).toNat y.l x.l.length y.l.length ∧ ∃ t, y.l[x.l.length]? = some t ∧ t.tags.length ≤ 1)) (fun J kk => ?_) fun y ⟨y1, y2⟩ => T.some ⟨y1, fun e => ⟨rfl, y2 e⟩⟩
  refine T.jp (fun b => b = decide (n.kind = 2 ∨ n.kind = 5 ∨ n.kind = 6 ∨ n.kind = 10)) (fun J1 k1 => T.br (fun h1 => k1 _ ?_) fun h1 => T.br (fun h2 => k1 _ ?_) fun h2 => T.br (fun h3 => k1 _ ?_) fun h3 => k1 _ ?_) fun b hb => ?_
  · have h1 := of_decide_eq_true h1
    rw [decide_eq_true h1, decide_eq_true (.inl h1)]
  · have h2 := of_decide_eq_true h2
    rw [decide_eq_true h2, decide_eq_true (.inr (.inl h2))]
  · have h3 := of_decide_eq_true h3
    rw [decide_eq_true h3, decide_eq_true (.inr (.inr (.inl h3)))]
  · have h1 := of_decide_eq_false h1
    have h2 := of_decide_eq_false h2
    have h3 := of_decide_eq_false h3
    rw [decide_eq_decide]; omega
  subst hb
  refine T.br (fun hb => ?_) fun hb => ?_
  · -- a leaf with bounds, or a list
    have hb := of_decide_eq_true hb
    refine T.cal (check_tot _ _) fun ce _ _ => T.jp (ι := GMk) (fun y => Sm (GMk.mk x.m (x.l ++ [t]) x.e) y) (fun J1 k1 => T.br (fun hc => T.eq (fail10 _ _) (k1 _ (Sm.fl (by simpa using hc)))) fun _ => k1 _ (Sm.refl _)) fun y hy => T.br (fun h10 => ?_) fun h10 => kk _ ⟨g0 y hy, hleaf (by omega) (by omega) (by omega) (by omega) (of_decide_eq_false h10) y hy⟩
    have h10 := of_decide_eq_true h10
    have hko : kidsOf n = n.fields.map (fun f => f.ty) ++ [n.of] := by unfold kidsOf; rw [if_neg hk11, if_pos h10]
    obtain ⟨c, dd, c1, c2, c3, c4⟩ := Kids.subs hkid (k := n.of) (by rw [hko]; simp)
    have hc := c2.lt
    have hyl := hy.l
    dsimp only at hyl
    refine T.ck (by omega) ?_
    rw [c1]
    refine T.cal (hnd (N - 1) (by omega) y c dd h' a (d + 1) (hy.m.trans hm) (by rw [hyl]; omega) c2 (by omega) (hdn.part (by omega) c4) (by omega) (by omega) (by omega)) fun r _ ⟨r1, r2⟩ => ?_
    have g1 : Gk x r.2 := (g0 y hy).trans r1
    refine T.br (fun he => ?_) fun he => kk _ ⟨g1, fun e => absurd e (of_decide_eq_false he)⟩
    have he := of_decide_eq_true he
    have hpre := r1.pre he x.l.length (by rw [hyl]; omega)
    rw [hyl, snoc_get] at hpre
    have hl1 := (List.getElem?_eq_some_iff.1 hpre).1
    have hr := r2 he
    clear r2
    obtain ⟨e1, e2, _⟩ := hr
    refine T.asd ⟨by omega, by omega⟩ ?_
    rw [hti]
    refine T.eq hpre (kk _ ⟨⟨g1.m, by rw [List.length_set]; exact g1.le, by rw [List.length_set]; exact g1.lim, g1.e, fun e q hq => by dsimp only; rw [List.getElem?_set_ne (by omega)]; exact g1.pre he q hq⟩, fun _ => ?_⟩)
    dsimp only
    rw [hD, List.length_set]
    refine ⟨⟨_, List.getElem?_set_self hl1, ht.ok hok (by omega) (by omega) (by omega) (by omega) r.1, ?_⟩, _, List.getElem?_set_self hl1, ht.tlen⟩
    unfold kidsT
    dsimp only
    rw [ht.fields, if_pos (by rw [hkind]; exact h10)]
    have hD3 : (17 - (d + 1)).toNat = D := by omega
    rw [hD3, hyl, hxl1] at e2
    rw [e1, hyl, hxl1]
    exact ⟨_, rfl, SubT.mono (fun q hq _ => List.getElem?_set_ne (by omega)) e2, rfl⟩
  have hb := of_decide_eq_false hb
  refine T.br (fun h3 => ?_) fun h3 => ?_
  · -- an enumerated type
    have h3 := of_decide_eq_true h3
    refine T.cal (items10_tot (GMk.mk x.m (x.l ++ [t]) x.e) n hok (hok.items h3)) fun r _ ⟨r1, r2, r3⟩ => ?_
    dsimp only at r1 r2 r3 ⊢
    refine T.asd (by rw [r2]) (T.asd ⟨by omega, by omega⟩ ?_)
    rw [hti]
    have hget : r.2.l[x.l.length]? = some t := by rw [r2]; exact snoc_get _ _
    have hrl : r.2.l.length = x.l.length + 1 := by rw [r2]; exact hxl1
    refine T.eq hget (kk _ ⟨⟨r1, by dsimp only; rw [List.length_set]; omega, by dsimp only; rw [List.length_set]; omega, fun e => (r3 e).1, fun e q hq => by dsimp only; rw [List.getElem?_set_ne (by omega), r2]; exact List.getElem?_append_left hq⟩, fun e => ?_⟩)
    obtain ⟨e1, e2, e3⟩ := r3 e
    have hil := hok.ilen
    dsimp only
    rw [hD, List.length_set]
    refine ⟨⟨_, List.getElem?_set_self (by omega), ⟨ht.tags, by have := ht.tlen; dsimp only; omega, by dsimp only; rw [ht.root]; exact hok.root0, fun e => by dsimp only at e; rw [hkind] at e; omega, fun _ => by dsimp only; rw [ht.root, e2]; exact hok.items h3, fun _ => ht.fields, fun e => by dsimp only at e; rw [hkind] at e; contradiction, by dsimp only; rw [e2]; exact hil, e3, fun f hf => (by dsimp only at hf; rw [ht.fields] at hf; cases hf), fun e => absurd (by dsimp only; rw [hkind]; exact h3) e⟩, ?_⟩, _, List.getElem?_set_self (by omega), ht.tlen⟩
    unfold kidsT
    dsimp only
    rw [ht.fields, if_neg (by rw [hkind]; omega), hrl]
    rfl
  have h3 := of_decide_eq_false h3
  refine T.jp (fun b => b = decide (n.kind = 7 ∨ n.kind = 8 ∨ n.kind = 9)) (fun J1 k1 => T.br (fun h1 => k1 _ ?_) fun h1 => T.br (fun h2 => k1 _ ?_) fun h2 => k1 _ ?_) fun b hb2 => ?_
  · have h1 := of_decide_eq_true h1
    rw [decide_eq_true h1, decide_eq_true (.inl h1)]
  · have h2 := of_decide_eq_true h2
    rw [decide_eq_true h2, decide_eq_true (.inr (.inl h2))]
  · have h1 := of_decide_eq_false h1
    have h2 := of_decide_eq_false h2
    rw [decide_eq_decide]; omega
  subst hb2
  refine T.br (fun hb2 => ?_) fun hb2 => kk _ ⟨g0 _ (Sm.refl _), ?_⟩
  · -- fields
    have hb2 := of_decide_eq_true hb2
    have hko : kidsOf n = n.fields.map (fun f => f.ty) := by unfold kidsOf; rw [if_neg hk11, if_neg (by omega), List.append_nil]
    rw [hko] at hkid
    refine T.cal (hfs (GMk.mk x.m (x.l ++ [t]) x.e) n k j h' a d x.l t hm rfl (by dsimp only; omega) hn hkid hj hdn hN2 hd0 hd16 hb2 hkind ht.root) fun y _ ⟨y1, y2, y3, y4⟩ => kk _ ⟨⟨y1.trans hm.symm, by dsimp only at y2; omega, y3, fun e => (y4 e).1, fun e q hq => ?_⟩, fun e => ?_⟩
    · rw [(y4 e).2.1 q hq]; exact List.getElem?_append_left hq
    obtain ⟨e1, e2, fs, e3, e4, e5, e6⟩ := y4 e
    dsimp only at e5
    rw [hD]
    refine ⟨⟨_, e3, ⟨ht.tags, by have := ht.tlen; dsimp only; omega, by dsimp only; rw [ht.root]; exact hok.root0, fun _ => by dsimp only; rw [ht.root, e4]; exact hok.fields hb2, fun e => by dsimp only at e; rw [hkind] at e; contradiction, fun e => absurd (by dsimp only; rw [hkind]; exact hb2) e, fun _ => ht.items, by dsimp only; rw [ht.items]; decide, fun it hit => (by dsimp only at hit; rw [ht.items] at hit; cases hit), e6, fun _ e => absurd (by dsimp only; rw [hkind]; exact hb2) e⟩, ?_⟩, _, e3, ht.tlen⟩
    unfold kidsT
    dsimp only
    rw [if_neg (by rw [hkind]; omega), List.append_nil]
    rw [hD2, hxl1] at e5
    exact e5
  · have hb2 := of_decide_eq_false hb2
    exact hleaf h3 (by omega) (by omega) (by omega) (by omega) _ (Sm.refl _)
theorem maker_tot {m : GMod} {rk : Int → Nat} (E : Env m rk) : ∀ N, N ≤ 30000 →
    (∀ n, 3 * N + 1 ≤ n → FieldsT m rk (r10_maker_fields n) N) ∧ (∀ n, 3 * N + 2 ≤ n → MadeS m rk (r10_maker_made n) N) ∧ (∀ n, 3 * N + 3 ≤ n → NodeS m rk (r10_maker_node n) N) := by
  intro N
  induction N with
  | zero =>
    intro _
    have hf : ∀ n, 1 ≤ n → FieldsT m rk (r10_maker_fields n) 0 := fun n hn => by
      obtain ⟨n, rfl⟩ : ∃ n', n = n' + 1 := ⟨n - 1, by omega⟩
      exact fields_stepT (Fs := (r10_maker_fields_grp n).1) (Nd := (r10_maker_fields_grp n).2.1) (Md := (r10_maker_fields_grp n).2.2) E (by omega) fun N' h => by omega
    have hm : ∀ n, 2 ≤ n → MadeS m rk (r10_maker_made n) 0 := fun n hn => by
      obtain ⟨n, rfl⟩ : ∃ n', n = n' + 1 := ⟨n - 1, by omega⟩
      exact made_stepT (Fs := (r10_maker_fields_grp n).1) (Nd := (r10_maker_fields_grp n).2.1) (Md := (r10_maker_fields_grp n).2.2) E (by omega) (fun N' h => by omega) (hf n (by omega))
    refine ⟨fun n hn => hf n (by omega), fun n hn => hm n (by omega), fun n hn => ?_⟩
    obtain ⟨n, rfl⟩ : ∃ n', n = n' + 1 := ⟨n - 1, by omega⟩
    exact node_stepT (Fs := (r10_maker_fields_grp n).1) (Nd := (r10_maker_fields_grp n).2.1) (Md := (r10_maker_fields_grp n).2.2) E (by omega) (fun N' h => by omega) (hm n (by omega))
  | succ N ih =>
    intro hN
    obtain ⟨_, _, ihn⟩ := ih (by omega)
    have hf : ∀ n, 3 * (N + 1) + 1 ≤ n → FieldsT m rk (r10_maker_fields n) (N + 1) := fun n hn => by
      obtain ⟨n, rfl⟩ : ∃ n', n = n' + 1 := ⟨n - 1, by omega⟩
      exact fields_stepT (Fs := (r10_maker_fields_grp n).1) (Nd := (r10_maker_fields_grp n).2.1) (Md := (r10_maker_fields_grp n).2.2) E (by omega) fun N' h => by
        have : N' = N := by omega
        subst this; exact ihn n (by omega)
    have hm : ∀ n, 3 * (N + 1) + 2 ≤ n → MadeS m rk (r10_maker_made n) (N + 1) := fun n hn => by
      obtain ⟨n, rfl⟩ : ∃ n', n = n' + 1 := ⟨n - 1, by omega⟩
      exact made_stepT (Fs := (r10_maker_fields_grp n).1) (Nd := (r10_maker_fields_grp n).2.1) (Md := (r10_maker_fields_grp n).2.2) E (by omega) (fun N' h => by
        have : N' = N := by omega
        subst this; exact ihn n (by omega)) (hf n (by omega))
    refine ⟨hf, hm, fun n hn => ?_⟩
    obtain ⟨n, rfl⟩ : ∃ n', n = n' + 1 := ⟨n - 1, by omega⟩
    exact node_stepT (Fs := (r10_maker_fields_grp n).1) (Nd := (r10_maker_fields_grp n).2.1) (Md := (r10_maker_fields_grp n).2.2) E (by omega) (fun N' h => by
        have : N' = N := by omega
        subst this; exact ihn n (by omega)) (hm n (by omega))
end Go.Proofs.YtajbipkppngccaaDoor


namespace Go.Proofs.YtajbipkppngccaaDoor
open Go.Sy
set_option linter.unusedVariables false

theorem Kids.find {S : Nat → Nat → Prop} {p : Nat} : ∀ {r : List Int} {a b : Nat}, Kids S r a b → a ≤ p → p < b → ∃ (k : Int) (c d : Nat), k ∈ r ∧ k = (c : Int) ∧ S c d ∧ c ≤ p ∧ p < d := by
  intro r
  induction r with
  | nil => intro a b h h1 h2; cases h; omega
  | cons x r ih =>
    intro a b ⟨c, h0, h1, h2⟩ ha hb
    rcases Nat.lt_or_ge p c with h | h
    · exact ⟨x, a, c, List.mem_cons_self, h0, h1, ha, h⟩
    · obtain ⟨k, c', d', k1, k2, k3, k4, k5⟩ := ih h2 h hb
      exact ⟨k, c', d', List.mem_cons_of_mem _ k1, k2, k3, k4, k5⟩
theorem ref_nmx : ∀ {h : Nat} {l : List GNode} {c d p : Nat} {n : GNode}, Sub h l c d → c ≤ p → p < d → l[p]? = some n → n.kind = 11 → n.name ∈ nmx l h (c : Int) := by
  intro h
  induction h with
  | zero => intro l c d p n hs; exact hs.elim
  | succ h ih =>
    intro l c d p n ⟨n0, h1, h2⟩ hc hd hn hk
    rw [nm_node h1]
    rcases Nat.eq_or_lt_of_le hc with e | e
    · subst e
      rw [h1] at hn; cases hn
      rw [if_pos hk]; exact List.mem_singleton.2 rfl
    · by_cases h0 : n0.kind = 11
      · have : kidsOf n0 = [] := by unfold kidsOf; rw [if_pos h0]
        rw [this] at h2
        cases h2
        omega
      · rw [if_neg h0]
        obtain ⟨k, c', d', k1, k2, k3, k4, k5⟩ := Kids.find h2 e hd
        refine List.mem_flatMap.2 ⟨k, k1, ?_⟩
        rw [k2]
        exact ih k3 k4 k5 hn hk
theorem wr_none {m : GMod} (h : (wr m).2 = 0) : first (none_ m) m.names.length 0 = none := by
  unfold wr at h
  split at h
  · cases h
  · split at h
    · cases h
    · assumption
theorem wr_twice {m : GMod} (h : (wr m).2 = 0) : first (twice m) m.names.length 0 = none := by
  unfold wr at h
  split at h
  · cases h
  · assumption
theorem env_of {m : GMod} (w : WF m) (h : (wr m).2 = 0) : ∃ rk : Int → Nat, Env m rk := by
  obtain ⟨rk, r1, r2⟩ := ranks w h
  have hn := w.names
  have ht := w.types
  refine ⟨rk, w, fun i => Nat.le_trans (r1 i) hn, r2, fun b b0 b1 => ?_⟩
  obtain ⟨t, hbt⟩ : ∃ t, m.types[b.toNat]? = some t := ⟨_, List.getElem?_eq_getElem (by omega)⟩
  obtain ⟨c, d, e1, e2, e3, e4⟩ := Kids.subs w.forest (List.mem_of_getElem? hbt)
  subst e1
  refine ⟨c, d, hbt, e2, e4, fun p n hp hq hpn hk => ?_⟩
  have hmem : n.name ∈ nms m (c : Int) := ref_nmx e2 hp hq hpn hk
  have hno := first_none (wr_none h) b b0 (by omega)
  unfold none_ at hno
  rw [hbt] at hno
  have hno : lost m (c : Int) = false := hno
  unfold lost at hno
  have h1 := List.any_eq_false.1 hno _ hmem
  have h2 : 0 ≤ fnd m.names n.name := by
    refine Classical.byContradiction fun hc => h1 (decide_eq_true (by omega))
  refine ⟨h2, b0, uses m (c : Int), by unfold gr; rw [List.getElem?_map, hbt]; rfl, ?_⟩
  unfold uses
  refine mem_adds.2 (.inr (List.mem_filterMap.2 ⟨_, hmem, ?_⟩))
  unfold idx
  rw [if_neg (by omega)]
structure TabOk (t : GTab) : Prop where
  names : t.names.length ≤ 40
  roots : t.roots.length = t.names.length
  types : t.types.length ≤ 300
  kids : Kids (SubT 17 t.types) t.roots 0 t.types.length
  fnds : ∀ (p : Nat) (s : Str), t.names[p]? = some s → fnd t.names s = (p : Int)
theorem TabOk.empty (s : Str) : TabOk (GTab.mk s [] [] []) := ⟨Nat.zero_le _, rfl, Nat.zero_le _, rfl, fun p s h => by simp at h⟩
theorem make_tot {m : GMod} (w : WF m) : T (fun r => TabOk r.1 ∧ (r.2.2 = 0 → r.1.names = m.names ∧ r.1.name = m.name)) (r10_Make m) := by
  unfold r10_Make
  have hn := w.names
  have ht := w.types
  refine T.eq (order7_eq w) (T.br (fun hb => T.some ⟨TabOk.empty _, fun h => absurd h (by simpa using hb)⟩) fun hb => ?_)
  have hw : (wr m).2 = 0 := by
    have hb : (ordr m).2.2 = 0 := by simpa using hb
    unfold ordr at hb
    split at hb
    · assumption
    · exact hb
  obtain ⟨rk, E⟩ := env_of w hw
  have hfn : ∀ (p : Nat) (s : Str), m.names[p]? = some s → fnd m.names s = (p : Int) := fun p s hp => by
    have hlt := (List.getElem?_eq_some_iff.1 hp).1
    have h1 := first_none (wr_twice hw) (p : Int) (by omega) (by omega)
    unfold twice at h1
    rw [Int.toNat_natCast, hp] at h1
    have h2 := of_decide_eq_false h1
    rcases fnd_spec m.names s with h3 | h3
    · exact absurd (List.mem_of_getElem? hp) h3.2
    · rcases Int.lt_or_le (p : Int) (fnd m.names s) with h4 | h4
      · exact absurd hp (h3.2.2.2 p (by omega))
      · omega
  have hnode := (maker_tot E 12400 (by omega)).2.2 fuel (by unfold fuel; omega)
  refine T.jp (ι := GTab) (fun t => t = GTab.mk m.name m.names [] []) (fun J kk => T.abl (by rw [List.length_nil]; omega) (kk _ (by rw [List.nil_append]))) fun t htb => ?_
  subst htb
  refine T.lp (ι := Int × GTab × GMk) (fun q => 0 ≤ q.1 ∧ q.1 ≤ m.names.length ∧ q.2.1.names = m.names ∧ q.2.1.name = m.name ∧ (q.2.1.roots.length : Int) = q.1 ∧ q.2.2.m = m ∧ q.2.2.l.length ≤ 300 ∧ Kids (SubT 17 q.2.2.l) q.2.1.roots 0 q.2.2.l.length) (fun q => ((m.names.length : Int) - q.1).toNat) ⟨Int.le_refl _, by dsimp only; omega, rfl, rfl, rfl, rfl, Nat.zero_le _, rfl⟩ (by dsimp only; omega) fun L q ⟨q1, q2, q3, q4, q5, q6, q7, q8⟩ hL => ?_
  obtain ⟨i, t, y⟩ := q
  dsimp only at q1 q2 q3 q4 q5 q6 q7 q8 hL ⊢
  refine T.br (fun hi => ?_) fun hi => T.some ⟨⟨by dsimp only; rw [q3]; exact hn, by dsimp only; rw [q3]; have := of_decide_eq_false hi; omega, q7, q8, fun p s h => (by rw [q3] at h ⊢; exact hfn p s h)⟩, fun _ => ⟨q3, q4⟩⟩
  have hi := of_decide_eq_true hi
  obtain ⟨c, d, e1, e2, e3, e4⟩ := E.root i q1 hi
  have hwn := w.nodes
  have hrk := E.rk40 i
  have hcd := e2.lt
  refine T.jp (ι := GTab × GMk) (fun p => p.1.names = m.names ∧ p.1.name = m.name ∧ (p.1.roots.length : Int) = i + 1 ∧ p.2.m = m ∧ p.2.l.length ≤ 300 ∧ (p.2.e = 0 → Kids (SubT 17 p.2.l) p.1.roots 0 p.2.l.length)) (fun J kk => T.get q1 (by omega) fun y36 h36 => ?_) fun p ⟨p1, p2, p3, p4, p5, p6⟩ => ?_
  · rw [e1] at h36; cases h36
    have hNN : rk i * 301 + (d - c) ≤ 12400 := by
      have := Nat.mul_le_mul_right 301 hrk
      have h2 : d - c ≤ 300 := Nat.le_trans (Nat.sub_le _ _) (Nat.le_trans e3 hwn)
      exact Nat.le_trans (Nat.add_le_add this h2) (by decide)
    refine T.cal (hnode y c d 17 i 0 q6 q7 e2 e3 e4 hNN (Int.le_refl _) (by decide)) fun r _ ⟨r1, r2⟩ => T.abl (by rw [List.length_singleton]; omega) (kk _ ⟨q3, q4, by dsimp only; rw [List.length_append, List.length_singleton]; omega, r1.m.trans q6, r1.lim, fun e => ?_⟩)
    obtain ⟨k1, k2, _⟩ := r2 e
    dsimp only
    rw [k1]
    exact Kids.snoc (KidsT.monoL (fun k _ hk => r1.pre e k hk) q8) k2
  · refine T.br (fun he => T.some ⟨TabOk.empty _, fun h => absurd h (by simpa using he)⟩) fun he => T.ck (by omega) (hL _ ⟨by dsimp only; omega, by dsimp only; omega, p1, p2, p3, p4, p5, p6 (by simpa using he)⟩ (by dsimp only; omega))
theorem table_tot (s : Str) : T (fun r => TabOk r.1) (oghamplay_Table s) := by
  unfold oghamplay_Table
  refine T.br (fun _ => T.some (TabOk.empty _)) fun _ => T.cal (parse_tot s) fun r _ hr => T.br (fun _ => T.some (TabOk.empty _)) fun _ => T.cal (make_tot hr) fun t _ ht => T.jp (fun _ => True) (fun J kk => T.br (fun _ => kk _ trivial) fun _ => kk _ trivial) fun b _ => T.some ht.1
end Go.Proofs.YtajbipkppngccaaDoor


namespace Go.Proofs.YtajbipkppngccaaDoor
open Go.Sy
set_option maxRecDepth 4000
def r10_Find (a_t : GTab) (a_name : Str) : Option (Int) :=
  lp (ι := Int) (fun L2 q1 => jp (ι := Bool) (fun J10 => br (decide (q1 < (a_t.names.length : Int))) (J10 ((decide (q1 < (a_t.roots.length : Int))))) (J10 (false))) (fun q9 => br q9 (cal (getI a_t.names q1) fun y12 => br (decide (y12 = a_name)) (cal (getI a_t.roots q1) fun y13 => some (y13)) (ck ((q1 + (1 : Int))) <| L2 ((q1 + (1 : Int))))) (some ((-1 : Int))))) (((0 : Int)))

def h_Plain_api_Tag_c1 (a_x : Tag) (a_y : Tag) : Option (Bool) :=
  some ((decide (a_x = a_y)))

def h_Same_api_Tag (a_a : (List Tag)) (a_b : (List Tag)) : Option (Bool) :=
  br (!decide ((a_a.length : Int) = (a_b.length : Int))) (some (false)) (lp (ι := Int) (fun L2 q1 => br (decide (q1 < (a_a.length : Int))) (cal (getI a_a q1) fun y7 => cal (getI a_b q1) fun y8 => cal (h_Plain_api_Tag_c1 y7 y8) fun y9 => br (!y9) (some (false)) (ck ((q1 + (1 : Int))) <| L2 ((q1 + (1 : Int))))) (some (true))) (((0 : Int))))

def h_Plain_api_Tag (a_a : (List Tag)) (a_b : (List Tag)) : Option (Bool) :=
  cal (h_Same_api_Tag a_a a_b) fun y1 => some (y1)

def h_Plain_api_Item_c1 (a_x : GItem) (a_y : GItem) : Option (Bool) :=
  some ((decide (a_x = a_y)))

def h_Same_api_Item (a_a : (List GItem)) (a_b : (List GItem)) : Option (Bool) :=
  br (!decide ((a_a.length : Int) = (a_b.length : Int))) (some (false)) (lp (ι := Int) (fun L2 q1 => br (decide (q1 < (a_a.length : Int))) (cal (getI a_a q1) fun y7 => cal (getI a_b q1) fun y8 => cal (h_Plain_api_Item_c1 y7 y8) fun y9 => br (!y9) (some (false)) (ck ((q1 + (1 : Int))) <| L2 ((q1 + (1 : Int))))) (some (true))) (((0 : Int))))

def h_Plain_api_Item (a_a : (List GItem)) (a_b : (List GItem)) : Option (Bool) :=
  cal (h_Same_api_Item a_a a_b) fun y1 => some (y1)

def law21_alike_F (law21_alike' : GTab → Int → GTab → Int → Option (Bool)) (a_a : GTab) (a_i : Int) (a_b : GTab) (a_k : Int) : Option (Bool) :=
  jp (ι := GTyp × GTyp) (fun J2 => cal (getI a_a.types a_i) fun y3 => cal (getI a_b.types a_k) fun y4 => J2 (y3, y4)) (fun q1 => jp (ι := Bool) (fun J10 => br (!decide (q1.1.kind = q1.2.kind)) (J10 (true)) (cal (h_Plain_api_Tag q1.1.tags q1.2.tags) fun y12 => J10 ((!y12)))) (fun q9 => jp (ι := Bool) (fun J14 => br q9 (J14 (true)) (J14 ((!decide (q1.1.con = q1.2.con))))) (fun q13 => jp (ι := Bool) (fun J17 => br q13 (J17 (true)) (cal (h_Plain_api_Item q1.1.items q1.2.items) fun y19 => J17 ((!y19)))) (fun q16 => jp (ι := Bool) (fun J21 => br q16 (J21 (true)) (J21 ((!decide (q1.1.root = q1.2.root))))) (fun q20 => jp (ι := Bool) (fun J24 => br q20 (J24 (true)) (J24 ((!decide (q1.1.more = q1.2.more))))) (fun q23 => jp (ι := Bool) (fun J27 => br q23 (J27 (true)) (J27 ((!decide ((q1.1.fields.length : Int) = (q1.2.fields.length : Int)))))) (fun q26 => br q26 (some (false)) (jp (ι := Bool) (fun J30 => br (decide (q1.1.kind = (10 : Int))) (cal (law21_alike' a_a q1.1.of a_b q1.2.of) fun y32 => J30 ((!y32))) (J30 (false))) (fun q29 => br q29 (some (false)) (lp (ι := Int) (fun L34 q33 => br (decide (q33 < (q1.1.fields.length : Int))) (cal (getI q1.1.fields q33) fun y44 => cal (getI q1.2.fields q33) fun y45 => jp (ι := Bool) (fun J47 => br (!decide (y44.name = y45.name)) (J47 (true)) (cal (getI q1.1.fields q33) fun y49 => cal (getI q1.2.fields q33) fun y50 => cal (law21_alike' a_a y49.ty a_b y50.ty) fun y51 => J47 ((!y51)))) (fun q46 => br q46 (some (false)) (ck ((q33 + (1 : Int))) <| L34 ((q33 + (1 : Int)))))) (some (true))) (((0 : Int)))))))))))))
def law21_alike_grp : Nat → (GTab → Int → GTab → Int → Option (Bool))
  | 0 => (fun _ _ _ _ => none)
  | n + 1 => let p := law21_alike_grp n; (law21_alike_F p)
def law21_alike (n : Nat) : GTab → Int → GTab → Int → Option (Bool) := (law21_alike_grp n)

def law21_ExtendOrder (a_first : Str) (a_second : Str) (a_third : Str) : Option (Bool) :=
  cal (oghamplay_Table a_first) fun y1 => cal (oghamplay_Table a_second) fun y3 => cal (oghamplay_Table a_third) fun y5 => jp (ι := Bool) (fun J8 => br (!y1.2) (J8 (true)) (J8 ((!y3.2)))) (fun q7 => jp (ι := Bool) (fun J11 => br q7 (J11 (true)) (J11 ((!y5.2)))) (fun q10 => br q10 (cal (law21_awake ) fun y13 => some (y13)) (cal (extend_May y1.1 y1.1) fun y14 => cal (extend_May y1.1 y3.1) fun y15 => cal (extend_May y3.1 y5.1) fun y16 => cal (extend_May y1.1 y5.1) fun y17 => cal (extend_May y3.1 y1.1) fun y18 => cal (law21_awake ) fun y19 => jp (ι := Bool) (fun J21 => br (!y19) (J21 (true)) (J21 ((!decide (y14.2 = (0 : Int)))))) (fun q20 => jp (ι := Bool) (fun J24 => br q20 (J24 (true)) (jp (ι := Bool) (fun J27 => br (decide (y15.2 = (0 : Int))) (J27 ((decide (y16.2 = (0 : Int))))) (J27 (false))) (fun q26 => jp (ι := Bool) (fun J30 => br q26 (J30 ((!decide (y17.2 = (0 : Int))))) (J30 (false))) (fun q29 => J24 (q29))))) (fun q23 => br q23 (some (false)) (jp (ι := Bool) (fun J33 => br (!decide (y15.2 = (0 : Int))) (J33 (true)) (J33 ((!decide (y18.2 = (0 : Int)))))) (fun q32 => br q32 (some (true)) (lp (ι := Int) (fun L36 q35 => br (decide (q35 < (y1.1.names.length : Int))) (cal (getI y1.1.roots q35) fun y45 => cal (getI y1.1.names q35) fun y46 => cal (r10_Find y3.1 y46) fun y47 => jp (ι := Bool) (fun J49 => br (decide (y47 < (0 : Int))) (J49 (true)) (cal (law21_alike fuel y1.1 y45 y3.1 y47) fun y51 => J49 ((!y51)))) (fun q48 => br q48 (some (false)) (ck ((q35 + (1 : Int))) <| L36 ((q35 + (1 : Int)))))) (some ((decide ((y1.1.names.length : Int) = (y3.1.names.length : Int)))))) (((0 : Int)))))))))))
end Go.Proofs.YtajbipkppngccaaDoor


namespace Go.Proofs.YtajbipkppngccaaDoor
open Go.Sy
set_option linter.unusedVariables false

theorem T.and {β : Type} {R : β → Prop} {c d : Bool} {K : Bool → Option β} (hK : T R (K (c && d))) : T R (Sy.jp (fun J => Sy.br c (J d) (J false)) K) := by cases c <;> exact hK
theorem T.or {β : Type} {R : β → Prop} {c d : Bool} {K : Bool → Option β} (hK : T R (K (c || d))) : T R (Sy.jp (fun J => Sy.br c (J true) (J d)) K) := by cases c <;> exact hK
theorem T.andM {β : Type} {R : β → Prop} {c d : Bool} {K : Bool → Option β} {M : (Bool → Option β) → Option β} (h : c = true → T R (K d) → T R (M K)) (hK : T R (K (c && d))) : T R (Sy.jp (fun J => Sy.br c (M J) (J false)) K) := by
  cases c
  · exact hK
  · exact h rfl hK
theorem T.orM {β : Type} {R : β → Prop} {c d : Bool} {K : Bool → Option β} {M : (Bool → Option β) → Option β} (h : c = false → T R (K d) → T R (M K)) (hK : T R (K (c || d))) : T R (Sy.jp (fun J => Sy.br c (J true) (M J)) K) := by
  cases c
  · exact h rfl hK
  · exact hK
theorem eq_of_take {α : Type} [DecidableEq α] {a b : List α} (h : a.length = b.length) (k : ∀ i : Nat, i < a.length → a[i]? = b[i]?) : a = b := by
  refine List.ext_getElem? fun i => ?_
  rcases Nat.lt_or_ge i a.length with h1 | h1
  · exact k i h1
  · rw [List.getElem?_eq_none h1, List.getElem?_eq_none (by omega)]
theorem same_loop {α : Type} [DecidableEq α] {F : (Int → Option Bool) → Int → Option Bool} (a b : List α) (hl : a.length = b.length) (ha : a.length ≤ 1000000)
    (hF : ∀ (L : Int → Option Bool) (q : Int), F L q = Sy.br (decide (q < (a.length : Int))) (Sy.cal (getI a q) fun y => Sy.cal (getI b q) fun z => Sy.br (!decide (y = z)) (some false) (Sy.ck (q + 1) <| L (q + 1))) (some true)) :
    Sy.lp F (0 : Int) = some (decide (a = b)) := by
  refine T.eqs ?_
  refine T.lp (fun (q : Int) => 0 ≤ q ∧ q ≤ (a.length : Int) ∧ ∀ i : Nat, (i : Int) < q → a[i]? = b[i]?) (fun (q : Int) => ((a.length : Int) - q).toNat) ⟨Int.le_refl _, by omega, fun i h => by omega⟩ (by omega) fun L q ⟨h1, h2, h3⟩ hL => ?_
  rw [hF]
  refine T.br (fun hb => ?_) fun hb => T.some ?_
  · have hb := of_decide_eq_true hb
    refine T.get h1 hb fun y hy => T.get h1 (by omega) fun z hz => T.br (fun he => T.some ?_) fun he => T.ck (by omega) (hL _ ⟨by omega, by omega, fun i hi => ?_⟩ (by omega))
    · have he : y ≠ z := by simpa using he
      refine (decide_eq_false fun e => he ?_).symm
      subst e
      rw [hy] at hz; cases hz; rfl
    · have he : y = z := by simpa using he
      rcases Int.lt_or_le (i : Int) q with h | h
      · exact h3 i h
      · have : i = q.toNat := by omega
        rw [this, hy, hz, he]
  · have hb := of_decide_eq_false hb
    exact (decide_eq_true (eq_of_take hl fun i hi => h3 i (by omega))).symm
theorem len_ne {α : Type} [DecidableEq α] {a b : List α} (h : ¬ (a.length : Int) = b.length) : false = decide (a = b) := (decide_eq_false fun e => h (by rw [e])).symm
theorem len_eq {a b : Nat} (h : (!decide ((a : Int) = (b : Int))) = false) : a = b := by
  have : (a : Int) = b := by simpa using h
  omega
theorem plain_tag (a b : List Tag) (ha : a.length ≤ 1000000) : h_Plain_api_Tag a b = some (decide (a = b)) := by
  refine T.eqs ?_
  unfold h_Plain_api_Tag
  refine T.eq (y := decide (a = b)) (T.eqs ?_) (T.some rfl)
  unfold h_Same_api_Tag
  refine T.br (fun h => T.some (len_ne (by simpa using h))) fun h => T.of (same_loop a b (len_eq h) ha fun L q => rfl) rfl
theorem plain_item (a b : List GItem) (ha : a.length ≤ 1000000) : h_Plain_api_Item a b = some (decide (a = b)) := by
  refine T.eqs ?_
  unfold h_Plain_api_Item
  refine T.eq (y := decide (a = b)) (T.eqs ?_) (T.some rfl)
  unfold h_Same_api_Item
  refine T.br (fun h => T.some (len_ne (by simpa using h))) fun h => T.of (same_loop a b (len_eq h) ha fun L q => rfl) rfl
theorem equal_tag (a b : List Tag) (ha : a.length ≤ 1000000) : slices_Equal_Lapi_Tag_api_Tag a b = some (decide (a = b)) := by
  refine T.eqs ?_
  unfold slices_Equal_Lapi_Tag_api_Tag
  refine T.br (fun h => T.some (len_ne (by simpa using h))) fun h => T.of (same_loop a b (len_eq h) ha fun L q => rfl) rfl
theorem equal_item (a b : List GItem) (ha : a.length ≤ 1000000) : slices_Equal_Lapi_Item_api_Item a b = some (decide (a = b)) := by
  refine T.eqs ?_
  unfold slices_Equal_Lapi_Item_api_Item
  refine T.br (fun h => T.some (len_ne (by simpa using h))) fun h => T.of (same_loop a b (len_eq h) ha fun L q => rfl) rfl
def vsm (f g : Val) : Bool := decide (f.kind = g.kind) && decide (f.n = g.n) && decide (Str.mk f.b = Str.mk g.b) && decide ((0 : Int) = g.l.length) && decide (f.rule = g.rule) && decide ((0 : Int) = g.more.length)
theorem nil_same {α : Type} (b : List α) {F : (Int → Option Bool) → Int → Option Bool} (hF : ∀ L, F L 0 = some true) : Sy.br (!decide (((([] : List α).length : Nat) : Int) = (b.length : Int))) (some false) (Sy.lp F (0 : Int)) = some (decide ((0 : Int) = b.length)) := by
  refine T.eqs ?_
  refine T.br (fun h => T.some ?_) fun h => ?_
  · have h : ¬ (0 : Int) = b.length := by simpa using h
    exact (decide_eq_false h).symm
  · have h : (0 : Int) = b.length := by simpa using h
    refine T.lp (fun (q : Int) => q = 0) (fun _ => 1) rfl (by decide) fun L q hq _ => ?_
    rw [hq, hF]
    exact T.some (decide_eq_true h).symm
theorem vsame_eq (f g : Val) (hf : DOk f) {n : Nat} (hn : 2 ≤ n) : value_Same n f g = some (vsm f g) := by
  obtain ⟨n, rfl⟩ : ∃ n', n = n' + 2 := ⟨n - 2, by omega⟩
  obtain ⟨h1, h2, h3⟩ := hf
  refine T.eqs ?_
  show T _ (value_Same_F (slices_EqualFunc_Lapi_Value_Lapi_Value_api_Value_api_Value (n + 1)) (value_Same (n + 1)) f g)
  unfold value_Same_F
  refine T.and (T.andM (fun _ h => T.eq (y := decide (Str.mk f.b = Str.mk g.b)) rfl h) (T.andM (fun _ h => T.eq (y := decide ((0 : Int) = g.l.length)) ?_ h) (T.and (T.andM (fun _ h => T.eq (y := decide ((0 : Int) = g.more.length)) ?_ h) (T.some rfl)))))
  · rw [h2]
    show slices_EqualFunc_Lapi_Value_Lapi_Value_api_Value_api_Value_F (slices_EqualFunc_Lapi_Value_Lapi_Value_api_Value_api_Value n) (value_Same n) _ _ = _
    unfold slices_EqualFunc_Lapi_Value_Lapi_Value_api_Value_api_Value_F
    exact nil_same _ fun L => rfl
  · rw [h3]
    unfold slices_EqualFunc_Lapi_Raw_Lapi_Raw_api_Raw_api_Raw
    exact nil_same _ fun L => rfl
def tfind (b : GTab) (s : Str) : Int := if fnd b.names s < 0 then -1 else (b.roots[(fnd b.names s).toNat]?).getD 0
theorem index_eq (l : List Str) (s : Str) (hl : l.length ≤ 1000000) : slices_Index_Lstring_string l s = some (fnd l s) := by
  refine T.eqs ?_
  unfold slices_Index_Lstring_string
  refine T.lp (fun (k : Int) => 0 ≤ k ∧ k ≤ (l.length : Int) ∧ fnd l s = fndFrom (l.drop k.toNat) s k) (fun (k : Int) => ((l.length : Int) - k).toNat) ⟨Int.le_refl _, by omega, rfl⟩ (by omega) fun L k ⟨h1, h2, h3⟩ hL => ?_
  refine T.br (fun hb => ?_) fun hb => T.some ?_
  · have hb := of_decide_eq_true hb
    refine T.get h1 hb fun y hy => ?_
    have hd : l.drop k.toNat = y :: l.drop (k.toNat + 1) := by
      rw [List.drop_eq_getElem_cons (by omega)]
      rw [List.getElem?_eq_getElem (by omega)] at hy
      rw [Option.some.inj hy]
    rw [hd] at h3
    unfold fndFrom at h3
    refine T.br (fun he => T.some ?_) fun he => T.ck (by omega) (hL _ ⟨by omega, by omega, ?_⟩ (by omega))
    · rw [h3, if_pos (of_decide_eq_true he).symm]
    · have e : (k + 1).toNat = k.toNat + 1 := by omega
      rw [h3, if_neg (fun h => of_decide_eq_false he h.symm), e]
  · have hb := of_decide_eq_false hb
    rw [List.drop_eq_nil_of_le (by omega)] at h3
    exact h3.symm
theorem tfind_eq {b : GTab} (s : Str) (hb : TabOk b) : table_Find b s = some (tfind b s) := by
  refine T.eqs ?_
  unfold table_Find
  have hr := hb.roots
  refine T.eq (index_eq b.names s (by have := hb.names; omega)) (T.or (T.br (fun h => T.some ?_) fun h => ?_))
  · unfold tfind
    rcases fnd_spec b.names s with h1 | h1
    · rw [if_pos (by omega)]
    · rw [Bool.or_eq_true] at h
      rcases h with h | h
      · rw [if_pos (of_decide_eq_true h)]
      · have := of_decide_eq_true h
        omega
  · rw [Bool.or_eq_false_iff] at h
    have h1 := of_decide_eq_false h.1
    have h2 := of_decide_eq_false h.2
    unfold tfind
    rw [if_neg h1]
    refine T.get (by omega) (by omega) fun y hy => T.some ?_
    rw [hy]; rfl
theorem rfind_eq {b : GTab} (s : Str) (hb : TabOk b) : r10_Find b s = some (tfind b s) := by
  refine T.eqs ?_
  unfold r10_Find
  have hr := hb.roots
  have hn := hb.names
  refine T.lp (fun (k : Int) => 0 ≤ k ∧ k ≤ (b.names.length : Int) ∧ fnd b.names s = fndFrom (b.names.drop k.toNat) s k) (fun (k : Int) => ((b.names.length : Int) - k).toNat) ⟨Int.le_refl _, by omega, rfl⟩ (by omega) fun L k ⟨h1, h2, h3⟩ hL => ?_
  refine T.and (T.br (fun hb => ?_) fun hb => T.some ?_)
  · rw [Bool.and_eq_true] at hb
    have hb := of_decide_eq_true hb.1
    refine T.get h1 hb fun y hy => ?_
    have hd : b.names.drop k.toNat = y :: b.names.drop (k.toNat + 1) := by
      rw [List.drop_eq_getElem_cons (by omega)]
      rw [List.getElem?_eq_getElem (by omega)] at hy
      rw [Option.some.inj hy]
    rw [hd] at h3
    unfold fndFrom at h3
    refine T.br (fun he => T.get h1 (by omega) fun z hz => T.some ?_) fun he => T.ck (by omega) (hL _ ⟨by omega, by omega, ?_⟩ (by omega))
    · rw [if_pos (of_decide_eq_true he)] at h3
      unfold tfind
      rw [h3, if_neg (by omega), hz]; rfl
    · have e : (k + 1).toNat = k.toNat + 1 := by omega
      rw [h3, if_neg (of_decide_eq_false he), e]
  · have hk : ¬ k < (b.names.length : Int) := by
      rw [Bool.and_eq_false_iff] at hb
      rcases hb with hb | hb
      · exact of_decide_eq_false hb
      · have := of_decide_eq_false hb
        omega
    rw [List.drop_eq_nil_of_le (by omega)] at h3
    unfold tfind
    rw [if_pos (by rw [h3]; exact (by decide : (-1 : Int) < 0))]
end Go.Proofs.YtajbipkppngccaaDoor


namespace Go.Proofs.YtajbipkppngccaaDoor
open Go.Sy
set_option linter.unusedVariables false

def at_ {α : Type} (l : List α) (i : Int) : Option α := if 0 ≤ i then l[i.toNat]? else none
theorem at_nat {α : Type} (l : List α) (i : Nat) : at_ l (i : Int) = l[i]? := by unfold at_; rw [if_pos (by omega), Int.toNat_natCast]
theorem at_some {α : Type} {l : List α} {i : Int} {x : α} (h : at_ l i = some x) : 0 ≤ i ∧ i < l.length ∧ l[i.toNat]? = some x := by
  unfold at_ at h
  split at h
  · have := (List.getElem?_eq_some_iff.1 h).1
    exact ⟨by assumption, by omega, h⟩
  · cases h
theorem at_none {α : Type} {l : List α} {i : Int} (h : at_ l i = none) : i < 0 ∨ (l.length : Int) ≤ i := by
  unfold at_ at h
  split at h
  · have := List.getElem?_eq_none_iff.1 h
    omega
  · omega
def hdr (x y : GTyp) : Bool := decide (x.kind = y.kind) && decide (x.tags = y.tags) && decide (x.con = y.con) && decide (x.more = y.more)
def itm (x y : GTyp) : Bool := decide (x.root = y.root) && decide ((x.items.length : Int) ≤ y.items.length) && decide (y.items.take x.items.length = x.items) && (x.more || decide ((y.items.length : Int) = x.items.length))
def fdr (R : Int → Int → Bool) (f g : GFld) : Bool := decide (f.name = g.name) && decide (f.optional = g.optional) && decide (f.has = g.has) && vsm f.dflt g.dflt && decide (f.group = g.group) && R f.ty g.ty
def tlx (x y : GTyp) : Bool := decide ((y.fields.length : Int) = x.fields.length) || decide ((x.fields.length : Int) = 0) || (match at_ y.fields x.fields.length with
  | none => true
  | some g => decide (g.group = 0) || (match at_ x.fields (x.fields.length - 1) with
    | none => true
    | some f => !decide (g.group = f.group)))
def fld0 (x y : GTyp) : Bool := decide (x.root = y.root) && decide ((x.fields.length : Int) ≤ y.fields.length) && (x.more || decide ((y.fields.length : Int) = x.fields.length))
def flds (R : Int → Int → Bool) (x y : GTyp) : Bool := fld0 x y && ((x.fields.zip y.fields).all fun p => fdr R p.1 p.2) && tlx x y
def body (R : Int → Int → Bool) (x y : GTyp) : Bool := if x.kind = 10 then R x.of y.of else if x.kind = 3 then itm x y else if x.kind = 7 ∨ x.kind = 8 ∨ x.kind = 9 then flds R x y else true
def ext : Nat → List GTyp → List GTyp → Int → Int → Bool
  | 0, _, _, _, _ => false
  | h + 1, a, b, i, k => match at_ a i, at_ b k with
    | some x, some y => hdr x y && body (ext h a b) x y
    | _, _ => false
theorem items21 (x y : GTyp) (hx : TypOk x) : extend_items x y = some (itm x y) := by
  refine T.eqs ?_
  unfold extend_items itm
  have hl := hx.ilen
  refine T.and (T.andM (fun hc h => ?_) (T.andM (fun _ h => T.or h) (T.some rfl)))
  rw [Bool.and_eq_true] at hc
  have hc2 := of_decide_eq_true hc.2
  refine T.asd ⟨Int.le_refl _, by omega, hc2⟩ (T.eq (equal_item _ _ (by simp only [Int.toNat_natCast, Int.toNat_zero, List.drop_zero, List.length_take]; omega)) ?_)
  simpa only [Int.toNat_natCast, Int.toNat_zero, List.drop_zero] using h
theorem zip_take {α β : Type} {l : List α} {r : List β} {k : Nat} {x : α} {y : β} (hx : l[k]? = some x) (hy : r[k]? = some y) : (l.zip r).take (k + 1) = (l.zip r).take k ++ [(x, y)] := by
  rw [List.take_add_one]
  have : (l.zip r)[k]? = some (x, y) := List.getElem?_zip_eq_some.2 ⟨hx, hy⟩
  rw [this]; rfl
theorem kindB {x : Int} {β : Type} {R : β → Prop} {K : Bool → Option β} (h : T R (K (decide (x = 7 ∨ x = 8 ∨ x = 9)))) : T R (Sy.jp (fun J => Sy.br (decide (x = 7)) (J (decide (x = 7))) (Sy.br (decide (x = 8)) (J (decide (x = 8))) (J (decide (x = 9))))) K) := by
  refine T.jp (fun b => b = decide (x = 7 ∨ x = 8 ∨ x = 9)) (fun J kk => T.br (fun h1 => kk _ ?_) fun h1 => T.br (fun h2 => kk _ ?_) fun h2 => kk _ ?_) fun b hb => by rw [hb]; exact h
  · rw [h1]; exact (decide_eq_true (.inl (of_decide_eq_true h1))).symm
  · rw [h2]; exact (decide_eq_true (.inr (.inl (of_decide_eq_true h2)))).symm
  · have h1 := of_decide_eq_false h1
    have h2 := of_decide_eq_false h2
    rw [decide_eq_decide]; omega
end Go.Proofs.YtajbipkppngccaaDoor


namespace Go.Proofs.YtajbipkppngccaaDoor
open Go.Sy
set_option linter.unusedVariables false

theorem ext_none {h : Nat} {a b : List GTyp} {i k : Int} (hk : at_ b k = none) : ext h a b i k = false := by
  cases h with
  | zero => rfl
  | succ h =>
    unfold ext
    rw [hk]
    cases at_ a i <;> rfl
theorem ext_some {h : Nat} {a b : List GTyp} {i : Nat} {k : Int} {x y : GTyp} (hx : a[i]? = some x) (hy : at_ b k = some y) : ext (h + 1) a b (i : Int) k = (hdr x y && body (ext h a b) x y) := by
  conv => lhs; unfold ext
  rw [at_nat, hx, hy]
theorem kid_of {h : Nat} {l : List GTyp} {x : GTyp} {i j : Nat} (hk : Kids (SubT h l) (kidsT x) i j) (h10 : x.kind = 10) : ∃ c d : Nat, x.of = (c : Int) ∧ SubT h l c d ∧ i ≤ c ∧ d ≤ j :=
  Kids.mem3 SubT.le' hk (by unfold kidsT; rw [if_pos h10]; simp)
theorem kid_f {h : Nat} {l : List GTyp} {x : GTyp} {i j : Nat} (hk : Kids (SubT h l) (kidsT x) i j) {f : GFld} (hf : f ∈ x.fields) : ∃ c d : Nat, f.ty = (c : Int) ∧ SubT h l c d ∧ i ≤ c ∧ d ≤ j :=
  Kids.mem3 SubT.le' hk (kidsT_f f hf)
theorem kids_fl {h : Nat} {l : List GTyp} {x : GTyp} {i j : Nat} (hk : Kids (SubT h l) (kidsT x) i j) (hj : j ≤ l.length) (hl : l.length ≤ 1000) : x.fields.length ≤ 1000 := by
  have := kids_len hk
  unfold kidsT at this
  rw [List.length_append, List.length_map] at this
  omega
def WS (a b : GTab) (l c : Int) (r : Bool) (p : Bool × GXwk) : Prop := p.1 = r ∧ p.2.sides = ⟨a, b⟩ ∧ l - c ≤ p.2.left ∧ p.2.left ≤ l
theorem wfield {a b : GTab} {F E G} {R : Int → Int → Bool} {w : GXwk} {f g : GFld} {c : Int} (hs : w.sides = ⟨a, b⟩) (hd : DOk f.dflt) (h0 : 0 ≤ c) (hE : T (WS a b w.left c (R f.ty g.ty)) (E w f.ty g.ty)) :
    T (WS a b w.left c (fdr R f g)) (extend_walker_field_F F E G w f g) := by
  unfold extend_walker_field_F fdr
  refine T.and (T.and (T.andM (fun _ h => T.eq (vsame_eq _ _ hd (by unfold fuel; omega)) h) (T.and (T.jp (ι := Bool × GXwk) (WS a b w.left c (fdr R f g)) (fun J kk => T.br (fun hb => T.cal hE fun r _ hr => kk _ ⟨?_, hr.2⟩) fun hb => kk _ ⟨?_, hs, by dsimp only; omega, Int.le_refl _⟩) fun p hp => T.some hp))))
  · unfold fdr; rw [hb, hr.1]; rfl
  · unfold fdr; rw [hb]; rfl
theorem wtail {x y : GTyp} {β : Type} {R : β → Prop} {o : Bool → Option β} (hx : x.fields.length ≤ 1000) (hle : (x.fields.length : Int) ≤ y.fields.length) (h : T R (o (tlx x y))) :
    T R (Sy.jp (ι := Bool) (fun J32 => br (decide ((x.fields.length : Int) = (0 : Int))) (J32 (true)) (J32 ((decide ((y.fields.length : Int) = (x.fields.length : Int)))))) (fun q31 => br q31 (o true) (cal (getI y.fields (x.fields.length : Int)) fun y34 => jp (ι := Bool) (fun J36 => br (decide (y34.group = (0 : Int))) (J36 (true)) (ck (((x.fields.length : Int) - (1 : Int))) <| cal (getI x.fields ((x.fields.length : Int) - (1 : Int))) fun y39 => J36 ((!decide (y34.group = y39.group))))) o))) := by
  unfold tlx at h
  rw [Bool.or_comm (decide ((y.fields.length : Int) = x.fields.length))] at h
  refine T.or (T.br (fun hb => ?_) fun hb => ?_)
  · rw [hb, Bool.true_or] at h
    exact h
  · rw [hb, Bool.false_or] at h
    rw [Bool.or_eq_false_iff] at hb
    have h1 := of_decide_eq_false hb.1
    have h2 := of_decide_eq_false hb.2
    refine T.get (by omega) (by omega) fun g hg => ?_
    have hg2 : at_ y.fields (x.fields.length : Int) = some g := by rw [at_nat]; rw [Int.toNat_natCast] at hg; exact hg
    rw [hg2] at h
    dsimp only at h
    refine T.orM (fun _ h => T.ck (by omega) (T.get (by omega) (by omega) fun f hf => ?_)) h
    have hf2 : at_ x.fields ((x.fields.length : Int) - 1) = some f := by unfold at_; rw [if_pos (by omega)]; exact hf
    rw [hf2] at h
    exact h
theorem Kids.one {S : Nat → Nat → Prop} : ∀ {r : List Int} {a b c : Nat}, Kids S r a b → Kids S r a c → (∀ i j k, S i j → S i k → j = k) → b = c := by
  intro r
  induction r with
  | nil => intro a b c h1 h2 _; exact h1.symm.trans h2
  | cons x r ih =>
    intro a b c ⟨p, _, h1, h2⟩ ⟨q, _, h3, h4⟩ hS
    have := hS _ _ _ h1 h3
    subst this
    exact ih h2 h4 hS
theorem wfields {a b : GTab} {F E G} {R : Int → Int → Bool} {h i j : Nat} {w : GXwk} {x y : GTyp} (hs : w.sides = ⟨a, b⟩) (hk : Kids (SubT h a.types) (x.fields.map fun f => f.ty) i j) (hxl : x.fields.length ≤ 1000) (hd : ∀ f ∈ x.fields, DOk f.dflt) (hw : (j : Int) - i ≤ w.left)
    (hE : ∀ (w : GXwk) (f g : GFld) (c d : Nat), w.sides = ⟨a, b⟩ → f ∈ x.fields → f.ty = (c : Int) → SubT h a.types c d → (d : Int) - c ≤ w.left → w.left ≤ 300 → T (WS a b w.left ((d : Int) - c) (fdr R f g)) (F w f g)) (hw3 : w.left ≤ 300) :
    T (WS a b w.left ((j : Int) - i) (flds R x y)) (extend_walker_fields_F F E G w x y) := by
  unfold extend_walker_fields_F
  have hij := Kids.le SubT.le' hk
  refine T.or (T.orM (d := !x.more && decide ((x.fields.length : Int) < y.fields.length)) (fun _ h => T.and h) ?_)
  have h0 : fld0 x y = !(!decide (x.root = y.root) || decide ((y.fields.length : Int) < (x.fields.length : Int)) || !x.more && decide ((x.fields.length : Int) < (y.fields.length : Int))) := by
    unfold fld0
    rw [Bool.eq_iff_iff]
    simp only [Bool.and_eq_true, Bool.or_eq_true, Bool.not_eq_true', Bool.or_eq_false_iff, Bool.and_eq_false_iff, decide_eq_true_eq, decide_eq_false_iff_not, Bool.not_eq_false']
    constructor
    · rintro ⟨⟨h1, h2⟩, h3⟩
      refine ⟨⟨h1, by omega⟩, ?_⟩
      rcases h3 with h3 | h3
      · exact .inl h3
      · exact .inr (by omega)
    · rintro ⟨⟨h1, h2⟩, h3⟩
      refine ⟨⟨h1, by omega⟩, ?_⟩
      rcases h3 with h3 | h3
      · exact .inl h3
      · exact .inr (by omega)
  refine T.br (fun hb => T.some ⟨?_, hs, by dsimp only; omega, Int.le_refl _⟩) fun hb => ?_
  · unfold flds; rw [h0, hb]; rfl
  rw [hb] at h0
  have hle : (x.fields.length : Int) ≤ y.fields.length := by
    have h1 : fld0 x y = true := h0
    unfold fld0 at h1
    rw [Bool.and_eq_true, Bool.and_eq_true] at h1
    exact of_decide_eq_true h1.1.2
  have hzl : (x.fields.zip y.fields).length = x.fields.length := by rw [List.length_zip]; omega
  refine T.lp (ι := Int × GXwk) (fun q => 0 ≤ q.1 ∧ q.1 ≤ (x.fields.length : Int) ∧ ((x.fields.zip y.fields).take q.1.toNat).all (fun p => fdr R p.1 p.2) = true ∧ q.2.sides = ⟨a, b⟩ ∧ q.2.left ≤ w.left ∧ ∃ c : Nat, Kids (SubT h a.types) ((x.fields.map fun f => f.ty).drop q.1.toNat) c j ∧ w.left - ((c : Int) - i) ≤ q.2.left ∧ i ≤ c) (fun q => ((x.fields.length : Int) - q.1).toNat) ⟨Int.le_refl _, by dsimp only; omega, rfl, hs, Int.le_refl _, i, hk, by dsimp only; omega, Nat.le_refl _⟩ (by dsimp only; omega) fun L q ⟨q1, q2, q3, q4, q5, c, q6, q7, q8⟩ hL => ?_
  obtain ⟨q, v⟩ := q
  dsimp only at q1 q2 q3 q4 q5 q6 q7 hL ⊢
  refine T.br (fun hq => ?_) fun hq => ?_
  · have hq := of_decide_eq_true hq
    obtain ⟨f, hf⟩ : ∃ f, x.fields[q.toNat]? = some f := ⟨_, List.getElem?_eq_getElem (by omega)⟩
    obtain ⟨g, hg⟩ : ∃ g, y.fields[q.toNat]? = some g := ⟨_, List.getElem?_eq_getElem (by omega)⟩
    have hfm := List.mem_of_getElem? hf
    have hdr : (x.fields.map fun f => f.ty).drop q.toNat = f.ty :: (x.fields.map fun f => f.ty).drop (q.toNat + 1) := by
      rw [List.drop_eq_getElem_cons (by rw [List.length_map]; omega), List.getElem_map]
      rw [List.getElem?_eq_getElem (by omega)] at hf
      rw [Option.some.inj hf]
    rw [hdr] at q6
    obtain ⟨d, e0, e1, e2⟩ := q6
    have hcd := e1.lt
    have hdj := Kids.le SubT.le' e2
    refine T.get q1 hq fun f' hf' => T.get q1 (by omega) fun g' hg' => ?_
    rw [hf] at hf'; cases hf'
    rw [hg] at hg'; cases hg'
    refine T.cal (hE v f g c d q4 hfm e0 e1 (by omega) (by omega)) fun r _ ⟨r1, r2, r3, r4⟩ => T.br (fun hb2 => T.some ⟨?_, r2, by dsimp only; omega, by dsimp only; omega⟩) fun hb2 => T.ck (by omega) (hL _ ⟨by dsimp only; omega, by dsimp only; omega, ?_, r2, by dsimp only; omega, d, ?_, by dsimp only; omega, by omega⟩ (by dsimp only; omega))
    · have hf0 : fdr R f g = false := by rw [← r1]; simpa using hb2
      have : ((x.fields.zip y.fields).all fun p => fdr R p.1 p.2) = false := by
        rw [List.all_eq_false]
        exact ⟨(f, g), List.mem_of_getElem? (List.getElem?_zip_eq_some.2 ⟨hf, hg⟩), by simp only [hf0]; decide⟩
      unfold flds
      rw [this, Bool.and_false, Bool.false_and]
    · have e2 : (q + 1).toNat = q.toNat + 1 := by omega
      dsimp only
      rw [e2, zip_take hf hg, List.all_append, q3]
      show (fdr R f g && true) = true
      rw [← r1, Bool.and_true]; simpa using hb2
    · have e3 : (q + 1).toNat = q.toNat + 1 := by omega
      dsimp only
      rw [e3]; exact e2
  · have hq := of_decide_eq_false hq
    rw [List.take_of_length_le (by omega)] at q3
    have hcj := Kids.le SubT.le' q6
    refine wtail (o := fun u => some (u, v)) hxl hle (T.some ⟨?_, q4, by dsimp only; omega, q5⟩)
    unfold flds
    rw [h0, q3]; rfl
end Go.Proofs.YtajbipkppngccaaDoor


namespace Go.Proofs.YtajbipkppngccaaDoor
open Go.Sy
set_option linter.unusedVariables false

theorem sides_in {a b : GTab} {i k : Int} {x y : GTyp} (hx : at_ a.types i = some x) (hy : at_ b.types k = some y) : extend_sides_types ⟨a, b⟩ i k = some (x, y, true) := by
  obtain ⟨h1, h2, h3⟩ := at_some hx
  obtain ⟨k1, k2, k3⟩ := at_some hy
  refine T.eqs ?_
  unfold extend_sides_types
  refine T.or (T.or (T.or (T.br (fun hb => ?_) fun hb => ?_)))
  · dsimp only at hb
    rw [decide_eq_false (by omega), decide_eq_false (by omega), decide_eq_false (by omega), decide_eq_false (by omega)] at hb
    cases hb
  · dsimp only
    exact T.get h1 h2 fun x' hx' => T.get k1 k2 fun y' hy' => T.some (by rw [h3] at hx'; cases hx'; rw [k3] at hy'; cases hy'; rfl)
theorem sides_out {a b : GTab} {i k : Int} (hy : at_ b.types k = none) : T (fun r => r.2.2 = false) (extend_sides_types ⟨a, b⟩ i k) := by
  have h := at_none hy
  unfold extend_sides_types
  refine T.or (T.or (T.or (T.br (fun hb => T.some rfl) fun hb => ?_)))
  dsimp only at hb
  rw [Bool.or_eq_false_iff, Bool.or_eq_false_iff] at hb
  have k0 := of_decide_eq_false hb.1.2
  have k1 := of_decide_eq_false hb.2
  omega
theorem xtyp_step {a b : GTab} (hl : a.types.length ≤ 1000) {h : Nat} {Ff Ee Fs} {i j : Nat} {k : Int} {w : GXwk} (hs : SubT (h + 1) a.types i j) (hw : w.sides = ⟨a, b⟩) (hw0 : (j : Int) - i ≤ w.left) (hw3 : w.left ≤ 300)
    (hE : ∀ (w : GXwk) (c d : Nat) (k : Int), w.sides = ⟨a, b⟩ → SubT h a.types c d → (d : Int) - c ≤ w.left → w.left ≤ 300 → T (WS a b w.left ((d : Int) - c) (ext h a.types b.types (c : Int) k)) (Ee w (c : Int) k))
    (hF : ∀ (w : GXwk) (x y : GTyp) (p : Nat), w.sides = ⟨a, b⟩ → Kids (SubT h a.types) (x.fields.map fun f => f.ty) p j → x.fields.length ≤ 1000 → (∀ f ∈ x.fields, DOk f.dflt) → (j : Int) - p ≤ w.left → w.left ≤ 300 → T (WS a b w.left ((j : Int) - p) (flds (ext h a.types b.types) x y)) (Fs w x y)) :
    T (WS a b w.left ((j : Int) - i) (ext (h + 1) a.types b.types (i : Int) k)) (extend_walker_extends_F Ff Ee Fs w (i : Int) k) := by
  have hjl := hs.inb
  have hlt := hs.lt
  obtain ⟨x, hx, hok, hk⟩ := hs
  unfold extend_walker_extends_F
  rw [hw]
  have hno : ∀ w' : GXwk, w'.sides = ⟨a, b⟩ → w'.left = w.left - 1 → ext (h + 1) a.types b.types (i : Int) k = false → WS a b w.left ((j : Int) - i) (ext (h + 1) a.types b.types (i : Int) k) (false, w') := fun w' e1 e2 e3 => ⟨e3.symm, e1, by dsimp only; omega, by dsimp only; omega⟩
  have hyes : ∀ (r : Bool) (w' : GXwk), w'.sides = ⟨a, b⟩ → w'.left = w.left - 1 → ext (h + 1) a.types b.types (i : Int) k = r → WS a b w.left ((j : Int) - i) (ext (h + 1) a.types b.types (i : Int) k) (r, w') := fun r w' e1 e2 e3 => ⟨e3.symm, e1, by dsimp only; omega, by dsimp only; omega⟩
  cases hy : at_ b.types k with
  | none =>
    refine T.cal (sides_out hy) fun y1 _ h1 => T.ck (by omega) (T.or (T.or (T.orM (d := true) ?_ (T.or (T.or ?_)))))
    · intro hf
      rw [h1] at hf
      cases hf
    · refine T.br (fun _ => T.some (hno _ (by first | rfl | exact hw) rfl (ext_none hy))) fun hb => ?_
      rw [h1] at hb
      cases hb
  | some y =>
    have hxa : at_ a.types (i : Int) = some x := by rw [at_nat]; exact hx
    refine T.eq (sides_in hxa hy) (T.ck (by omega) (T.or (T.or (T.orM (d := !decide (x.tags = y.tags)) (fun _ h => T.eq (equal_tag _ _ (by have := hok.tlen; dsimp only; omega)) h) (T.or (T.or ?_))))))
    dsimp only
    have hh : hdr x y = !(!true || decide (w.left - 1 < 0) || !decide (x.kind = y.kind) || !decide (x.tags = y.tags) || !decide (x.con = y.con) || !decide (x.more = y.more)) := by
      rw [decide_eq_false (by omega : ¬ w.left - 1 < 0)]
      unfold hdr
      simp only [Bool.not_or, Bool.not_not, Bool.not_true, Bool.false_or]
    have hex := ext_some (h := h) hx hy
    refine T.br (fun hb => T.some (hno _ (by first | rfl | exact hw) rfl (by rw [hex, hh, hb]; rfl))) fun hb => ?_
    rw [hb] at hh
    rw [hh] at hex
    unfold body at hex
    rw [Bool.not_false, Bool.true_and] at hex
    refine T.br (fun h10 => ?_) fun h10 => ?_
    · have h10 := of_decide_eq_true h10
      obtain ⟨c, d, c1, c2, c3, c4⟩ := kid_of hk h10
      rw [if_pos h10, c1] at hex
      rw [c1]
      refine T.cal (hE (GXwk.mk ⟨a, b⟩ (w.left - 1)) c d y.of rfl c2 (by dsimp only; omega) (by dsimp only; omega)) fun r _ ⟨r1, r2, r3, r4⟩ => T.some ⟨by rw [hex]; exact r1, r2, by dsimp only at r3 ⊢; omega, by dsimp only at r4 ⊢; omega⟩
    rw [if_neg (of_decide_eq_false h10)] at hex
    refine T.br (fun h3 => ?_) fun h3 => ?_
    · rw [if_pos (of_decide_eq_true h3)] at hex
      exact T.eq (items21 x y hok) (T.some (hyes _ _ (by first | rfl | exact hw) rfl hex))
    rw [if_neg (of_decide_eq_false h3)] at hex
    refine kindB (T.br (fun hf => ?_) fun hf => ?_)
    · have hf := of_decide_eq_true hf
      rw [if_pos hf] at hex
      have hkf : Kids (SubT h a.types) (x.fields.map fun f => f.ty) (i + 1) j := by
        unfold kidsT at hk
        rw [if_neg (of_decide_eq_false h10), List.append_nil] at hk
        exact hk
      refine T.cal (hF (GXwk.mk ⟨a, b⟩ (w.left - 1)) x y (i + 1) rfl hkf (kids_fl hk hjl hl) hok.dflt (by dsimp only; omega) (by dsimp only; omega)) fun r _ ⟨r1, r2, r3, r4⟩ => T.some ⟨by rw [hex]; exact r1, r2, by dsimp only at r3 ⊢; omega, by dsimp only at r4 ⊢; omega⟩
    · rw [if_neg (of_decide_eq_false hf)] at hex
      exact T.some (hyes _ _ (by first | rfl | exact hw) rfl hex)
theorem wext {a b : GTab} (hl : a.types.length ≤ 1000) : ∀ {h n : Nat}, 3 * h ≤ n → ∀ (w : GXwk) (i j : Nat) (k : Int), w.sides = ⟨a, b⟩ → SubT h a.types i j → (j : Int) - i ≤ w.left → w.left ≤ 300 → T (WS a b w.left ((j : Int) - i) (ext h a.types b.types (i : Int) k)) (extend_walker_extends n w (i : Int) k) := by
  intro h
  induction h with
  | zero => intro n _ w i j k _ hs; exact hs.elim
  | succ h ih =>
    intro n hn w i j k hw hs hw0 hw3
    obtain ⟨n, rfl⟩ : ∃ n', n = n' + 3 := ⟨n - 3, by omega⟩
    refine xtyp_step (Ff := extend_walker_field (n + 2)) (Ee := extend_walker_extends (n + 2)) (Fs := extend_walker_fields (n + 2)) hl hs hw hw0 hw3 (fun w c d k h1 h2 h3 h4 => ih (by omega) w c d k h1 h2 h3 h4) fun w x y p h1 h2 h3 h4 h5 h6 => ?_
    refine wfields (F := extend_walker_field (n + 1)) (E := extend_walker_extends (n + 1)) (G := extend_walker_fields (n + 1)) h1 h2 h3 h4 h5 (fun w f g c d k1 k2 k3 k4 k5 k6 => ?_) h6
    refine wfield (F := extend_walker_field n) (E := extend_walker_extends n) (G := extend_walker_fields n) k1 (h4 f k2) (by have := k4.lt; omega) ?_
    rw [k3]
    exact ih (by omega) w c d _ k1 k4 k5 k6
theorem SubT.sub : ∀ {h : Nat} {l : List GTyp} {r : List Int} {a b : Nat}, Kids (SubT h l) r a b → ∀ i, a ≤ i → i < b → ∃ j, SubT h l i j := by
  intro h
  induction h with
  | zero =>
    intro l r a b hk i h1 h2
    cases r with
    | nil => cases hk; omega
    | cons k r => obtain ⟨c, _, h, _⟩ := hk; exact h.elim
  | succ h ih =>
    intro l r a b hk i h1 h2
    obtain ⟨k, c, d, _, _, k3, k4, k5⟩ := Kids.find hk h1 h2
    rcases Nat.eq_or_lt_of_le k4 with e | e
    · subst e; exact ⟨d, k3⟩
    · obtain ⟨t, _, _, h3⟩ := k3
      obtain ⟨j, hj⟩ := ih h3 i e k5
      exact ⟨j, hj.up⟩
theorem ext_out {h : Nat} {a b : List GTyp} {i k : Int} (hk : at_ a i = none) : ext h a b i k = false := by
  cases h with
  | zero => rfl
  | succ h => unfold ext; rw [hk]
theorem etype_eq {a b : GTab} (ha : TabOk a) (i k : Int) : extend_Type a i b k = some (ext 17 a.types b.types i k) := by
  have hl := ha.types
  refine T.eqs ?_
  unfold extend_Type
  cases hi : at_ a.types i with
  | some x =>
    obtain ⟨h1, h2, h3⟩ := at_some hi
    obtain ⟨j, hj⟩ := SubT.sub ha.kids i.toNat (by omega) (by omega)
    have e : ((i.toNat : Nat) : Int) = i := by omega
    rw [← e]
    have hjl := hj.inb
    exact T.cal (wext (b := b) (by omega) (n := fuel) (by unfold fuel; omega) (GXwk.mk (GXsd.mk a b) 300) i.toNat j k rfl hj (by dsimp only; omega) (by dsimp only; omega)) fun r _ hr => T.some hr.1
  | none =>
    have hb := at_none hi
    rw [ext_out hi]
    obtain ⟨n, hn⟩ : ∃ n, fuel = n + 1 := ⟨fuel - 1, by unfold fuel; omega⟩
    rw [hn]
    refine T.cal (Q := fun r => r.1 = false) ?_ fun r _ hr => T.some hr
    show T _ (extend_walker_extends_F (extend_walker_field n) (extend_walker_extends n) (extend_walker_fields n) _ i k)
    unfold extend_walker_extends_F
    refine T.cal (Q := fun r => r.2.2 = false) ?_ fun y1 _ h1 => T.ck (by dsimp only; omega) (T.or (T.or (T.orM (d := true) ?_ (T.or (T.or ?_)))))
    · unfold extend_sides_types
      refine T.or (T.or (T.or (T.br (fun hb => T.some rfl) fun hb2 => ?_)))
      dsimp only at hb2
      rw [Bool.or_eq_false_iff, Bool.or_eq_false_iff, Bool.or_eq_false_iff] at hb2
      have h1 := of_decide_eq_false hb2.1.1.1
      have h2 := of_decide_eq_false hb2.1.1.2
      omega
    · intro hf
      rw [h1] at hf
      cases hf
    · refine T.br (fun _ => T.some rfl) fun hb => ?_
      rw [h1] at hb
      cases hb
def bad (a b : GTab) (p : Int) : Bool := !ext 17 a.types b.types ((a.roots[p.toNat]?).getD 0) (tfind b ((a.names[p.toNat]?).getD (Str.mk [])))
def may (a b : GTab) : Int × Int := if a.name ≠ b.name then (0, 14) else match first (bad a b) a.names.length 0 with
  | some p => (p, 14)
  | none => (0, 0)
theorem first_step {P : Int → Bool} {n : Nat} {p : Int} (h : 0 < n) : first P n p = if P p = true then some p else first P (n - 1) (p + 1) := by
  obtain ⟨m, rfl⟩ : ∃ m, n = m + 1 := ⟨n - 1, by omega⟩
  rfl
theorem may_loop {a b : GTab} (ha : TabOk a) (hn : a.name = b.name) {F : (Int → Option (Int × Int)) → Int → Option (Int × Int)}
    (hF : ∀ (L : Int → Option (Int × Int)) (q : Int), 0 ≤ q → q ≤ a.names.length → ∀ R : Int × Int → Prop, (q < a.names.length → bad a b q = true → R (q, 14)) → (q < a.names.length → bad a b q = false → T R (L (q + 1))) → (¬ q < a.names.length → R (0, 0)) → T R (F L q)) :
    Sy.lp F (0 : Int) = some (may a b) := by
  have hnl := ha.names
  refine T.eqs ?_
  refine T.lp (fun (q : Int) => 0 ≤ q ∧ q ≤ (a.names.length : Int) ∧ first (bad a b) a.names.length 0 = first (bad a b) (a.names.length - q.toNat) q) (fun (q : Int) => ((a.names.length : Int) - q).toNat) ⟨Int.le_refl _, by omega, rfl⟩ (by omega) fun L q ⟨q1, q2, q3⟩ hL => ?_
  refine hF L q q1 q2 _ (fun h1 h2 => ?_) (fun h1 h2 => hL _ ⟨by omega, by omega, ?_⟩ (by omega)) fun h1 => ?_
  · unfold may
    rw [if_neg (by simpa using hn), q3, first_step (by omega), if_pos h2]
  · have e : a.names.length - q.toNat - 1 = a.names.length - (q + 1).toNat := by omega
    rw [q3, first_step (by omega), if_neg (by rw [h2]; decide), e]
  · unfold may
    have e : a.names.length - q.toNat = 0 := by omega
    rw [if_neg (by simpa using hn), q3, e]
    rfl
theorem may_eq {a b : GTab} (ha : TabOk a) (hb : TabOk b) : extend_May a b = some (may a b) := by
  refine T.eqs ?_
  unfold extend_May
  have hr := ha.roots
  have hnl := ha.names
  refine T.br (fun hn => T.some ?_) fun hn => T.of (may_loop ha (by simpa using hn) fun L q q1 q2 R h1 h2 h3 => T.br (fun hc => ?_) fun hc => T.some (h3 (of_decide_eq_false hc))) rfl
  · unfold may
    rw [if_pos (by simpa using hn)]
  · have hc := of_decide_eq_true hc
    refine T.get q1 hc fun na hna => T.orM (d := bad a b q) (fun _ h => T.get q1 (by omega) fun ro hro => T.eq (tfind_eq na hb) (T.eq (etype_eq ha _ _) ?_)) ?_
    · have e : bad a b q = !ext 17 a.types b.types ro (tfind b na) := by unfold bad; rw [hro, hna]; rfl
      rw [← e]
      exact h
    · rw [decide_eq_false (by omega : ¬ (a.roots.length : Int) ≤ q), Bool.false_or]
      exact T.br (fun hx => T.some (h1 hc hx)) fun hx => T.ck (by omega) (h2 hc hx)
end Go.Proofs.YtajbipkppngccaaDoor


namespace Go.Proofs.YtajbipkppngccaaDoor
open Go.Sy
set_option linter.unusedVariables false

theorem vsm_refl {f : Val} (h : DOk f) : vsm f f = true := by
  unfold vsm
  rw [h.2.1, h.2.2]
  simp
theorem vsm_trans {f g k : Val} (h1 : vsm f g = true) (h2 : vsm g k = true) : vsm f k = true := by
  unfold vsm at h1 h2 ⊢
  simp only [Bool.and_eq_true, decide_eq_true_eq] at h1 h2 ⊢
  obtain ⟨⟨⟨⟨⟨a1, a2⟩, a3⟩, a4⟩, a5⟩, a6⟩ := h1
  obtain ⟨⟨⟨⟨⟨b1, b2⟩, b3⟩, b4⟩, b5⟩, b6⟩ := h2
  exact ⟨⟨⟨⟨⟨a1.trans b1, a2.trans b2⟩, a3.trans b3⟩, b4⟩, a5.trans b5⟩, b6⟩
theorem hdr_iff {x y : GTyp} : hdr x y = true ↔ x.kind = y.kind ∧ x.tags = y.tags ∧ x.con = y.con ∧ x.more = y.more := by
  unfold hdr
  simp only [Bool.and_eq_true, decide_eq_true_eq, and_assoc]
theorem itm_iff {x y : GTyp} : itm x y = true ↔ x.root = y.root ∧ x.items.length ≤ y.items.length ∧ y.items.take x.items.length = x.items ∧ (x.more = true ∨ y.items.length = x.items.length) := by
  unfold itm
  simp only [Bool.and_eq_true, Bool.or_eq_true, decide_eq_true_eq, and_assoc, Int.ofNat_le, Int.ofNat_inj]
theorem fdr_iff {R : Int → Int → Bool} {f g : GFld} : fdr R f g = true ↔ f.name = g.name ∧ f.optional = g.optional ∧ f.has = g.has ∧ vsm f.dflt g.dflt = true ∧ f.group = g.group ∧ R f.ty g.ty = true := by
  unfold fdr
  simp only [Bool.and_eq_true, decide_eq_true_eq, and_assoc]
theorem fld0_iff {x y : GTyp} : fld0 x y = true ↔ x.root = y.root ∧ x.fields.length ≤ y.fields.length ∧ (x.more = true ∨ y.fields.length = x.fields.length) := by
  unfold fld0
  simp only [Bool.and_eq_true, Bool.or_eq_true, decide_eq_true_eq, and_assoc, Int.ofNat_le, Int.ofNat_inj]
theorem zip_all {R : Int → Int → Bool} {l r : List GFld} (hle : l.length ≤ r.length) : ((l.zip r).all fun p => fdr R p.1 p.2) = true ↔ ∀ (q : Nat) (f g : GFld), l[q]? = some f → r[q]? = some g → fdr R f g = true := by
  rw [List.all_eq_true]
  constructor
  · intro h q f g hf hg
    exact h (f, g) (List.mem_of_getElem? (List.getElem?_zip_eq_some.2 ⟨hf, hg⟩))
  · intro h p hp
    obtain ⟨q, hq⟩ := List.mem_iff_getElem?.1 hp
    have := List.getElem?_zip_eq_some.1 hq
    exact h q p.1 p.2 this.1 this.2
theorem flds_iff {R : Int → Int → Bool} {x y : GTyp} : flds R x y = true ↔ (x.root = y.root ∧ x.fields.length ≤ y.fields.length ∧ (x.more = true ∨ y.fields.length = x.fields.length)) ∧ (∀ (q : Nat) (f g : GFld), x.fields[q]? = some f → y.fields[q]? = some g → fdr R f g = true) ∧ tlx x y = true := by
  unfold flds
  rw [Bool.and_eq_true, Bool.and_eq_true, fld0_iff, and_assoc]
  constructor
  · rintro ⟨h1, h2, h3⟩
    exact ⟨h1, (zip_all h1.2.1).1 h2, h3⟩
  · rintro ⟨h1, h2, h3⟩
    exact ⟨h1, (zip_all h1.2.1).2 h2, h3⟩
theorem tlx_iff {x y : GTyp} : tlx x y = true ↔ y.fields.length = x.fields.length ∨ x.fields.length = 0 ∨ ∀ g, y.fields[x.fields.length]? = some g → g.group = 0 ∨ ∀ f, x.fields[x.fields.length - 1]? = some f → g.group ≠ f.group := by
  unfold tlx
  rw [Bool.or_eq_true, Bool.or_eq_true, decide_eq_true_eq, decide_eq_true_eq, or_assoc, at_nat]
  refine or_congr (by omega) ?_
  by_cases h0 : x.fields.length = 0
  · constructor
    · intro _; exact .inl h0
    · intro _; exact .inl (by omega)
  have e : ((x.fields.length : Int) - 1) = ((x.fields.length - 1 : Nat) : Int) := by omega
  rw [e, at_nat]
  refine or_congr (by omega) ?_
  cases hy : y.fields[x.fields.length]? with
  | none => simp
  | some g =>
    dsimp only
    rw [Bool.or_eq_true, decide_eq_true_eq]
    constructor
    · intro h g' hg'
      cases hg'
      refine h.imp id fun h2 f hf => ?_
      rw [hf] at h2
      simpa using h2
    · intro h
      refine (h g rfl).imp id fun h2 => ?_
      cases hx : x.fields[x.fields.length - 1]? with
      | none => rfl
      | some f => simpa using h2 f hx
theorem ext_at {h : Nat} {a b : List GTyp} {i k : Int} (he : ext (h + 1) a b i k = true) : ∃ x y, at_ a i = some x ∧ at_ b k = some y ∧ hdr x y = true ∧ body (ext h a b) x y = true := by
  unfold ext at he
  cases hx : at_ a i with
  | none => rw [hx] at he; cases he
  | some x =>
    cases hy : at_ b k with
    | none => rw [hx, hy] at he; cases he
    | some y =>
      rw [hx, hy] at he
      dsimp only at he
      rw [Bool.and_eq_true] at he
      exact ⟨x, y, rfl, rfl, he.1, he.2⟩
theorem ext_mk {h : Nat} {a b : List GTyp} {i k : Int} {x y : GTyp} (hx : at_ a i = some x) (hy : at_ b k = some y) (h1 : hdr x y = true) (h2 : body (ext h a b) x y = true) : ext (h + 1) a b i k = true := by
  unfold ext
  rw [hx, hy]
  dsimp only
  rw [h1, h2]; rfl
theorem ext_refl : ∀ {h : Nat} {a : List GTyp} {i j : Nat}, SubT h a i j → ext h a a (i : Int) (i : Int) = true := by
  intro h
  induction h with
  | zero => intro a i j hs; exact hs.elim
  | succ h ih =>
    intro a i j ⟨x, hx, hok, hk⟩
    have hxa : at_ a (i : Int) = some x := by rw [at_nat]; exact hx
    refine ext_mk hxa hxa (hdr_iff.2 ⟨rfl, rfl, rfl, rfl⟩) ?_
    unfold body
    split
    · rename_i h10
      obtain ⟨c, d, c1, c2, _⟩ := kid_of hk h10
      rw [c1]; exact ih c2
    split
    · exact itm_iff.2 ⟨rfl, Nat.le_refl _, List.take_length, .inr rfl⟩
    split
    · refine flds_iff.2 ⟨⟨rfl, Nat.le_refl _, .inr rfl⟩, fun q f g hf hg => ?_, tlx_iff.2 (.inl rfl)⟩
      rw [hf] at hg; cases hg
      have hfm := List.mem_of_getElem? hf
      obtain ⟨c, d, c1, c2, _⟩ := kid_f hk hfm
      exact fdr_iff.2 ⟨rfl, rfl, rfl, vsm_refl (hok.dflt f hfm), rfl, by rw [c1]; exact ih c2⟩
    · rfl
theorem ext_trans : ∀ {h : Nat} {a b c : List GTyp} {i k l : Int}, ext h a b i k = true → ext h b c k l = true → ext h a c i l = true := by
  intro h
  induction h with
  | zero => intro a b c i k l h1; cases h1
  | succ h ih =>
    intro a b c i k l h1 h2
    obtain ⟨x, y, hx, hy, d1, b1⟩ := ext_at h1
    obtain ⟨y', z, hy', hz, d2, b2⟩ := ext_at h2
    rw [hy] at hy'; cases hy'
    obtain ⟨e1, e2, e3, e4⟩ := hdr_iff.1 d1
    obtain ⟨f1, f2, f3, f4⟩ := hdr_iff.1 d2
    refine ext_mk hx hz (hdr_iff.2 ⟨e1.trans f1, e2.trans f2, e3.trans f3, e4.trans f4⟩) ?_
    unfold body at b1 b2 ⊢
    rw [← e1] at b2
    split
    · rename_i h10
      rw [if_pos h10] at b1 b2
      exact ih b1 b2
    rename_i h10
    rw [if_neg h10] at b1 b2
    split
    · rename_i h3
      rw [if_pos h3] at b1 b2
      obtain ⟨p1, p2, p3, p4⟩ := itm_iff.1 b1
      obtain ⟨q1, q2, q3, q4⟩ := itm_iff.1 b2
      refine itm_iff.2 ⟨p1.trans q1, Nat.le_trans p2 q2, ?_, ?_⟩
      · have e : z.items.take x.items.length = (z.items.take y.items.length).take x.items.length := by rw [List.take_take, Nat.min_eq_left p2]
        rw [e, q3, p3]
      · rcases p4 with p4 | p4
        · exact .inl p4
        · rcases q4 with q4 | q4
          · exact .inl (e4.trans q4)
          · exact .inr (q4.trans p4)
    rename_i h3
    rw [if_neg h3] at b1 b2
    split
    · rename_i h7
      rw [if_pos h7] at b1 b2
      obtain ⟨⟨p1, p2, p3⟩, p4, p5⟩ := flds_iff.1 b1
      obtain ⟨⟨q1, q2, q3⟩, q4, q5⟩ := flds_iff.1 b2
      refine flds_iff.2 ⟨⟨p1.trans q1, Nat.le_trans p2 q2, ?_⟩, fun q f g hf hg => ?_, tlx_iff.2 ?_⟩
      · rcases p3 with p3 | p3
        · exact .inl p3
        · rcases q3 with q3 | q3
          · exact .inl (e4.trans q3)
          · exact .inr (q3.trans p3)
      · have hq := (List.getElem?_eq_some_iff.1 hf).1
        obtain ⟨m, hm⟩ : ∃ m, y.fields[q]? = some m := ⟨_, List.getElem?_eq_getElem (by omega)⟩
        obtain ⟨r1, r2, r3, r4, r5, r6⟩ := fdr_iff.1 (p4 q f m hf hm)
        obtain ⟨s1, s2, s3, s4, s5, s6⟩ := fdr_iff.1 (q4 q m g hm hg)
        exact fdr_iff.2 ⟨r1.trans s1, r2.trans s2, r3.trans s3, vsm_trans r4 s4, r5.trans s5, ih r6 s6⟩
      · by_cases hxy : y.fields.length = x.fields.length
        · rcases tlx_iff.1 q5 with h | h | h
          · exact .inl (h.trans hxy)
          · exact .inr (.inl (by omega))
          · refine .inr (.inr fun g hg => ?_)
            rw [hxy] at h
            refine (h g hg).imp id fun h2 f hf => ?_
            have hq := (List.getElem?_eq_some_iff.1 hf).1
            obtain ⟨m, hm⟩ : ∃ m, y.fields[x.fields.length - 1]? = some m := ⟨_, List.getElem?_eq_getElem (by omega)⟩
            rw [(fdr_iff.1 (p4 _ f m hf hm)).2.2.2.2.1]
            exact h2 m hm
        · rcases tlx_iff.1 p5 with h | h | h
          · exact absurd h hxy
          · exact .inr (.inl h)
          · refine .inr (.inr fun g hg => ?_)
            obtain ⟨m, hm⟩ : ∃ m, y.fields[x.fields.length]? = some m := ⟨_, List.getElem?_eq_getElem (by omega)⟩
            have e := (fdr_iff.1 (q4 _ m g hm hg)).2.2.2.2.1
            rw [← e]
            exact h m hm
    · rfl
theorem alike_tot {a b : GTab} (hb : TabOk b) (hla : a.types.length ≤ 1000) : ∀ {h n i j}, SubT h a.types i j → h ≤ n → ∀ k, ext h a.types b.types (i : Int) k = true → ext h b.types a.types k (i : Int) = true → law21_alike n a (i : Int) b k = some true := by
  intro h
  induction h with
  | zero => intro n i j hs; exact hs.elim
  | succ h ih =>
    intro n i j hs hn k h1 h2
    obtain ⟨n, rfl⟩ : ∃ n', n = n' + 1 := ⟨n - 1, by omega⟩
    have hjl := hs.inb
    obtain ⟨x, hx0, hok, hk⟩ := hs
    obtain ⟨x1, y, hx, hy, d1, b1⟩ := ext_at h1
    obtain ⟨y', x', hy', hx', d2, b2⟩ := ext_at h2
    rw [hy] at hy'; cases hy'
    rw [hx] at hx'; cases hx'
    rw [at_nat, hx0] at hx; cases hx
    have hy3 := at_some hy
    obtain ⟨jj, hjj⟩ := SubT.sub hb.kids k.toNat (by omega) (by omega)
    obtain ⟨y0, hy0, hoky, _⟩ := hjj
    rw [hy3.2.2] at hy0; cases hy0
    obtain ⟨e1, e2, e3, e4⟩ := hdr_iff.1 d1
    unfold body at b1 b2
    rw [← e1] at b2
    have hi := (List.getElem?_eq_some_iff.1 hx0).1
    have hbase : x.items = y.items ∧ x.root = y.root ∧ x.fields.length = y.fields.length := by
      by_cases h10 : x.kind = 10
      · rw [hok.items (by omega), hoky.items (by omega), hok.fields (by omega), hoky.fields (by omega), hok.rootZ (by omega) (by omega), hoky.rootZ (by omega) (by omega)]
        exact ⟨rfl, rfl, rfl⟩
      rw [if_neg h10] at b1 b2
      by_cases h3 : x.kind = 3
      · rw [if_pos h3] at b1 b2
        obtain ⟨p1, p2, p3, p4⟩ := itm_iff.1 b1
        obtain ⟨q1, q2, q3, q4⟩ := itm_iff.1 b2
        rw [hok.fields (by omega), hoky.fields (by omega)]
        refine ⟨?_, p1, rfl⟩
        rw [List.take_of_length_le q2] at p3
        exact p3.symm
      rw [if_neg h3] at b1 b2
      by_cases h7 : x.kind = 7 ∨ x.kind = 8 ∨ x.kind = 9
      · rw [if_pos h7] at b1 b2
        obtain ⟨⟨p1, p2, p3⟩, p4, p5⟩ := flds_iff.1 b1
        obtain ⟨⟨q1, q2, q3⟩, q4, q5⟩ := flds_iff.1 b2
        rw [hok.items (by omega), hoky.items (by omega)]
        exact ⟨rfl, p1, by omega⟩
      · rw [hok.items h3, hoky.items (by omega), hok.fields h7, hoky.fields (by omega), hok.rootZ h3 h7, hoky.rootZ (by omega) (by omega)]
        exact ⟨rfl, rfl, rfl⟩
    obtain ⟨g1, g2, g3⟩ := hbase
    refine T.eqs ?_
    show T _ (law21_alike_F (law21_alike n) a (i : Int) b k)
    unfold law21_alike_F
    refine T.jp (ι := GTyp × GTyp) (fun p => p = (x, y)) (fun J kk => T.get (by omega) (by omega) fun x' hx' => T.get hy3.1 hy3.2.1 fun y' hy' => kk _ ?_) fun p hp => ?_
    · rw [Int.toNat_natCast, hx0] at hx'; cases hx'
      rw [hy3.2.2] at hy'; cases hy'; rfl
    subst hp
    dsimp only
    refine T.orM (d := !decide (x.tags = y.tags)) (fun _ h => T.eq (plain_tag _ _ (by have := hok.tlen; omega)) h) (T.or (T.orM (d := !decide (x.items = y.items)) (fun _ h => T.eq (plain_item _ _ (by have := hok.ilen; omega)) h) (T.or (T.or (T.or ?_)))))
    rw [decide_eq_true e1, decide_eq_true e2, decide_eq_true e3, decide_eq_true g1, decide_eq_true g2, decide_eq_true e4, decide_eq_true (by omega : (x.fields.length : Int) = y.fields.length)]
    refine T.br (fun hc => by cases hc) fun _ => T.andM (d := false) (fun h10 h => ?_) ?_
    · have h10 := of_decide_eq_true h10
      rw [if_pos h10] at b1 b2
      obtain ⟨c, d, c1, c2, _⟩ := kid_of hk h10
      rw [c1] at b1 b2 ⊢
      exact T.eq (ih c2 (by omega) _ b1 b2) h
    rw [Bool.and_false]
    refine T.br (fun hc => by cases hc) fun _ => ?_
    have hfl := kids_fl hk hjl hla
    refine T.lp (fun (q : Int) => 0 ≤ q ∧ q ≤ (x.fields.length : Int)) (fun (q : Int) => ((x.fields.length : Int) - q).toNat) ⟨Int.le_refl _, by omega⟩ (by omega) fun L q ⟨q1, q2⟩ hL => T.br (fun hq => ?_) fun hq => T.some rfl
    have hq := of_decide_eq_true hq
    have h7 : x.kind = 7 ∨ x.kind = 8 ∨ x.kind = 9 := by
      refine Classical.byContradiction fun hc => ?_
      have := hok.fields hc
      rw [this] at hq
      simp at hq
      omega
    rw [if_neg (by omega), if_neg (by omega), if_pos h7] at b1 b2
    obtain ⟨_, p4, _⟩ := flds_iff.1 b1
    obtain ⟨_, q4, _⟩ := flds_iff.1 b2
    refine T.get q1 hq fun f hf => T.get q1 (by omega) fun g hg => ?_
    have r := fdr_iff.1 (p4 _ f g hf hg)
    have s := fdr_iff.1 (q4 _ g f hg hf)
    refine T.orM (d := false) (fun _ h => T.get q1 hq fun f' hf' => T.get q1 (by omega) fun g' hg' => ?_) ?_
    · rw [hf] at hf'; cases hf'
      rw [hg] at hg'; cases hg'
      obtain ⟨c, d, c1, c2, _⟩ := kid_f hk (List.mem_of_getElem? hf)
      have r6 := r.2.2.2.2.2
      have s6 := s.2.2.2.2.2
      rw [c1] at r6 s6 ⊢
      exact T.eq (ih c2 (by omega) _ r6 s6) h
    · rw [decide_eq_true r.1]
      exact T.br (fun hc => by cases hc) fun _ => T.ck (by omega) (hL _ ⟨by omega, by omega⟩ (by omega))
end Go.Proofs.YtajbipkppngccaaDoor


namespace Go.Proofs.YtajbipkppngccaaDoor
open Go.Sy
set_option linter.unusedVariables false

theorem awake_true : law21_awake = some true := by
  rw [law21_awakeF_eq]
  kernel_rfl
theorem may_ok {a b : GTab} : (may a b).2 = 0 ↔ a.name = b.name ∧ ∀ p : Nat, p < a.names.length → bad a b (p : Int) = false := by
  unfold may
  by_cases hn : a.name = b.name
  · rw [if_neg (by simpa using hn)]
    cases hf : first (bad a b) a.names.length 0 with
    | some p =>
      obtain ⟨h1, h2, h3⟩ := first_some hf
      refine ⟨fun h => (by cases h), fun ⟨_, h⟩ => ?_⟩
      have := h p.toNat (by omega)
      have e : ((p.toNat : Nat) : Int) = p := by omega
      rw [e, h3] at this
      cases this
    | none => exact ⟨fun _ => ⟨hn, fun p hp => first_none hf _ (by omega) (by omega)⟩, fun _ => rfl⟩
  · rw [if_pos (by simpa using hn)]
    exact ⟨fun h => (by cases h), fun ⟨h, _⟩ => absurd h hn⟩
theorem bad_eq {a b : GTab} {p : Nat} {r : Int} {s : Str} (hr : a.roots[p]? = some r) (hs : a.names[p]? = some s) : bad a b (p : Int) = !ext 17 a.types b.types r (tfind b s) := by
  unfold bad
  rw [Int.toNat_natCast, hr, hs]; rfl
theorem root_sub {a : GTab} (ha : TabOk a) {p : Nat} (hp : p < a.names.length) : ∃ (c d : Nat) (s : Str), a.roots[p]? = some (c : Int) ∧ a.names[p]? = some s ∧ SubT 17 a.types c d ∧ tfind a s = (c : Int) := by
  have hr := ha.roots
  obtain ⟨r, h1⟩ : ∃ r, a.roots[p]? = some r := ⟨_, List.getElem?_eq_getElem (by omega)⟩
  obtain ⟨s, h2⟩ : ∃ s, a.names[p]? = some s := ⟨_, List.getElem?_eq_getElem hp⟩
  obtain ⟨c, d, e1, e2, _⟩ := Kids.mem3 SubT.le' ha.kids (List.mem_of_getElem? h1)
  subst e1
  refine ⟨c, d, s, h1, h2, e2, ?_⟩
  unfold tfind
  have := ha.fnds p s h2
  rw [this, if_neg (by omega), Int.toNat_natCast, h1]
  rfl
theorem may_refl {a : GTab} (ha : TabOk a) : (may a a).2 = 0 := by
  refine may_ok.2 ⟨rfl, fun p hp => ?_⟩
  obtain ⟨c, d, s, h1, h2, h3, h4⟩ := root_sub ha hp
  rw [bad_eq h1 h2, h4, ext_refl h3]; rfl
theorem may_use {a b : GTab} (ha : TabOk a) (hb : TabOk b) (h : (may a b).2 = 0) {p : Nat} (hp : p < a.names.length) : ∃ (c d : Nat) (s : Str), a.roots[p]? = some (c : Int) ∧ a.names[p]? = some s ∧ SubT 17 a.types c d ∧ tfind a s = (c : Int) ∧ ext 17 a.types b.types (c : Int) (tfind b s) = true ∧ 0 ≤ tfind b s ∧ ∃ q : Nat, q < b.names.length ∧ b.names[q]? = some s := by
  obtain ⟨c, d, s, h1, h2, h3, h4⟩ := root_sub ha hp
  have hbd := (may_ok.1 h).2 p hp
  rw [bad_eq h1 h2] at hbd
  have hx : ext 17 a.types b.types (c : Int) (tfind b s) = true := by simpa using hbd
  obtain ⟨x, y, e1, e2, _⟩ := ext_at hx
  have h0 := (at_some e2).1
  refine ⟨c, d, s, h1, h2, h3, h4, hx, h0, ?_⟩
  rcases fnd_spec b.names s with h5 | h5
  · unfold tfind at h0
    rw [if_pos (by omega)] at h0
    omega
  · exact ⟨(fnd b.names s).toNat, by omega, h5.2.2.1⟩
theorem names_le {a b : GTab} (ha : TabOk a) (hb : TabOk b) (h : (may a b).2 = 0) : a.names.length ≤ b.names.length := by
  refine length_le_of_nodup (a := a.names) (b := b.names) ?_ fun s hs => ?_
  · rw [List.nodup_iff_pairwise_ne, List.pairwise_iff_getElem]
    intro i j hi hj hij he
    have h1 := ha.fnds i _ (List.getElem?_eq_getElem hi)
    have h2 := ha.fnds j _ (List.getElem?_eq_getElem hj)
    rw [he, h2] at h1
    omega
  · obtain ⟨p, hp⟩ := List.mem_iff_getElem?.1 hs
    obtain ⟨c, d, s', h1, h2, h3, h4, h5, h6, q, h7, h8⟩ := may_use ha hb h (List.getElem?_eq_some_iff.1 hp).1
    rw [hp] at h2; cases h2
    exact List.mem_of_getElem? h8
theorem may_trans {a b c : GTab} (ha : TabOk a) (hb : TabOk b) (hc : TabOk c) (h1 : (may a b).2 = 0) (h2 : (may b c).2 = 0) : (may a c).2 = 0 := by
  refine may_ok.2 ⟨(may_ok.1 h1).1.trans (may_ok.1 h2).1, fun p hp => ?_⟩
  obtain ⟨c1, d1, s, e1, e2, e3, e4, e5, e6, q, e7, e8⟩ := may_use ha hb h1 hp
  obtain ⟨c2, d2, s2, f1, f2, f3, f4, f5, _⟩ := may_use hb hc h2 e7
  rw [e8] at f2; cases f2
  rw [f4] at e5
  rw [bad_eq e1 e2, ext_trans e5 f5]; rfl
theorem order_true (s t u : Str) : law21_ExtendOrder s t u = some true := by
  refine T.eqs ?_
  unfold law21_ExtendOrder
  refine T.cal (table_tot s) fun a' _ ha => T.cal (table_tot t) fun b' _ hb => T.cal (table_tot u) fun c' _ hc => T.or (T.or (T.br (fun _ => T.eq awake_true (T.some rfl)) fun _ => ?_))
  obtain ⟨a, oa⟩ := a'
  obtain ⟨b, ob⟩ := b'
  obtain ⟨c, oc⟩ := c'
  dsimp only at ha hb hc ⊢
  refine T.eq (may_eq ha ha) (T.eq (may_eq ha hb) (T.eq (may_eq hb hc) (T.eq (may_eq ha hc) (T.eq (may_eq hb ha) (T.eq awake_true (T.or (T.orM (d := false) (fun _ h => T.and (T.and ?_)) ?_)))))))
  · have e : (decide ((may a b).2 = 0) && decide ((may b c).2 = 0) && !decide ((may a c).2 = 0)) = false := by
      by_cases h1 : (may a b).2 = 0
      · by_cases h2 : (may b c).2 = 0
        · rw [decide_eq_true (may_trans ha hb hc h1 h2)]; simp
        · rw [decide_eq_false h2]; simp
      · rw [decide_eq_false h1]; simp
    rw [e]
    exact h
  rw [decide_eq_true (may_refl ha)]
  refine T.br (fun h => by cases h) fun _ => T.or (T.br (fun _ => T.some rfl) fun he => ?_)
  have hab : (may a b).2 = 0 := by
    rw [Bool.or_eq_false_iff] at he
    simpa using he.1
  have hba : (may b a).2 = 0 := by
    rw [Bool.or_eq_false_iff] at he
    simpa using he.2
  have hnl := ha.names
  have hr := ha.roots
  have hl := ha.types
  have hle1 := names_le ha hb hab
  have hle2 := names_le hb ha hba
  refine T.lp (fun (q : Int) => 0 ≤ q ∧ q ≤ (a.names.length : Int)) (fun (q : Int) => ((a.names.length : Int) - q).toNat) ⟨Int.le_refl _, by omega⟩ (by omega) fun L q ⟨q1, q2⟩ hL => T.br (fun hq => ?_) fun hq => T.some (decide_eq_true (by omega))
  have hq := of_decide_eq_true hq
  obtain ⟨c1, d1, nm, e1, e2, e3, e4, e5, e6, p, e7, e8⟩ := may_use ha hb hab (p := q.toNat) (by omega)
  obtain ⟨c2, d2, nm2, f1, f2, f3, f4, f5, f6, _⟩ := may_use hb ha hba e7
  rw [e8] at f2; cases f2
  refine T.get q1 (by omega) fun r hr => T.get q1 hq fun n hn => T.eq (rfind_eq n hb) (T.orM (d := false) (fun _ h => ?_) ?_)
  · rw [e1] at hr; cases hr
    rw [e2] at hn; cases hn
    rw [e4] at f5
    rw [f4] at e5 ⊢
    exact T.eq (alike_tot hb (by omega) e3 (by unfold fuel; omega) _ e5 f5) h
  · rw [e2] at hn; cases hn
    rw [decide_eq_false (by omega)]
    exact T.br (fun h => by cases h) fun _ => T.ck (by omega) (hL _ ⟨by omega, by omega⟩ (by omega))
end Go.Proofs.YtajbipkppngccaaDoor

