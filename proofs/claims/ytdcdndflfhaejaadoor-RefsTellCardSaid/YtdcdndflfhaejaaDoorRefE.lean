/- Graphs: what is reached, by depth and by breadth. No condition: general lemmas. -/
import Derived.Test.YtdcdndflfhaejaaDoorRefD
namespace Go.Proofs.YtdcdndflfhaejaaDoor
open Go.Sy
set_option linter.unusedVariables false

abbrev Gr := List (List Int)
def Ed (U : Gr) (i j : Int) : Prop := 0 ≤ i ∧ ∃ l, U[i.toNat]? = some l ∧ j ∈ l
inductive Reach (U : Gr) : Int → Int → Prop
  | one {i j} : Ed U i j → Reach U i j
  | tail {i j k} : Reach U i j → Ed U j k → Reach U i k
structure GOk (U : Gr) : Prop where
  len : U.length ≤ 40
  ok : ∀ l ∈ U, l.length ≤ 40 ∧ ∀ j ∈ l, 0 ≤ j ∧ j < U.length
theorem GOk.ed {U i j} (g : GOk U) (h : Ed U i j) : 0 ≤ j ∧ j < U.length := by
  obtain ⟨_, l, h1, h2⟩ := h
  exact (g.ok l (List.mem_of_getElem? h1)).2 j h2
theorem Reach.trans {U i j k} (h1 : Reach U i j) (h2 : Reach U j k) : Reach U i k := by
  induction h2 with
  | one e => exact h1.tail e
  | tail _ e ih => exact ih.tail e

/-! ### By depth -/
def On (s : List Bool) (v : Int) : Prop := 0 ≤ v ∧ s[v.toNat]? = some true
/-- How many are not marked. -/
def cf : List Bool → Nat
  | [] => 0
  | b :: r => (if b then 0 else 1) + cf r
theorem cf_set : ∀ {s : List Bool} {k : Nat}, s[k]? = some false → cf (s.set k true) + 1 = cf s := by
  intro s
  induction s with
  | nil => intro k h; simp at h
  | cons b s ih =>
    intro k h
    cases k with
    | zero => simp only [List.getElem?_cons_zero] at h; cases h; simp [cf]; omega
    | succ k => simp only [List.getElem?_cons_succ] at h; have := ih h; simp only [List.set_cons_succ, cf]; omega
theorem cf_le : ∀ s : List Bool, cf s ≤ s.length := by
  intro s
  induction s with
  | nil => exact Nat.le_refl _
  | cons b s ih => simp only [cf, List.length_cons]; split <;> omega
theorem On.set {s : List Bool} {k v : Int} (h0 : 0 ≤ k) (hk : k < s.length) : On (s.set k.toNat true) v ↔ On s v ∨ v = k := by
  unfold On
  by_cases h : v = k
  · subst h
    rw [List.getElem?_set_self (by omega)]
    exact ⟨fun _ => .inr rfl, fun _ => ⟨h0, rfl⟩⟩
  · by_cases hv : 0 ≤ v
    · rw [List.getElem?_set_ne (by omega)]
      exact ⟨.inl, fun h1 => h1.elim (fun h => h) fun e => absurd e h⟩
    · exact ⟨fun h1 => absurd h1.1 hv, fun h1 => h1.elim (fun h2 => absurd h2.1 hv) fun e => absurd e h⟩
structure Dep (U : Gr) (i : Int) (s r : List Bool) : Prop where
  len : r.length = s.length
  mono : ∀ v, On s v → On r v
  new : ∀ v, On r v → On s v ∨ (Reach U i v ∧ ∀ j, Ed U v j → On r j)
  cf : cf r ≤ cf s
def DepS (U : Gr) (f : Gr → Int → List Bool → Option (List Bool)) (n : Nat) : Prop := ∀ (i : Int) s, 0 ≤ i → i < U.length → s.length = U.length → cf s < n → T (fun r => Dep U i s r ∧ ∀ j, Ed U i j → On r j) (f U i s)
theorem dep_step {U f n} (g : GOk U) (ih : DepS U f n) : DepS U (refs_reaches_F f) (n + 1) := by
  intro i s hi0 hi hs hcf
  unfold refs_reaches_F
  refine T.get hi0 hi fun l hl => ?_
  have hgl := g.len
  obtain ⟨hll, hlr⟩ := g.ok l (List.mem_of_getElem? hl)
  have hed : ∀ j, Ed U i j ↔ j ∈ l := fun j => ⟨fun ⟨_, l', h1, h2⟩ => by rw [hl] at h1; cases h1; exact h2, fun h => ⟨hi0, l, hl, h⟩⟩
  refine T.lp (fun (q : List Bool × Int) => 0 ≤ q.2 ∧ q.2 ≤ (l.length : Int) ∧ Dep U i s q.1 ∧ ∀ j ∈ l, j ∈ l.drop q.2.toNat ∨ On q.1 j) (fun (q : List Bool × Int) => ((l.length : Int) - q.2).toNat) ⟨Int.le_refl _, by dsimp only; omega, ⟨rfl, fun _ h => h, fun _ h => .inl h, Nat.le_refl _⟩, fun j hj => .inl hj⟩ (by dsimp only; omega) fun L q ⟨h1, h2, h3, h4⟩ hL => ?_
  obtain ⟨s1, k⟩ := q
  dsimp only at h1 h2 h3 h4 ⊢
  refine T.br (fun hb => ?_) fun hb => T.some ⟨h3, fun j hj => ?_⟩
  · have hb := of_decide_eq_true hb
    refine T.jp (fun s2 => Dep U i s s2 ∧ ∀ j ∈ l, j ∈ l.drop (k + 1).toNat ∨ On s2 j) (fun J kk => T.get h1 hb fun y hy => ?_) fun s2 ⟨hs2, hj2⟩ => T.ck (by omega) (hL _ ⟨by dsimp only; omega, by dsimp only; omega, hs2, hj2⟩ (by dsimp only; omega))
    have hyl := List.mem_of_getElem? hy
    obtain ⟨hy0, hy1⟩ := hlr y hyl
    have hlen := h3.len
    rw [drop_cons h1 hy] at h4
    refine T.asd (by omega) ?_
    have hget : ∃ b, s1[y.toNat]? = some b := ⟨_, List.getElem?_eq_getElem (by omega)⟩
    obtain ⟨b, hbq⟩ := hget
    refine T.eq hbq (T.br (fun hnb => T.asd (by omega) (T.eq hbq ?_)) fun hnb => kk _ ⟨h3, fun j hj => ?_⟩)
    · have hbf : b = false := by simpa using hnb
      subst hbf
      have hcs := cf_set hbq
      have hcf3 := h3.cf
      refine T.cal (ih y (s1.set y.toNat true) hy0 hy1 (by rw [List.length_set]; omega) (by omega)) fun r _ ⟨hr, hre⟩ => T.asd (by rw [hr.len, List.length_set]) (kk _ ⟨⟨?_, fun v hv => ?_, fun v hv => ?_, ?_⟩, fun j hj => ?_⟩)
      · rw [hr.len, List.length_set]; exact hlen
      · exact hr.mono v ((On.set hy0 (by omega)).2 (.inl (h3.mono v hv)))
      · rcases hr.new v hv with h5 | ⟨h5, h6⟩
        · rcases (On.set hy0 (by omega)).1 h5 with h7 | h7
          · rcases h3.new v h7 with h8 | ⟨h8, h9⟩
            · exact .inl h8
            · exact .inr ⟨h8, fun j hj => hr.mono j ((On.set hy0 (by omega)).2 (.inl (h9 j hj)))⟩
          · subst h7
            exact .inr ⟨.one ((hed _).2 hyl), hre⟩
        · exact .inr ⟨(Reach.one ((hed _).2 hyl)).trans h5, h6⟩
      · have := hr.cf
        omega
      · rcases h4 j hj with h5 | h5
        · rcases List.mem_cons.1 h5 with h6 | h6
          · subst h6
            exact .inr (hr.mono _ ((On.set hy0 (by omega)).2 (.inr rfl)))
          · exact .inl h6
        · exact .inr (hr.mono _ ((On.set hy0 (by omega)).2 (.inl h5)))
    · have hbt : b = true := by simpa using hnb
      subst hbt
      rcases h4 j hj with h5 | h5
      · rcases List.mem_cons.1 h5 with h6 | h6
        · subst h6
          exact .inr ⟨hy0, hbq⟩
        · exact .inl h6
      · exact .inr h5
  · have hb := of_decide_eq_false hb
    rcases h4 j ((hed j).1 hj) with h5 | h5
    · rw [List.drop_eq_nil_of_le (by omega)] at h5; cases h5
    · exact h5
theorem dep_all {U} (g : GOk U) : ∀ n, DepS U (refs_reaches n) n := by
  intro n
  induction n with
  | zero => intro i s _ _ _ h; omega
  | succ n ih => exact dep_step g ih
theorem on_rep {n : Nat} {v : Int} : ¬ On (List.replicate n false) v := by
  intro ⟨_, h⟩
  have := List.mem_of_getElem? h
  rw [List.mem_replicate] at this
  cases this.2
theorem reaches_tot {U} (g : GOk U) {i : Int} (hi : 0 ≤ i) (hi1 : i < U.length) (n : Nat) (hn : n = U.length) : T (fun r => r.length = n ∧ (On r i ↔ Reach U i i)) (refs_reaches fuel U i (List.replicate n false)) := by
  have hgl := g.len
  subst hn
  have hc := cf_le (List.replicate U.length false)
  rw [List.length_replicate] at hc
  refine (dep_all g fuel i _ hi hi1 (List.length_replicate) (by unfold fuel; omega)).mono fun r ⟨h1, h2⟩ => ⟨by rw [h1.len, List.length_replicate], fun h => ?_, fun h => ?_⟩
  · rcases h1.new i h with h3 | h3
    · exact absurd h3 on_rep
    · exact h3.1
  · have key : ∀ a b, Reach U a b → a = i → On r b := by
      intro a b hab
      induction hab with
      | one e => intro ea; subst ea; exact h2 _ e
      | tail _ e ih =>
        intro ea
        rcases h1.new _ (ih ea) with h3 | h3
        · exact absurd h3 on_rep
        · exact h3.2 _ e
    exact key _ _ h rfl

/-! ### By breadth -/
theorem reach_tot {U} (g : GOk U) {i t : Int} (hi : 0 ≤ i) (hi1 : i < U.length) : T (fun r => r = true ↔ Reach U i t) (r07_reach U i t) := by
  have hgl := g.len
  unfold r07_reach
  refine T.get hi hi1 fun l hl => ?_
  obtain ⟨hll, hlr⟩ := g.ok l (List.mem_of_getElem? hl)
  have hed : ∀ j, Ed U i j ↔ j ∈ l := fun j => ⟨fun ⟨_, l', h1, h2⟩ => by rw [hl] at h1; cases h1; exact h2, fun h => ⟨hi, l, hl, h⟩⟩
  refine T.abl (by simp only [List.length_nil]; omega) ?_
  refine T.lp (fun (q : List Int × List Int) => q.1.Nodup ∧ (∀ v ∈ q.1, 0 ≤ v ∧ v < U.length) ∧ (∀ v ∈ q.2, Reach U i v) ∧ (∀ j, Ed U i j → j ∈ q.1 ∨ j ∈ q.2) ∧ (∀ v ∈ q.1, ∀ j, Ed U v j → j ∈ q.1 ∨ j ∈ q.2) ∧ t ∉ q.1 ∧ q.2.length ≤ 40 * (q.1.length + 1)) (fun (q : List Int × List Int) => (U.length - q.1.length) * 41 + q.2.length)
    ⟨List.nodup_nil, fun v h => (by cases h), fun v hv => .one ((hed v).2 (by simpa using hv)), fun j hj => .inr (by simpa using (hed j).1 hj), fun v h => (by cases h), (by simp), by simp; omega⟩ (by simp; omega) fun L q ⟨h1, h2, h3, h4, h5, h6, h7⟩ hL => ?_
  obtain ⟨s, td⟩ := q
  dsimp only at h1 h2 h3 h4 h5 h6 h7 ⊢
  have hsl : s.length ≤ U.length := by
    have := length_le_of_nodup (b := nums U.length) h1 fun x hx => mem_nums.2 (h2 x hx)
    rwa [length_nums] at this
  refine T.br (fun hb => ?_) fun hb => T.some ⟨(fun h => by cases h), fun h => ?_⟩
  · have hb := of_decide_eq_true hb
    cases td with
    | nil => simp at hb
    | cons y td =>
      refine T.get (Int.le_refl _) hb fun y' hy' => ?_
      have hy' : y = y' := by simpa using hy'
      subst hy'
      have hyr := h3 y List.mem_cons_self
      have hy01 : 0 ≤ y ∧ y < U.length := by
        cases hyr with
        | one e => exact g.ed e
        | tail _ e => exact g.ed e
      refine T.asd (by simp only [List.length_cons]; omega) (T.br (fun he => T.some ⟨fun _ => ?_, fun _ => rfl⟩) fun he => ?_)
      · rw [← of_decide_eq_true he]; exact hyr
      have he := of_decide_eq_false he
      have hdr : (y :: td).drop ((1 : Int)).toNat = td := rfl
      rw [hdr]
      rw [List.length_cons] at h7
      refine T.eq (in_int_eq s y (by omega)) (T.br (fun hn => T.abl (by simp only [List.length_singleton]; omega) ?_) fun hn => hL _ ⟨h1, h2, fun v hv => h3 v (List.mem_cons_of_mem _ hv), ?_, ?_, h6, by dsimp only; omega⟩ (by dsimp only; rw [List.length_cons]; omega))
      · have hys : y ∉ s := by simpa using hn
        refine T.get hy01.1 hy01.2 fun ly hly => ?_
        obtain ⟨hyl, hyr2⟩ := g.ok ly (List.mem_of_getElem? hly)
        have hslt : s.length < U.length := by
          have := length_le_of_nodup (a := y :: s) (b := nums U.length) (List.nodup_cons.2 ⟨hys, h1⟩) fun x hx => mem_nums.2 (by rcases List.mem_cons.1 hx with e | e; rw [e]; exact hy01; exact h2 x e)
          rw [length_nums, List.length_cons] at this
          omega
        refine T.abl (by omega) (hL _ ⟨?_, ?_, ?_, ?_, ?_, ?_, ?_⟩ ?_)
        · dsimp only
          rw [List.nodup_append]
          exact ⟨h1, by simp, fun a ha b hb => by rw [List.mem_singleton.1 hb]; exact fun e => hys (e ▸ ha)⟩
        · dsimp only
          intro v hv
          rcases List.mem_append.1 hv with e | e
          · exact h2 v e
          · rw [List.mem_singleton.1 e]; exact hy01
        · dsimp only
          intro v hv
          rcases List.mem_append.1 hv with e | e
          · exact h3 v (List.mem_cons_of_mem _ e)
          · exact hyr.tail ⟨hy01.1, ly, hly, e⟩
        · dsimp only
          intro j hj
          rw [List.mem_append, List.mem_append, List.mem_singleton]
          rcases h4 j hj with e | e
          · exact .inl (.inl e)
          · rcases List.mem_cons.1 e with e | e
            · exact .inl (.inr e)
            · exact .inr (.inl e)
        · dsimp only
          intro v hv j hj
          rw [List.mem_append, List.mem_append, List.mem_singleton]
          rcases List.mem_append.1 hv with e | e
          · rcases h5 v e j hj with e | e
            · exact .inl (.inl e)
            · rcases List.mem_cons.1 e with e | e
              · exact .inl (.inr e)
              · exact .inr (.inl e)
          · rw [List.mem_singleton.1 e] at hj
            obtain ⟨_, l', e1, e2⟩ := hj
            rw [hly] at e1; cases e1
            exact .inr (.inr e2)
        · dsimp only
          rw [List.mem_append, List.mem_singleton]
          exact fun h => h.elim h6 fun e => he e.symm
        · dsimp only
          rw [List.length_append, List.length_append, List.length_singleton]
          omega
        · dsimp only
          rw [List.length_append, List.length_append, List.length_singleton, List.length_cons]
          omega
      · have hys : y ∈ s := by simpa using hn
        intro j hj
        dsimp only
        rcases h4 j hj with e | e
        · exact .inl e
        · rcases List.mem_cons.1 e with e | e
          · rw [e]; exact .inl hys
          · exact .inr e
      · have hys : y ∈ s := by simpa using hn
        intro v hv j hj
        dsimp only at hv ⊢
        rcases h5 v hv j hj with e | e
        · exact .inl e
        · rcases List.mem_cons.1 e with e | e
          · rw [e]; exact .inl hys
          · exact .inr e
  · have hb := of_decide_eq_false hb
    cases td with
    | cons y td => simp at hb
    | nil =>
      exfalso
      have key : ∀ a b, Reach U a b → a = i → b ∈ s := by
        intro a b hab
        induction hab with
        | one e => intro ea; subst ea; simpa using h4 _ e
        | tail _ e ih => intro ea; simpa using h5 _ (ih ea) _ e
      exact h6 (key _ _ h rfl)

/-! ### One that is ready -/
theorem exists_ready {U : Gr} (g : GOk U) (hac : ∀ i, ¬ Reach U i i) (out : List Int) (hl : out.length < U.length) : ∃ i : Int, 0 ≤ i ∧ i < U.length ∧ i ∉ out ∧ ∀ j, Ed U i j → j ∈ out := by
  refine Classical.byContradiction fun hno => ?_
  have hno : ∀ i : Int, 0 ≤ i → i < U.length → i ∉ out → ∃ j, Ed U i j ∧ j ∉ out := by
    intro i h1 h2 h3
    refine Classical.byContradiction fun h4 => hno ⟨i, h1, h2, h3, fun j hj => Classical.byContradiction fun h5 => h4 ⟨j, hj, h5⟩⟩
  have hst : ∃ i : Int, 0 ≤ i ∧ i < U.length ∧ i ∉ out := by
    refine Classical.byContradiction fun h => ?_
    have := length_le_of_nodup (a := nums U.length) (b := out) (nodup_nums _) fun x hx => by
      have := mem_nums.1 hx
      exact Classical.byContradiction fun h2 => h ⟨x, this.1, this.2, h2⟩
    rw [length_nums] at this
    omega
  have path : ∀ k : Nat, ∃ (h : Int) (p : List Int), p.length = k ∧ (h :: p).Nodup ∧ (∀ x ∈ h :: p, 0 ≤ x ∧ x < U.length ∧ x ∉ out) ∧ ∀ x ∈ p, Reach U x h := by
    intro k
    induction k with
    | zero =>
      obtain ⟨i, h1, h2, h3⟩ := hst
      exact ⟨i, [], rfl, by simp, fun x hx => by rw [List.mem_singleton.1 hx]; exact ⟨h1, h2, h3⟩, fun x hx => by cases hx⟩
    | succ k ih =>
      obtain ⟨h, p, e1, e2, e3, e4⟩ := ih
      obtain ⟨j, hj1, hj2⟩ := hno h (e3 h List.mem_cons_self).1 (e3 h List.mem_cons_self).2.1 (e3 h List.mem_cons_self).2.2
      have hall : ∀ x ∈ h :: p, Reach U x j := by
        intro x hx
        rcases List.mem_cons.1 hx with e | e
        · rw [e]; exact .one hj1
        · exact (e4 x e).tail hj1
      refine ⟨j, h :: p, by rw [List.length_cons, e1], List.nodup_cons.2 ⟨fun hm => hac j (hall j hm), e2⟩, fun x hx => ?_, hall⟩
      rcases List.mem_cons.1 hx with e | e
      · rw [e]; have := g.ed hj1; exact ⟨this.1, this.2, hj2⟩
      · exact e3 x e
  obtain ⟨h, p, e1, e2, e3, _⟩ := path U.length
  have := length_le_of_nodup (b := nums U.length) e2 fun x hx => mem_nums.2 ⟨(e3 x hx).1, (e3 x hx).2.1⟩
  rw [length_nums, List.length_cons] at this
  omega
end Go.Proofs.YtdcdndflfhaejaaDoor
