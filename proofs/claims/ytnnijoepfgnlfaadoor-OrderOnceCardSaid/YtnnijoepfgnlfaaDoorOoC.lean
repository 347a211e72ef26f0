/- The lexer's answer as a plain function of the bytes that are left: numbers, hexes, strings, signs, all signs of a text. No condition: general lemmas. -/
import Derived.Test.YtnnijoepfgnlfaaDoorOoA
import Derived.Test.YtnnijoepfgnlfaaDoorOoB
set_option linter.unusedVariables false
set_option linter.unusedSimpArgs false

namespace Go.Proofs.Q
open Go.Sy
set_option linter.unusedVariables false

def kidsT (t : GTyp) : List Int := t.fields.map (fun f => f.ty) ++ (if t.kind = 10 then [t.of] else [])
structure TypOk (t : GTyp) : Prop where
  tags : t.kind ≠ 9 → t.tags ≠ []
  tlen : t.tags.length ≤ 100000
  root0 : 0 ≤ t.root
  rootF : t.kind = 7 ∨ t.kind = 8 ∨ t.kind = 9 → t.root ≤ t.fields.length
  rootI : t.kind = 3 → t.root ≤ t.items.length
  fields : ¬ (t.kind = 7 ∨ t.kind = 8 ∨ t.kind = 9) → t.fields = []
  items : t.kind ≠ 3 → t.items = []
  ilen : t.items.length ≤ 8001
  nums : ∀ it ∈ t.items, I64 it.number
  dflt : ∀ f ∈ t.fields, DOk f.dflt
  rootZ : t.kind ≠ 3 → ¬ (t.kind = 7 ∨ t.kind = 8 ∨ t.kind = 9) → t.root = 0
def SubT : Nat → List GTyp → Nat → Nat → Prop
  | 0, _, _, _ => False
  | h + 1, l, i, j => ∃ t, l[i]? = some t ∧ TypOk t ∧ Kids (SubT h l) (kidsT t) (i + 1) j
theorem SubT.lt : ∀ {h l i j}, SubT h l i j → i < j := by
  intro h
  induction h with
  | zero => intro l i j h; exact h.elim
  | succ h ih => intro l i j ⟨n, _, _, h2⟩; exact Kids.le (fun x y h => Nat.le_of_lt (ih h)) h2
theorem SubT.mono : ∀ {h l l' i j}, (∀ k, i ≤ k → k < j → l'[k]? = l[k]?) → SubT h l i j → SubT h l' i j := by
  intro h
  induction h with
  | zero => intro l l' i j _ h; exact h
  | succ h ih =>
    intro l l' i j hl hs
    have hlt := hs.lt
    obtain ⟨n, h1, h0, h2⟩ := hs
    refine ⟨n, by rw [hl i (Nat.le_refl _) hlt]; exact h1, h0, Kids.mono (fun x y h => Nat.le_of_lt h.lt) (fun x y hx hy hs => ih (fun k h3 h4 => hl k (by omega) (by omega)) hs) h2⟩
theorem KidsT.monoL {h l l' r a b} (hl : ∀ k, a ≤ k → k < b → l'[k]? = l[k]?) (hk : Kids (SubT h l) r a b) : Kids (SubT h l') r a b :=
  Kids.mono (fun x y h => Nat.le_of_lt h.lt) (fun x y hx hy hs => hs.mono fun k h3 h4 => hl k (by omega) (by omega)) hk
theorem SubT.up : ∀ {h l i j}, SubT h l i j → SubT (h + 1) l i j := by
  intro h
  induction h with
  | zero => intro l i j h; exact h.elim
  | succ h ih =>
    intro l i j ⟨n, h1, h0, h2⟩
    exact ⟨n, h1, h0, Kids.mono (fun x y h => Nat.le_of_lt h.lt) (fun x y _ _ hs => ih hs) h2⟩
theorem SubT.ups {h l i j} (hs : SubT h l i j) : ∀ {h'}, h ≤ h' → SubT h' l i j := by
  intro h' hle
  induction h' with
  | zero =>
    have : h = 0 := by omega
    subst this; exact hs
  | succ n ih =>
    rcases Nat.lt_or_ge n h with h1 | h1
    · have : h = n + 1 := by omega
      subst this; exact hs
    · exact (ih h1).up
theorem SubT.set {h l i j t t'} (hs : SubT h l i j) (ht : l[i]? = some t) (ok : TypOk t') (hk : kidsT t' = kidsT t) : SubT h (l.set i t') i j := by
  cases h with
  | zero => exact hs
  | succ h =>
    obtain ⟨n, h1, h0, h2⟩ := hs
    rw [ht] at h1; cases h1
    have hlt := (List.getElem?_eq_some_iff.1 ht).1
    refine ⟨t', by rw [List.getElem?_set_self hlt], ok, ?_⟩
    rw [hk]
    exact KidsT.monoL (fun k h3 h4 => List.getElem?_set_ne (by omega)) h2
theorem Kids.mem3 {S : Nat → Nat → Prop} (hS : ∀ x y, S x y → x ≤ y) {k : Int} : ∀ {r a b}, Kids S r a b → k ∈ r → ∃ (c d : Nat), k = (c : Int) ∧ S c d ∧ a ≤ c ∧ d ≤ b := by
  intro r
  induction r with
  | nil => intro a b _ h; cases h
  | cons x r ih =>
    intro a b ⟨c, h0, h1, h2⟩ hm
    have h3 := Kids.le hS h2
    rcases List.mem_cons.1 hm with e | e
    · exact ⟨a, c, e.trans h0, h1, Nat.le_refl _, h3⟩
    · obtain ⟨c', d', k1, k2, k3, k4⟩ := ih h2 e
      have := hS _ _ h1
      exact ⟨c', d', k1, k2, by omega, k4⟩
theorem SubT.le' {h l} : ∀ x y, SubT h l x y → x ≤ y := fun x y h => Nat.le_of_lt h.lt
theorem zhO {t : GTyp} (f : GFld) (hf : f ∈ t.fields) : f.ty ∈ kidsT t := List.mem_append_left _ (List.mem_map.2 ⟨f, hf, rfl⟩)
theorem SubT.inb : ∀ {h l i j}, SubT h l i j → j ≤ l.length := by
  intro h
  induction h with
  | zero => intro l i j h; exact h.elim
  | succ h ih =>
    intro l i j ⟨t, h1, h0, h2⟩
    have hi := (List.getElem?_eq_some_iff.1 h1).1
    have : ∀ (r : List Int) (a b : Nat), Kids (SubT h l) r a b → a ≤ l.length → b ≤ l.length := by
      intro r
      induction r with
      | nil => intro a b h2 ha; cases h2; exact ha
      | cons x r ih2 => intro a b ⟨c, k1, k2, k3⟩ ha; exact ih2 c b k3 (ih k2)
    exact this _ _ _ h2 (by omega)

/-! ### By which tags they begin -/
def bgs : Nat → List GTyp → Int → List Tag
  | 0, _, _ => []
  | h + 1, l, i => match (if 0 ≤ i then l[i.toNat]? else none) with
    | none => []
    | some t => if 0 < t.tags.length then t.tags.take 1 else t.fields.flatMap fun f => bgs h l f.ty
def wld : Nat → List GTyp → Int → Bool
  | 0, _, _ => false
  | h + 1, l, i => match (if 0 ≤ i then l[i.toNat]? else none) with
    | none => false
    | some t => if t.kind ≠ 9 ∨ 0 < t.tags.length then false else t.more || t.fields.any fun f => wld h l f.ty
theorem zhd {l : List GTyp} {h i : Nat} {t : GTyp} (e : l[i]? = some t) : bgs (h + 1) l (i : Int) = if 0 < t.tags.length then t.tags.take 1 else t.fields.flatMap fun f => bgs h l f.ty := by
  conv => lhs; unfold bgs
  rw [if_pos (by omega), Int.toNat_natCast, e]
theorem zj0 {l : List GTyp} {h i : Nat} {t : GTyp} (e : l[i]? = some t) : wld (h + 1) l (i : Int) = if t.kind ≠ 9 ∨ 0 < t.tags.length then false else t.more || t.fields.any fun f => wld h l f.ty := by
  conv => lhs; unfold wld
  rw [if_pos (by omega), Int.toNat_natCast, e]
theorem zjr {h : Nat} {l : List GTyp} (F : Int → List Tag) (hF : ∀ x y, SubT h l x y → (F (x : Int)).length ≤ y - x) : ∀ {r : List Int} {a b : Nat}, Kids (SubT h l) r a b → (r.flatMap F).length ≤ b - a := by
  intro r
  induction r with
  | nil => intro a b _; simp
  | cons k r ih =>
    intro a b ⟨c, h0, h1, h2⟩
    have e1 := hF _ _ h1
    have e2 := ih h2
    have e3 := h1.lt
    have e4 := Kids.le SubT.le' h2
    rw [List.flatMap_cons, List.length_append, h0]
    omega
theorem Kids.app {S : Nat → Nat → Prop} {ys : List Int} : ∀ {xs : List Int} {a b : Nat}, Kids S (xs ++ ys) a b → ∃ c, Kids S xs a c ∧ Kids S ys c b := by
  intro xs
  induction xs with
  | nil => intro a b h; exact ⟨a, rfl, h⟩
  | cons x xs ih =>
    intro a b ⟨c, h0, h1, h2⟩
    obtain ⟨d, h3, h4⟩ := ih h2
    exact ⟨d, ⟨c, h0, h1, h3⟩, h4⟩
theorem zf3 : ∀ {h l i j}, SubT h l i j → (bgs h l (i : Int)).length ≤ j - i := by
  intro h
  induction h with
  | zero => intro l i j h; exact h.elim
  | succ h ih =>
    intro l i j hs
    have hlt := hs.lt
    obtain ⟨t, h1, h0, h2⟩ := hs
    rw [zhd h1]
    split
    · rw [List.length_take]; omega
    · unfold kidsT at h2
      obtain ⟨c, h3, h4⟩ := Kids.app h2
      have := zjr (bgs h l) (fun x y hs => ih hs) h3
      rw [List.flatMap_map] at this
      have e4 := Kids.le SubT.le' h4
      have e3 := Kids.le SubT.le' h3
      omega
theorem zh8 {α β : Type} {l : List α} {f : α → List β} {k : Nat} {y : α} (h : l[k]? = some y) : (l.take (k + 1)).flatMap f = (l.take k).flatMap f ++ f y := by
  rw [List.take_add_one, h]
  simp
theorem zhs {α β : Type} {l : List α} {f : α → List β} {k : Nat} : ((l.take k).flatMap f).length ≤ (l.flatMap f).length := by
  conv => rhs; rw [← List.take_append_drop k l]
  rw [List.flatMap_append, List.length_append]
  omega
theorem zgy : ∀ {h n l i j}, SubT h l i j → h ≤ n → l.length ≤ 1000 → ze6 n l (i : Int) = some (bgs h l (i : Int)) := by
  intro h
  induction h with
  | zero => intro n l i j h; exact h.elim
  | succ h ih =>
    intro n l i j hs hn hl
    obtain ⟨n, rfl⟩ : ∃ n', n = n' + 1 := ⟨n - 1, by omega⟩
    have hjl := hs.inb
    have hbl := zf3 hs
    have hlt := hs.lt
    obtain ⟨t, h1, h0, h2⟩ := hs
    have hti : (i : Int).toNat = i := Int.toNat_natCast i
    have hget : ∀ {β : Type} {R : β → Prop} {K : GTyp → Option β}, T R (K t) → T R (asr (decide (0 ≤ (i : Int) ∧ (i : Int) < ((l.length : Nat) : Int))) (cal (l[(i : Int).toNat]?) K)) := fun h => T.asd ⟨by omega, by omega⟩ (by rw [hti]; exact T.eq h1 h)
    refine T.eqs ?_
    show T _ (zd0 (ze6 n) l (i : Int))
    unfold zd0
    rw [zhd h1] at hbl ⊢
    refine hget (T.br (fun hb => hget (T.asd ⟨Int.le_refl _, by omega, by have := zOT hb; omega⟩ (T.some ?_))) fun hb => ?_)
    · have hb := zOT hb
      rw [if_pos (by omega)]; rfl
    have hb := zOF hb
    rw [if_neg (by omega)] at hbl ⊢
    have hfl : ∀ (k : Nat), (((t.fields.take k).flatMap fun f => bgs h l f.ty)).length ≤ 1000 := fun k => by
      have := zhs (l := t.fields) (f := fun f => bgs h l f.ty) (k := k)
      omega
    have hfc : t.fields.length ≤ 1000 := by
      unfold kidsT at h2
      obtain ⟨c, h3, h4⟩ := Kids.app h2
      have e : ∀ (r : List Int) (a b : Nat), Kids (SubT h l) r a b → r.length ≤ b - a := by
        intro r
        induction r with
        | nil => intro a b _; exact Nat.zero_le _
        | cons x r ih2 =>
          intro a b ⟨c, k0, k1, k2⟩
          have := ih2 _ _ k2
          have := k1.lt
          have := Kids.le SubT.le' k2
          simp only [List.length_cons]; omega
      have := e _ _ _ h3
      rw [List.length_map] at this
      have := Kids.le SubT.le' h4
      omega
    refine T.lp (ι := List Tag × Int) (fun q => 0 ≤ q.2 ∧ q.2 ≤ t.fields.length ∧ q.1 = (t.fields.take q.2.toNat).flatMap fun f => bgs h l f.ty) (fun q => ((t.fields.length : Int) - q.2).toNat) ⟨Int.le_refl _, by dsimp only; omega, rfl⟩ (by dsimp only; omega) fun L q ⟨q1, q2, q3⟩ hL => ?_
    obtain ⟨o, k⟩ := q
    dsimp only at q1 q2 q3 hL ⊢
    refine hget (T.br (fun hb2 => ?_) fun hb2 => T.some ?_)
    · have hb2 := zOT hb2
      refine hget (T.get q1 hb2 fun f hf => ?_)
      obtain ⟨c, d, e1, e2, e3, e4⟩ := Kids.mem3 SubT.le' h2 (zhO f (List.mem_of_getElem? hf))
      rw [e1]
      have hk1 : (k + 1).toNat = k.toNat + 1 := by omega
      have hnx := zh8 (f := fun f : GFld => bgs h l f.ty) hf
      have hle := hfl (k.toNat + 1)
      rw [hnx, List.length_append, e1] at hle
      have hle2 := hfl k.toNat
      refine T.eq (ih e2 (by omega) hl) (T.abl (by rw [q3]; omega) (T.ck (by omega) (hL _ ⟨by dsimp only; omega, by dsimp only; omega, ?_⟩ (by dsimp only; omega))))
      dsimp only
      rw [hk1, hnx, q3, e1]
    · have hb2 := zOF hb2
      rw [q3, List.take_of_length_le (by omega)]
theorem zmz : ∀ {h n l i j}, SubT h l i j → h ≤ n → l.length ≤ 1000 → zgL n l (i : Int) = some (wld h l (i : Int)) := by
  intro h
  induction h with
  | zero => intro n l i j h; exact h.elim
  | succ h ih =>
    intro n l i j hs hn hl
    obtain ⟨n, rfl⟩ : ∃ n', n = n' + 1 := ⟨n - 1, by omega⟩
    have hjl := hs.inb
    have hlt := hs.lt
    obtain ⟨t, h1, h0, h2⟩ := hs
    have hti : (i : Int).toNat = i := Int.toNat_natCast i
    have hget : ∀ {β : Type} {R : β → Prop} {K : GTyp → Option β}, T R (K t) → T R (asr (decide (0 ≤ (i : Int) ∧ (i : Int) < ((l.length : Nat) : Int))) (cal (l[(i : Int).toNat]?) K)) := fun h => T.asd ⟨by omega, by omega⟩ (by rw [hti]; exact T.eq h1 h)
    refine T.eqs ?_
    show T _ (zfk (zgL n) l (i : Int))
    unfold zfk
    rw [zj0 h1]
    have hfc : t.fields.length ≤ 1000 := by
      unfold kidsT at h2
      obtain ⟨c, h3, h4⟩ := Kids.app h2
      have e : ∀ (r : List Int) (a b : Nat), Kids (SubT h l) r a b → r.length ≤ b - a := by
        intro r
        induction r with
        | nil => intro a b _; exact Nat.zero_le _
        | cons x r ih2 =>
          intro a b ⟨c, k0, k1, k2⟩
          have := ih2 _ _ k2
          have := k1.lt
          have := Kids.le SubT.le' k2
          simp only [List.length_cons]; omega
      have := e _ _ _ h3
      rw [List.length_map] at this
      have := Kids.le SubT.le' h4
      omega
    refine hget (T.jp (fun b => b = decide (t.kind ≠ 9 ∨ 0 < t.tags.length)) (fun J hJ => T.br (fun hb => hJ _ ?_) fun hb => hget (hJ _ ?_)) fun b hb => ?_)
    · have : ¬ t.kind = 9 := by simpa using hb
      rw [zDT (.inl this)]
    · have : t.kind = 9 := by simpa using hb
      rw [decide_eq_decide]; omega
    subst hb
    refine T.br (fun hb => T.some ?_) fun hb => hget ?_
    · rw [if_pos (zOT hb)]
    rw [if_neg (zOF hb)]
    refine T.lp (ι := Bool × Int) (fun q => 0 ≤ q.2 ∧ q.2 ≤ t.fields.length ∧ q.1 = (t.more || (t.fields.take q.2.toNat).any fun f => wld h l f.ty)) (fun q => ((t.fields.length : Int) - q.2).toNat) ⟨Int.le_refl _, by dsimp only; omega, by simp⟩ (by dsimp only; omega) fun L q ⟨q1, q2, q3⟩ hL => ?_
    obtain ⟨o, k⟩ := q
    dsimp only at q1 q2 q3 hL ⊢
    refine hget (T.br (fun hb2 => ?_) fun hb2 => T.some ?_)
    · have hb2 := zOT hb2
      have hk1 : (k + 1).toNat = k.toNat + 1 := by omega
      obtain ⟨f, hf⟩ : ∃ f, t.fields[k.toNat]? = some f := ⟨_, List.getElem?_eq_getElem (by omega)⟩
      have hnx : (t.fields.take (k.toNat + 1)).any (fun f => wld h l f.ty) = ((t.fields.take k.toNat).any (fun f => wld h l f.ty) || wld h l f.ty) := by
        rw [List.take_add_one, hf]; simp
      refine T.jp (fun b => b = (o || wld h l f.ty)) (fun J hJ => T.br (fun hb => hJ _ (by rw [hb]; rfl)) fun hb => hget (T.get q1 hb2 fun f' hf' => ?_)) fun b hb => T.ck (by omega) (hL _ ⟨by dsimp only; omega, by dsimp only; omega, by dsimp only; rw [hk1, hnx, hb, q3, Bool.or_assoc]⟩ (by dsimp only; omega))
      rw [hf] at hf'; cases hf'
      obtain ⟨c, d, e1, e2, e3, e4⟩ := Kids.mem3 SubT.le' h2 (zhO f (List.mem_of_getElem? hf))
      rw [e1] at hJ ⊢
      exact T.eq (ih e2 (by omega) hl) (hJ _ (by rw [hb]; rfl))
    · have hb2 := zOF hb2
      rw [q3, List.take_of_length_le (by omega)]

/-! ### Told apart -/
theorem zmI (l : List Tag) (x : Tag) (hl : l.length ≤ 1000000) : zdV l x = some (decide (x ∈ l)) := by
  refine T.eqs ?_
  unfold zdV
  refine T.lp (fun (k : Int) => 0 ≤ k ∧ k ≤ (l.length : Int) ∧ x ∉ l.take k.toNat) (fun (k : Int) => ((l.length : Int) - k).toNat) ⟨Int.le_refl _, by omega, by simp⟩ (by omega) fun L k hk hL => ?_
  refine T.br (fun h2 => ?_) fun h2 => T.some ?_
  · have h2 := zOT h2
    refine T.get hk.1 h2 fun y hy => T.br (fun h3 => T.some ?_) fun h3 => T.ck (by omega) (hL _ ⟨by omega, by omega, ?_⟩ (by omega))
    · have h3 := zOT h3
      subst h3
      exact (zDT (List.mem_of_getElem? hy)).symm
    · have h3 := zOF h3
      have e : (k + 1).toNat = k.toNat + 1 := by omega
      rw [e, List.take_add_one, hy]
      simp only [Option.toList_some, List.mem_append, List.mem_singleton, not_or]
      exact ⟨hk.2.2, fun h => h3 h.symm⟩
  · have h2 := zOF h2
    have h4 := hk.2.2
    rw [List.take_of_length_le (by omega)] at h4
    exact (zDF h4).symm
theorem ziX {α : Type} {l : List (List α)} {k : Nat} {y : List α} (h : l[k]? = some y) : (l.take (k + 1)).flatten = (l.take k).flatten ++ y := by
  rw [List.take_add_one, h]; simp
theorem zoF {α : Type} (l : List (List α)) (k : Nat) : ((l.take k).flatten).length ≤ l.flatten.length := by
  conv => rhs; rw [← List.take_append_drop k l]
  rw [List.flatten_append, List.length_append]
  omega
theorem zj1 (s : List (List Tag)) (h1 : s.length ≤ 10000) (h2 : s.flatten.length ≤ 100000) : zea s = some (decide s.flatten.Nodup) := by
  refine T.eqs ?_
  unfold zea
  refine T.lp (ι := List Tag × Int) (fun q => 0 ≤ q.2 ∧ q.2 ≤ s.length ∧ q.1 = (s.take q.2.toNat).flatten ∧ q.1.Nodup) (fun q => ((s.length : Int) - q.2).toNat) ⟨Int.le_refl _, by dsimp only; omega, rfl, List.nodup_nil⟩ (by dsimp only; omega) fun L q ⟨q1, q2, q3, q4⟩ hL => ?_
  obtain ⟨o, k⟩ := q
  dsimp only at q1 q2 q3 q4 hL ⊢
  refine T.br (fun hb => ?_) fun hb => T.some ?_
  · have hb := zOT hb
    obtain ⟨y, hy⟩ : ∃ y, s[k.toNat]? = some y := ⟨_, List.getElem?_eq_getElem (by omega)⟩
    have hk1 : (k + 1).toNat = k.toNat + 1 := by omega
    have hnx := ziX hy
    have hle := zoF s (k.toNat + 1)
    rw [hnx, List.length_append] at hle
    have hget : ∀ {β : Type} {R : β → Prop} {K : List Tag → Option β}, T R (K y) → T R (cal (getI s k) K) := fun h => T.get q1 hb fun y' hy' => by rw [hy] at hy'; cases hy'; exact h
    have hpre : ∀ n : Nat, n ≤ y.length → ¬ ((s.take k.toNat).flatten ++ y.take n).Nodup → ¬ s.flatten.Nodup := fun n hn hno h => hno (by
      have e : s.flatten = ((s.take k.toNat).flatten ++ y.take n) ++ (y.drop n ++ (s.drop (k.toNat + 1)).flatten) := by
        conv => lhs; rw [← List.take_append_drop (k.toNat + 1) s]
        rw [List.flatten_append, hnx]
        conv => lhs; rw [← List.take_append_drop n y]
        simp only [List.append_assoc]
      rw [e] at h
      exact (List.nodup_append.1 h).1)
    refine T.lp (ι := List Tag × Int) (fun p => 0 ≤ p.2 ∧ p.2 ≤ y.length ∧ p.1 = (s.take k.toNat).flatten ++ y.take p.2.toNat ∧ p.1.Nodup) (fun p => ((y.length : Int) - p.2).toNat) ⟨Int.le_refl _, by dsimp only; omega, by dsimp only; rw [q3]; simp, q4⟩ (by dsimp only; omega) fun L2 p ⟨p1, p2, p3, p4⟩ hL2 => ?_
    obtain ⟨o2, i⟩ := p
    dsimp only at p1 p2 p3 p4 hL2 ⊢
    have hi1 : (i + 1).toNat = i.toNat + 1 := by omega
    refine hget (T.br (fun hb2 => ?_) fun hb2 => T.ck (by omega) (hL _ ⟨by dsimp only; omega, by dsimp only; omega, ?_, p4⟩ (by dsimp only; omega)))
    · have hb2 := zOT hb2
      obtain ⟨z, hz⟩ : ∃ z, y[i.toNat]? = some z := ⟨_, List.getElem?_eq_getElem (by omega)⟩
      have hget2 : ∀ {β : Type} {R : β → Prop} {K : Tag → Option β}, T R (K z) → T R (cal (getI y i) K) := fun h => T.get p1 hb2 fun z' hz' => by rw [hz] at hz'; cases hz'; exact h
      have hz2 : y.take (i.toNat + 1) = y.take i.toNat ++ [z] := by rw [List.take_add_one, hz]; rfl
      have hol : o2.length ≤ 100000 := by rw [p3, List.length_append, List.length_take]; omega
      refine hget (hget2 (T.eq (zmI _ _ (by omega)) (T.br (fun hm => T.some ?_) fun hm => hget (hget2 (T.abl (by simp only [List.length_singleton]; omega) (T.ck (by omega) (hL2 _ ⟨by dsimp only; omega, by dsimp only; omega, ?_, ?_⟩ (by dsimp only; omega))))))))
      · have hm := zOT hm
        symm
        refine zDF (hpre (i.toNat + 1) (by omega) ?_)
        rw [hz2, ← List.append_assoc, ← p3]
        intro hnd
        have := (List.nodup_append.1 hnd).2.2 z hm z (List.mem_singleton.2 rfl)
        exact this rfl
      · dsimp only; rw [hi1, hz2, p3, List.append_assoc]
      · have hm := zOF hm
        dsimp only
        rw [List.nodup_append]
        refine ⟨p4, by simp, fun a ha b hb e => ?_⟩
        rw [List.mem_singleton.1 hb] at e
        exact hm (e ▸ ha)
    · have hb2 := zOF hb2
      dsimp only
      rw [hk1, hnx, p3, List.take_of_length_le (show y.length ≤ i.toNat by omega)]
  · have hb := zOF hb
    rw [q3, List.take_of_length_le (by omega)] at q4
    exact (zDT q4).symm

theorem zi5 {h : Nat} {l : List GTyp} : ∀ {r : List Int} {a b : Nat}, Kids (SubT h l) r a b → r.length ≤ b - a := by
  intro r
  induction r with
  | nil => intro a b _; exact Nat.zero_le _
  | cons x r ih =>
    intro a b ⟨c, k0, k1, k2⟩
    have := ih k2
    have := k1.lt
    have := Kids.le SubT.le' k2
    simp only [List.length_cons]; omega
def tld (h : Nat) (l : List GTyp) (fs : List GFld) (o : Bool) : Bool := !(fs.any fun f => wld h l f.ty && (o || decide (1 < fs.length))) && decide (fs.flatMap fun f => bgs h l f.ty).Nodup
theorem zj7 {h a b : Nat} {x : GMk} {fs : List GFld} {o : Bool} (hk : Kids (SubT h x.l) (fs.map fun f => f.ty) a b) (hh : h ≤ 1000) (hl : x.l.length ≤ 1000) (hb : b ≤ x.l.length) : zbW x fs o = some (tld h x.l fs o, x) := by
  refine T.eqs ?_
  unfold zbW
  have hfl := zi5 hk
  rw [List.length_map] at hfl
  have hflat := zjr (bgs h x.l) (fun x y hs => zf3 hs) hk
  rw [List.flatMap_map] at hflat
  have hfu : h ≤ fuel := by unfold fuel; omega
  have hsub : ∀ f ∈ fs, ∃ c d : Nat, f.ty = (c : Int) ∧ SubT h x.l c d := fun f hf => by
    obtain ⟨c, d, e1, e2, _⟩ := Kids.mem3 SubT.le' hk (List.mem_map.2 ⟨f, hf, rfl⟩)
    exact ⟨c, d, e1, e2⟩
  refine T.lp (ι := List (List Tag) × Int) (fun q => 0 ≤ q.2 ∧ q.2 ≤ fs.length ∧ q.1 = (fs.take q.2.toNat).map (fun f => bgs h x.l f.ty) ∧ (fs.take q.2.toNat).any (fun f => wld h x.l f.ty && (o || decide (1 < fs.length))) = false) (fun q => ((fs.length : Int) - q.2).toNat) ⟨Int.le_refl _, by dsimp only; omega, rfl, rfl⟩ (by dsimp only; omega) fun L q ⟨q1, q2, q3, q4⟩ hL => ?_
  obtain ⟨s, k⟩ := q
  dsimp only at q1 q2 q3 q4 hL ⊢
  refine T.br (fun hb1 => ?_) fun hb1 => ?_
  · have hb1 := zOT hb1
    have hk1 : (k + 1).toNat = k.toNat + 1 := by omega
    refine T.get q1 hb1 fun f hf => ?_
    obtain ⟨c, d, e1, e2⟩ := hsub f (List.mem_of_getElem? hf)
    have htk : fs.take (k.toNat + 1) = fs.take k.toNat ++ [f] := by rw [List.take_add_one, hf]; rfl
    rw [e1]
    refine T.eq (zmz e2 hfu hl) (T.jp (fun q => q = (wld h x.l f.ty && (o || decide (1 < fs.length)))) (fun J hJ => T.br (fun h2 => T.jp (fun q => q = (o || decide (1 < fs.length))) (fun J2 hJ2 => T.br (fun h3 => hJ2 _ (by rw [h3]; rfl)) fun h3 => hJ2 _ (by rw [h3, Bool.false_or, decide_eq_decide]; omega)) fun q hq => hJ _ (by rw [e1, h2, hq]; rfl)) fun h2 => hJ _ (by rw [e1, h2]; rfl)) fun q hq => ?_)
    refine T.br (fun h2 => T.some ?_) fun h2 => T.get q1 hb1 fun f' hf' => ?_
    · have : (fs.any fun f => wld h x.l f.ty && (o || decide (1 < fs.length))) = true := List.any_eq_true.2 ⟨f, List.mem_of_getElem? hf, by rw [← hq]; exact h2⟩
      unfold tld
      rw [this]; rfl
    · rw [hf] at hf'; cases hf'
      rw [e1]
      refine T.eq (zgy e2 hfu hl) (T.abl (by rw [q3, List.length_map, List.length_take, List.length_singleton]; omega) (T.ck (by omega) (hL _ ⟨by dsimp only; omega, by dsimp only; omega, ?_, ?_⟩ (by dsimp only; omega))))
      · dsimp only; rw [hk1, htk, q3, List.map_append, List.map_singleton, e1]
      · dsimp only; rw [hk1, htk, List.any_append, q4, List.any_cons, ← hq, h2]; rfl
  · have hb1 := zOF hb1
    rw [List.take_of_length_le (by omega)] at q3 q4
    have hfe : s.flatten = fs.flatMap fun f => bgs h x.l f.ty := by rw [q3]; rfl
    refine T.eq (zj1 s (by rw [q3, List.length_map]; omega) (by rw [hfe]; omega)) (T.some ?_)
    unfold tld
    rw [q4, hfe]; rfl

def lse (t : GTyp) : List Bool := t.fields.mapIdx fun k f => f.optional || f.has || decide (t.root ≤ (k : Int))
theorem zj3 (t : GTyp) : (lse t).length = t.fields.length := by unfold lse; rw [List.length_mapIdx]
theorem zoP {t : GTyp} {k : Nat} {f : GFld} (h : t.fields[k]? = some f) : (lse t)[k]? = some (f.optional || f.has || decide (t.root ≤ (k : Int))) := by
  unfold lse; rw [List.getElem?_mapIdx, h]; rfl
theorem zkw (t : GTyp) (hl : t.fields.length ≤ 1000) : zeY t = some (lse t) := by
  refine T.eqs ?_
  unfold zeY
  have hll := zj3 t
  refine T.lp (ι := List Bool × Int) (fun q => 0 ≤ q.2 ∧ q.2 ≤ t.fields.length ∧ q.1 = (lse t).take q.2.toNat) (fun q => ((t.fields.length : Int) - q.2).toNat) ⟨Int.le_refl _, by dsimp only; omega, rfl⟩ (by dsimp only; omega) fun L q ⟨q1, q2, q3⟩ hL => ?_
  obtain ⟨s, k⟩ := q
  dsimp only at q1 q2 q3 hL ⊢
  refine T.br (fun hb => ?_) fun hb => T.some ?_
  · have hb := zOT hb
    refine T.get q1 hb fun f hf => ?_
    refine T.jp (fun q => q = (f.optional || f.has)) (fun J h => T.br (fun h2 => h _ (by rw [h2]; rfl)) fun h2 => T.get q1 hb fun f' hf' => h _ (by rw [hf] at hf'; cases hf'; rw [h2]; rfl)) fun q hq => ?_
    refine T.jp (fun q' => q' = (f.optional || f.has || decide (t.root ≤ k))) (fun J h => T.br (fun h2 => h _ (by rw [← hq, h2]; rfl)) fun h2 => h _ (by rw [← hq, h2]; rfl)) fun q' hq' => ?_
    have hk1 : (k + 1).toNat = k.toNat + 1 := by omega
    have hkk : ((k.toNat : Nat) : Int) = k := by omega
    have := zoP hf
    rw [hkk] at this
    refine T.abl (by rw [q3, List.length_take, List.length_singleton]; omega) (T.ck (by omega) (hL _ ⟨by dsimp only; omega, by dsimp only; omega, ?_⟩ (by dsimp only; omega)))
    dsimp only
    rw [hk1, List.take_add_one, this, q3, hq']; rfl
  · have hb := zOF hb
    rw [q3, List.take_of_length_le (by omega)]
def lst (t : GTyp) : Nat → Nat
  | 0 => 0
  | k + 1 => if (lse t)[k]? = some true then lst t k else k + 1
theorem znY (t : GTyp) : ∀ k, lst t k ≤ k
  | 0 => Nat.le_refl _
  | k + 1 => by
    unfold lst
    split
    · exact Nat.le_trans (znY t k) (Nat.le_succ k)
    · exact Nat.le_refl _
theorem zoG (t : GTyp) (hl : t.fields.length ≤ 1000) (h0 : 0 ≤ t.root) (h1 : t.root ≤ t.fields.length) : zgJ t = some ((lst t t.root.toNat : Nat) : Int) := by
  refine T.eqs ?_
  unfold zgJ
  have hll := zj3 t
  refine T.eq (zkw t hl) (T.lp (fun (k : Int) => 0 ≤ k ∧ k ≤ t.root ∧ lst t t.root.toNat = lst t k.toNat) (fun (k : Int) => k.toNat) ⟨h0, Int.le_refl _, rfl⟩ (by omega) fun L k ⟨k1, k2, k3⟩ hL => ?_)
  refine T.jp (fun q => (q = true → 0 < k ∧ lst t k.toNat = lst t (k - 1).toNat) ∧ (q = false → lst t k.toNat = k.toNat)) (fun J h => T.br (fun hb => ?_) fun hb => h _ ⟨(fun h => by cases h), fun _ => ?_⟩) fun q hq => ?_
  · have hb := zOT hb
    have e : k.toNat = (k - 1).toNat + 1 := by omega
    refine T.ck (by omega) (T.get (by omega) (by omega) fun y hy => h _ ?_)
    rw [e]
    refine ⟨fun hy1 => ⟨hb, ?_⟩, fun hy1 => ?_⟩
    · rw [lst, if_pos (by rw [hy, hy1])]
    · rw [lst, if_neg (by rw [hy, hy1]; simp)]
  · have hb := zOF hb
    have e : k.toNat = 0 := by omega
    rw [e]; rfl
  · refine T.br (fun h2 => T.ck (by have := (hq.1 h2).1; omega) (hL _ ⟨by have := (hq.1 h2).1; omega, by omega, by rw [k3, (hq.1 h2).2]⟩ (by have := (hq.1 h2).1; omega))) fun h2 => T.some ?_
    rw [k3, hq.2 h2]; omega
theorem KidsT.sub {h : Nat} {l : List GTyp} : ∀ {r a b} (n m : Nat), Kids (SubT h l) r a b → ∃ c d, Kids (SubT h l) ((r.take n).drop m) c d ∧ d ≤ b := by
  intro r a b n m hk
  have h1 : r = (r.take n).take m ++ ((r.take n).drop m ++ r.drop n) := by
    rw [← List.append_assoc, List.take_append_drop, List.take_append_drop]
  rw [h1] at hk
  obtain ⟨c, _, h3⟩ := Kids.app hk
  obtain ⟨d, h4, h5⟩ := Kids.app h3
  exact ⟨c, d, h4, Kids.le SubT.le' h5⟩
theorem zmS {h a b : Nat} {x : GMk} {t : GTyp} (hk : Kids (SubT h x.l) (t.fields.map fun f => f.ty) a b) (hh : h ≤ 1000) (hl : x.l.length ≤ 1000) (hb : b ≤ x.l.length) (r0 : 0 ≤ t.root) (r1 : t.kind = 7 → t.root ≤ t.fields.length) : T (fun r => r.2 = x) (zb4 x t) := by
  unfold zb4
  have hfl := zi5 hk
  rw [List.length_map] at hfl
  have hfl1 : t.fields.length ≤ 1000 := by omega
  have hll := zj3 t
  refine T.br (fun _ => T.eq (zj7 hk hh hl hb) (T.some rfl)) fun hk7 => ?_
  have hk7 : t.kind = 7 := by simpa using hk7
  have hsub : ∀ (n m : Nat) (o : Bool), zbW x ((t.fields.take n).drop m) o = some (tld h x.l ((t.fields.take n).drop m) o, x) := fun n m o => by
    obtain ⟨c, d, k1, k2⟩ := KidsT.sub n m hk
    rw [← List.map_take, ← List.map_drop] at k1
    exact zj7 k1 hh hl (by omega)
  refine T.eq (zkw t hfl1) (T.lp (ι := Int × GMk) (fun q => 0 ≤ q.1 ∧ q.1 ≤ t.fields.length ∧ q.2 = x) (fun q => ((t.fields.length : Int) - q.1).toNat) ⟨Int.le_refl _, by dsimp only; omega, rfl⟩ (by dsimp only; omega) fun L q ⟨q1, q2, q3⟩ hL => ?_)
  obtain ⟨k, y⟩ := q
  dsimp only at q1 q2 q3 hL ⊢
  subst q3
  refine T.br (fun hb1 => ?_) fun hb1 => ?_
  · have hb1 := zOT hb1
    refine T.jp (ι := GMk) (fun z => z = y) (fun J hJ => T.get q1 (by omega) fun c hc => T.br (fun _ => hJ _ rfl) fun _ => T.ck (by omega) ?_) fun z hz => T.ck (by omega) (hL _ ⟨by dsimp only; omega, by dsimp only; omega, hz⟩ (by dsimp only; omega))
    refine T.lp (fun (e : Int) => k + 1 ≤ e ∧ e ≤ t.fields.length) (fun (e : Int) => ((t.fields.length : Int) - e).toNat) ⟨Int.le_refl _, by omega⟩ (by omega) fun L2 e ⟨e1, e2⟩ hL2 => ?_
    refine T.jp (fun q => q = true → e < t.fields.length) (fun J2 h2 => T.br (fun h3 => T.get (by omega) (by have := zOT h3; omega) fun _ _ => h2 _ fun _ => zOT h3) fun _ => h2 _ fun h => by cases h) fun q hq => ?_
    refine T.br (fun h3 => T.ck (by have := hq h3; omega) (hL2 _ (by have := hq h3; omega) (by have := hq h3; omega))) fun _ => T.ck (by omega) (T.asd (by omega) (T.eq (hsub _ _ _) (T.br (fun _ => T.some rfl) fun _ => hJ _ rfl)))
  · refine T.jp (ι := Bool × GMk) (fun z => z.2 = y) (fun J hJ => T.br (fun _ => hJ _ rfl) fun _ => T.eq (zoG t hfl1 r0 (r1 hk7)) ?_) fun z hz => T.some hz
    have := znY t t.root.toNat
    have := r1 hk7
    exact T.asd ⟨by omega, by omega, Int.le_refl _⟩ (T.eq (hsub _ _ _) (hJ _ rfl))
end Go.Proofs.Q


namespace Go.Proofs.Q
open Go.Sy
set_option linter.unusedVariables false

def fl (x : GMk) (e : Int) : GMk := if x.e = 0 then GMk.mk x.m x.l e else x
theorem fail10 (x : GMk) (e : Int) : zaO x e = some (fl x e) := zh2 x e
theorem zpI (x : GMk) (e : Int) : (fl x e).m = x.m := by unfold fl; split <;> rfl
theorem zpE (x : GMk) (e : Int) : (fl x e).l = x.l := by unfold fl; split <;> rfl
theorem zkY {x : GMk} {e : Int} (h : e ≠ 0) : (fl x e).e ≠ 0 := by
  unfold fl
  split
  · exact h
  · assumption
structure Sm (x y : GMk) : Prop where
  m : y.m = x.m
  l : y.l = x.l
  e : y.e = 0 → x.e = 0
theorem Sm.refl (x : GMk) : Sm x x := ⟨rfl, rfl, fun h => h⟩
theorem Sm.trans {x y z : GMk} (h : Sm x y) (k : Sm y z) : Sm x z := ⟨k.m.trans h.m, k.l.trans h.l, fun e => h.e (k.e e)⟩
theorem Sm.fl {x : GMk} {e : Int} (h : e ≠ 0) : Sm x (fl x e) := ⟨zpI x e, zpE x e, fun k => absurd k (zkY h)⟩
theorem ziO {x : GMk} {i : Nat} {t : GTyp} (v : Val) (ht : x.l[i]? = some t) (hv : DOk v) (r0 : 0 ≤ t.root) (r1 : t.kind = 3 → t.root ≤ t.items.length) (hi : t.items.length ≤ 8001) :
    T (fun r => Sm x r.2 ∧ DOk r.1) (zcf x (i : Int) v) := by
  unfold zcf
  have hlt := (List.getElem?_eq_some_iff.1 ht).1
  have hti : (i : Int).toNat = i := Int.toNat_natCast i
  refine T.asd ⟨by omega, by omega⟩ ?_
  rw [hti]
  refine T.eq ht (T.jp (ι := Bool × Val) (fun q => DOk q.2) (fun J k => ?_) fun q hq => T.jp (ι := GMk) (fun y => Sm x y) (fun J k => T.br (fun _ => T.eq (fail10 _ _) (k _ (Sm.fl (by decide)))) fun _ => k _ (Sm.refl x)) fun y hy => T.some ⟨hy, hq⟩)
  refine T.jp (fun _ => True) (fun J1 k1 => T.br (fun _ => k1 _ trivial) fun _ => k1 _ trivial) fun b1 _ => T.br (fun _ => k _ hv) fun _ => ?_
  refine T.br (fun _ => T.jp (fun _ => True) (fun J1 k1 => T.br (fun _ => T.cal (ziQ _ _) fun _ _ _ => k1 _ trivial) fun _ => k1 _ trivial) fun b2 _ => k _ hv) fun _ => ?_
  refine T.jp (fun _ => True) (fun J1 k1 => T.br (fun _ => k1 _ trivial) fun _ => k1 _ trivial) fun b3 _ => T.br (fun _ => ?_) fun _ => ?_
  · refine T.jp (fun _ => True) (fun J1 k1 => T.br (fun _ => T.cal (ziQ _ _) fun _ _ _ => k1 _ trivial) fun _ => k1 _ trivial) fun b4 _ => ?_
    refine T.jp (fun _ => True) (fun J1 k1 => T.br (fun _ => T.jp (fun _ => True) (fun J2 k2 => T.br (fun _ => k2 _ trivial) fun _ => T.cal (zoh _ (by have := hv.1; omega)) fun _ _ _ => k2 _ trivial) fun b5 _ => k1 _ trivial) fun _ => k1 _ trivial) fun b6 _ => k _ hv
  · refine T.br (fun h3 => T.br (fun _ => ?_) fun _ => k _ hv) fun _ => k _ hv
    have h3 := zOT h3
    have r2 := r1 h3
    refine T.lp (ι := Bool × Int × Val) (fun q => 0 ≤ q.2.1 ∧ q.2.1 ≤ t.root ∧ DOk q.2.2) (fun q => (t.root - q.2.1).toNat) ⟨Int.le_refl _, r0, hv⟩ (by dsimp only; omega) fun L q ⟨q1, q2, q3⟩ hL => ?_
    obtain ⟨b, j, w⟩ := q
    dsimp only at q1 q2 q3 hL ⊢
    refine T.jp (fun b' => b' = true → j < t.root) (fun J1 k1 => T.br (fun h4 => k1 _ fun _ => zOT h4) fun _ => k1 _ fun h => by cases h) fun b' hb' => T.br (fun h5 => ?_) fun _ => k _ q3
    have h5 := hb' h5
    refine T.jp (ι := Bool × Val) (fun p => DOk p.2) (fun J2 k2 => T.get q1 (by omega) fun y _ => T.br (fun _ => T.get q1 (by omega) fun y2 _ => k2 _ ⟨Nat.zero_le _, rfl, rfl, zOT rfl, zOT rfl, rfl⟩) fun _ => k2 _ q3) fun p hp => T.ck (by omega) (hL _ ⟨by dsimp only; omega, by dsimp only; omega, hp⟩ (by dsimp only; omega))
theorem zi8 {x : GMk} {i : Nat} (hi : i < x.l.length) : T (fun r => r.2 = x) (zcD x (i : Int)) := by
  unfold zcD
  have hti : (i : Int).toNat = i := Int.toNat_natCast i
  refine T.asd ⟨by omega, by omega⟩ ?_
  rw [hti]
  exact T.eq (List.getElem?_eq_getElem hi) (T.br (fun _ => T.some rfl) fun _ => T.some rfl)
theorem zmH (tags : List Tag) (n mode : Int) (hl : tags.length ≤ 1000000) : T (fun r => r.2 = 0 → r.1 ≠ [] ∧ r.1.length ≤ tags.length + 1) (zgr tags n mode) := by
  unfold zgr
  refine T.jp (fun _ => True) (fun J k => T.br (fun _ => k _ trivial) fun _ => k _ trivial) fun b1 _ => ?_
  refine T.jp (fun b => b = false → (mode = 1 → 0 < tags.length)) (fun J k => T.br (fun _ => k _ fun h => by cases h) fun _ => ?_) fun b2 hb2 => T.br (fun _ => T.some fun h => by cases h) fun h2 => ?_
  · refine T.jp (fun b => b = false → (mode = 1 → 0 < tags.length)) (fun J2 k2 => T.br (fun _ => k2 _ fun h _ => ?_) fun h => k2 _ fun _ hm => absurd hm (zOF h)) fun b hb => k _ hb
    have := zOF h
    omega
  · have h2 := hb2 h2
    rw [tkl]
    refine T.br (fun h3 => T.asd ⟨by omega, by have := h2 (zOT h3); omega, Int.le_refl _⟩ (T.abl (by rw [List.length_drop, List.length_singleton]; omega) (T.some fun _ => ⟨by simp, by dsimp only; rw [List.length_append, List.length_drop, List.length_singleton]; omega⟩))) fun h3 => T.abl (by rw [List.length_singleton]; omega) (T.some fun _ => ⟨by simp, by dsimp only; rw [List.length_append, List.length_singleton]; omega⟩)
def Wp1 (x y : GMk) (i : Nat) : Prop := y.m = x.m ∧ y.l.length = x.l.length ∧ (y.e = 0 → x.e = 0 ∧ ∀ t, x.l[i]? = some t → ∃ tg : List Tag, y.l = x.l.set i { t with tags := tg } ∧ tg ≠ [] ∧ tg.length ≤ t.tags.length + 1)
theorem ziR {x : GMk} {i : Nat} {t : GTyp} (n mode : Int) (ht : x.e = 0 → x.l[i]? = some t ∧ t.tags.length ≤ 100000) : T (fun y => Wp1 x y i) (zcG x (i : Int) n mode) := by
  unfold zcG
  refine T.br (fun he => T.some ⟨rfl, rfl, fun h => absurd h (by simpa using he)⟩) fun he => ?_
  have he : x.e = 0 := by simpa using he
  obtain ⟨h1, h2⟩ := ht he
  have hlt := (List.getElem?_eq_some_iff.1 h1).1
  have hti : (i : Int).toNat = i := Int.toNat_natCast i
  refine T.asd ⟨by omega, by omega⟩ ?_
  rw [hti]
  refine T.eq h1 (T.cal (zmH _ _ _ (by omega)) fun r _ hr => T.br (fun hr2 => T.eq (fail10 _ _) (T.some ⟨zpI _ _, by rw [zpE], fun h => absurd h (zkY (by simpa using hr2))⟩)) fun hr2 => ?_)
  have hr2 : r.2 = 0 := by simpa using hr2
  obtain ⟨h3, h4⟩ := hr hr2
  refine T.asd ⟨by omega, by omega⟩ (T.eq h1 (T.some ⟨rfl, by dsimp only; rw [List.length_set], fun _ => ⟨he, fun t' ht' => ?_⟩⟩))
  rw [h1] at ht'; cases ht'
  exact ⟨r.1, rfl, h3, h4⟩
theorem TypOk.tag {t : GTyp} (h : TypOk t) {tg : List Tag} (h1 : tg ≠ []) (h2 : tg.length ≤ 100000) : TypOk { t with tags := tg } :=
  ⟨fun _ => h1, h2, h.root0, h.rootF, h.rootI, h.fields, h.items, h.ilen, h.nums, h.dflt, h.rootZ⟩
end Go.Proofs.Q


namespace Go.Proofs.Q
open Go.Sy
set_option linter.unusedVariables false

def Dn (m : GMod) (a : Int) (k j : Nat) : Prop := ∀ (p : Nat) (n : GNode), k ≤ p → p < j → m.nodes[p]? = some n → n.kind = 11 → 0 ≤ fnd m.names n.name ∧ Ed (gr m) a (fnd m.names n.name)
structure Env (m : GMod) (rk : Int → Nat) : Prop where
  wf : WF m
  rk40 : ∀ i, rk i ≤ 40
  ed : ∀ i j, Ed (gr m) i j → rk j < rk i
  root : ∀ b : Int, 0 ≤ b → b < m.names.length → ∃ c d : Nat, m.types[b.toNat]? = some (c : Int) ∧ Sub 17 m.nodes c d ∧ d ≤ m.nodes.length ∧ Dn m b c d
structure Gk (x y : GMk) : Prop where
  m : y.m = x.m
  le : x.l.length ≤ y.l.length
  lim : y.l.length ≤ 300
  e : y.e = 0 → x.e = 0
  pre : y.e = 0 → ∀ k, k < x.l.length → y.l[k]? = x.l[k]?
theorem Gk.refl {x : GMk} (h : x.l.length ≤ 300) : Gk x x := ⟨rfl, Nat.le_refl _, h, fun e => e, fun _ _ _ => rfl⟩
theorem Gk.sm {x y : GMk} (h : Sm x y) (k : x.l.length ≤ 300) : Gk x y := ⟨h.m, by rw [h.l]; exact Nat.le_refl _, by rw [h.l]; exact k, h.e, fun _ _ _ => by rw [h.l]⟩
theorem Gk.trans {x y z : GMk} (h : Gk x y) (k : Gk y z) : Gk x z :=
  ⟨k.m.trans h.m, Nat.le_trans h.le k.le, k.lim, fun e => h.e (k.e e), fun e p hp => (k.pre e p (Nat.lt_of_lt_of_le hp h.le)).trans (h.pre (k.e e) p hp)⟩
theorem Gk.wp {x y : GMk} {i : Nat} (h : Wp1 x y i) (hl : x.l.length ≤ 300) (hi : i < x.l.length) : y.m = x.m ∧ y.l.length = x.l.length := ⟨h.1, h.2.1⟩

theorem Kids.subs {h : Nat} {l : List GNode} {k : Int} {r : List Int} {a b : Nat} (hk : Kids (Sub h l) r a b) (hm : k ∈ r) : ∃ (c d : Nat), k = (c : Int) ∧ Sub h l c d ∧ a ≤ c ∧ d ≤ b := Kids.mem3 (fun x y h => Nat.le_of_lt h.lt) hk hm
theorem Dn.part {m : GMod} {a : Int} {k j c d : Nat} (h : Dn m a k j) (h1 : k ≤ c) (h2 : d ≤ j) : Dn m a c d := fun p n hp hq => h p n (by omega) (by omega)

end Go.Proofs.Q


namespace Go.Proofs.Q
open Go.Sy
set_option linter.unusedVariables false

theorem znP {U V N p q c : Nat} (h : U + (c + 1) ≤ V) (h2 : V + p ≤ N) (hp : 0 < p) (hq : q ≤ c) : U + q ≤ N - 1 := by omega
theorem znV (c : Nat) {u v N p q : Nat} (h : u < v) (h2 : v * (c + 1) + p ≤ N) (hp : 0 < p) (hq : q ≤ c) : u * (c + 1) + q ≤ N - 1 := by
  have h3 := Nat.mul_le_mul_right (c + 1) (Nat.succ_le_of_lt h)
  rw [Nat.succ_mul] at h3
  exact znP h3 h2 hp hq
theorem zoE {u v N p q : Nat} (h : u < v) (h2 : v * 301 + p ≤ N) (hp : 0 < p) (hq : q ≤ 300) : u * 301 + q ≤ N - 1 := znV 300 h h2 hp hq
structure New (n : GNode) (t : GTyp) : Prop where
  kind : t.kind = n.kind
  root : t.root = n.root
  items : t.items = []
  fields : t.fields = []
  tags : t.kind ≠ 9 → t.tags ≠ []
  tlen : t.tags.length ≤ 1
theorem New.ok {n : GNode} {t : GTyp} (h : New n t) (hn : NodeOk n) (h3 : n.kind ≠ 3) (h7 : n.kind ≠ 7) (h8 : n.kind ≠ 8) (h9 : n.kind ≠ 9) (o : Int) : TypOk { t with of := o } := by
  have hk := h.kind
  exact ⟨h.tags, by have := h.tlen; show t.tags.length ≤ _; omega, by rw [h.root]; exact hn.root0, fun e => by rcases e with e | e | e <;> (rw [hk] at e; contradiction), fun e => by rw [hk] at e; contradiction, fun _ => h.fields, fun _ => h.items, by show t.items.length ≤ _; rw [h.items]; decide, fun it hit => (by dsimp only at hit; rw [h.items] at hit; cases hit), fun f hf => (by dsimp only at hf; rw [h.fields] at hf; cases hf), fun _ _ => (by dsimp only; rw [h.root]; exact hn.rootZ h3 (by omega))⟩
theorem zgK {α : Type} (l : List α) (t : α) : (l ++ [t])[l.length]? = some t := by rw [List.getElem?_append_right (Nat.le_refl _), Nat.sub_self]; rfl
end Go.Proofs.Q


namespace Go.Proofs.Q
open Go.Sy
set_option linter.unusedVariables false

theorem Kids.find {S : Nat → Nat → Prop} {p : Nat} : ∀ {r : List Int} {a b : Nat}, Kids S r a b → a ≤ p → p < b → ∃ (k : Int) (c d : Nat), k ∈ r ∧ k = (c : Int) ∧ S c d ∧ c ≤ p ∧ p < d := by
  intro r
  induction r with
  | nil => intro a b h h1 h2; cases h; omega
  | cons x r ih =>
    intro a b ⟨c, h0, h1, h2⟩ ha hb
    rcases Nat.lt_or_ge p c with h | h
    · exact ⟨x, a, c, List.mem_cons_self, h0, h1, ha, h⟩
    · obtain ⟨k, c', d', k1, k2, k3, k4, k5⟩ := ih h2 h hb
      exact ⟨k, c', d', List.mem_cons_of_mem _ k1, k2, k3, k4, k5⟩
theorem zoA : ∀ {h : Nat} {l : List GNode} {c d p : Nat} {n : GNode}, Sub h l c d → c ≤ p → p < d → l[p]? = some n → n.kind = 11 → n.name ∈ nmx l h (c : Int) := by
  intro h
  induction h with
  | zero => intro l c d p n hs; exact hs.elim
  | succ h ih =>
    intro l c d p n ⟨n0, h1, h2⟩ hc hd hn hk
    rw [ziv h1]
    rcases Nat.eq_or_lt_of_le hc with e | e
    · subst e
      rw [h1] at hn; cases hn
      rw [if_pos hk]; exact List.mem_singleton.2 rfl
    · by_cases h0 : n0.kind = 11
      · have : kidsOf n0 = [] := by unfold kidsOf; rw [if_pos h0]
        rw [this] at h2
        cases h2
        omega
      · rw [if_neg h0]
        obtain ⟨k, c', d', k1, k2, k3, k4, k5⟩ := Kids.find h2 e hd
        refine List.mem_flatMap.2 ⟨k, k1, ?_⟩
        rw [k2]
        exact ih k3 k4 k5 hn hk
theorem zoX {m : GMod} (h : (wr m).2 = 0) : first (zhN m) m.names.length 0 = none := by
  unfold wr at h
  split at h
  · cases h
  · split at h
    · cases h
    · assumption
theorem znd {m : GMod} (h : (wr m).2 = 0) : first (twice m) m.names.length 0 = none := by
  unfold wr at h
  split at h
  · cases h
  · assumption
theorem zpj {m : GMod} (w : WF m) (h : (wr m).2 = 0) : ∃ rk : Int → Nat, Env m rk := by
  obtain ⟨rk, r1, r2⟩ := ranks w h
  have hn := w.names
  have ht := w.types
  refine ⟨rk, w, fun i => Nat.le_trans (r1 i) hn, r2, fun b b0 b1 => ?_⟩
  obtain ⟨t, hbt⟩ : ∃ t, m.types[b.toNat]? = some t := ⟨_, List.getElem?_eq_getElem (by omega)⟩
  obtain ⟨c, d, e1, e2, e3, e4⟩ := Kids.subs w.forest (List.mem_of_getElem? hbt)
  subst e1
  refine ⟨c, d, hbt, e2, e4, fun p n hp hq hpn hk => ?_⟩
  have hmem : n.name ∈ nms m (c : Int) := zoA e2 hp hq hpn hk
  have hno := zf8 (zoX h) b b0 (by omega)
  unfold zhN at hno
  rw [hbt] at hno
  have hno : lost m (c : Int) = false := hno
  unfold lost at hno
  have h1 := List.any_eq_false.1 hno _ hmem
  have h2 : 0 ≤ fnd m.names n.name := by
    refine Classical.byContradiction fun hc => h1 (zDT (by omega))
  refine ⟨h2, b0, uses m (c : Int), by unfold gr; rw [List.getElem?_map, hbt]; rfl, ?_⟩
  unfold uses
  refine zkK.2 (.inr (List.mem_filterMap.2 ⟨_, hmem, ?_⟩))
  unfold idx
  rw [if_neg (by omega)]
theorem SubT.sub : ∀ {h : Nat} {l : List GTyp} {r : List Int} {a b : Nat}, Kids (SubT h l) r a b → ∀ i, a ≤ i → i < b → ∃ j, SubT h l i j := by
  intro h
  induction h with
  | zero =>
    intro l r a b hk i h1 h2
    cases r with
    | nil => cases hk; omega
    | cons k r => obtain ⟨c, _, h, _⟩ := hk; exact h.elim
  | succ h ih =>
    intro l r a b hk i h1 h2
    obtain ⟨k, c, d, _, _, k3, k4, k5⟩ := Kids.find hk h1 h2
    rcases Nat.eq_or_lt_of_le k4 with e | e
    · subst e; exact ⟨d, k3⟩
    · obtain ⟨t, _, _, h3⟩ := k3
      obtain ⟨j, hj⟩ := ih h3 i e k5
      exact ⟨j, hj.up⟩
structure TabOk (t : GTab) : Prop where
  names : t.names.length ≤ 40
  roots : t.roots.length = t.names.length
  types : t.types.length ≤ 300
  kids : Kids (SubT 17 t.types) t.roots 0 t.types.length
  fnds : ∀ (p : Nat) (s : Str), t.names[p]? = some s → fnd t.names s = (p : Int)
theorem TabOk.empty (s : Str) : TabOk (GTab.mk s [] [] []) := ⟨Nat.zero_le _, rfl, Nat.zero_le _, rfl, fun p s h => by simp at h⟩
end Go.Proofs.Q


namespace Go.Proofs.Q
open Go.Sy
set_option linter.unusedVariables false

theorem zlS {α : Type} {p q : α → Bool} : ∀ {l : List α}, (∀ x ∈ l, p x = q x) → l.any p = l.any q
  | [], _ => rfl
  | a :: r, h => by rw [List.any_cons, List.any_cons, h a (List.mem_cons_self ..), zlS fun x hx => h x (List.mem_cons_of_mem _ hx)]
theorem zjW {α β : Type} {p q : α → List β} : ∀ {l : List α}, (∀ x ∈ l, p x = q x) → l.flatMap p = l.flatMap q
  | [], _ => rfl
  | a :: r, h => by rw [List.flatMap_cons, List.flatMap_cons, h a (List.mem_cons_self ..), zjW fun x hx => h x (List.mem_cons_of_mem _ hx)]
theorem zmf : ∀ {h : Nat} {l l' : List GTyp} {i j : Nat}, (∀ k, i ≤ k → k < j → l'[k]? = l[k]?) → SubT h l i j → bgs h l' (i : Int) = bgs h l (i : Int) ∧ wld h l' (i : Int) = wld h l (i : Int)
  | 0, _, _, _, _, _, hs => hs.elim
  | h + 1, l, l', i, j, hl, hs => by
    have hlt := hs.lt
    obtain ⟨t, e, _, hk⟩ := hs
    have e' : l'[i]? = some t := (hl i (Nat.le_refl _) hlt).trans e
    have hf : ∀ f ∈ t.fields, bgs h l' f.ty = bgs h l f.ty ∧ wld h l' f.ty = wld h l f.ty := fun f hf => by
      obtain ⟨c, d, h1, h2, h3, h4⟩ := Kids.mem3 SubT.le' hk (zhO f hf)
      rw [h1]; exact zmf (fun k k1 k2 => hl k (by omega) (by omega)) h2
    rw [zhd e, zhd e', zj0 e, zj0 e', zjW fun f h => (hf f h).1, zlS fun f h => (hf f h).2]
    exact ⟨rfl, rfl⟩
theorem zoC {h : Nat} {l l' : List GTyp} {fs : List GFld} {o : Bool} {a b : Nat} (hk : Kids (SubT h l) (fs.map fun f => f.ty) a b) (hl : ∀ k, a ≤ k → k < b → l'[k]? = l[k]?) : tld h l' fs o = tld h l fs o := by
  have hf : ∀ f ∈ fs, bgs h l' f.ty = bgs h l f.ty ∧ wld h l' f.ty = wld h l f.ty := fun f hf => by
    obtain ⟨c, d, h1, h2, h3, h4⟩ := Kids.mem3 SubT.le' hk (List.mem_map.2 ⟨f, hf, rfl⟩)
    rw [h1]; exact zmf (fun k k1 k2 => hl k (by omega) (by omega)) h2
  unfold tld
  rw [zjW fun f h => (hf f h).1, zlS (l := fs) (p := fun f => wld h l' f.ty && (o || decide (1 < fs.length))) (q := fun f => wld h l f.ty && (o || decide (1 < fs.length))) fun f h => by rw [(hf f h).2]]
def ApP (l : List GTyp) (p b : Nat) (t : GTyp) : Prop := ∃ c h, c ≤ b ∧ h ≤ 17 ∧ Kids (SubT h l) (t.fields.map fun f => f.ty) (p + 1) c ∧ (t.kind ≠ 7 → tld h l t.fields t.more = true) ∧ (t.items.map fun q => q.number).Nodup ∧ (t.kind = 9 → t.fields ≠ [] ∨ t.more = true)
def ApR (l : List GTyp) (a b : Nat) : Prop := ∀ (p : Nat) t, a ≤ p → p < b → l[p]? = some t → ApP l p b t
theorem ApP.up {l : List GTyp} {p b b' : Nat} {t : GTyp} (h : ApP l p b t) (k : b ≤ b') : ApP l p b' t := by
  obtain ⟨c, d, h1, h2⟩ := h
  exact ⟨c, d, Nat.le_trans h1 k, h2⟩
theorem ApP.loc {l l' : List GTyp} {p b : Nat} {t t' : GTyp} (h : ApP l p b t) (hl : ∀ k, p + 1 ≤ k → k < b → l'[k]? = l[k]?) (hf : t'.fields = t.fields) (hk : t'.kind = t.kind) (hm : t'.more = t.more) (hi : t'.items = t.items) : ApP l' p b t' := by
  obtain ⟨c, d, h1, h2, h3, h4, h5, h6⟩ := h
  refine ⟨c, d, h1, h2, ?_, ?_, by rw [hi]; exact h5, by rw [hf, hk, hm]; exact h6⟩
  · rw [hf]; exact KidsT.monoL (fun k k1 k2 => hl k k1 (by omega)) h3
  · rw [hf, hk, hm]
    intro h7
    rw [zoC h3 fun k k1 k2 => hl k k1 (by omega)]
    exact h4 h7
theorem ApP.leaf {l : List GTyp} {p b : Nat} {t : GTyp} (hb : p + 1 ≤ b) (hf : t.fields = []) (h9 : t.kind ≠ 9) (hi : (t.items.map fun q => q.number).Nodup) : ApP l p b t := by
  refine ⟨p + 1, 0, hb, Nat.zero_le _, ?_, ?_, hi, fun h => absurd h h9⟩
  · rw [hf]; rfl
  · rw [hf]; intro _; rfl
theorem ApR.nil {l : List GTyp} {a : Nat} : ApR l a a := fun p t h1 h2 => by omega
theorem ApR.mono {l l' : List GTyp} {a b : Nat} (hl : ∀ k, a ≤ k → k < b → l'[k]? = l[k]?) (h : ApR l a b) : ApR l' a b := fun p t h1 h2 e => by
  rw [hl p h1 h2] at e
  exact (h p t h1 h2 e).loc (fun k k1 k2 => hl k (by omega) k2) rfl rfl rfl rfl
theorem ApR.app {l : List GTyp} {a b c : Nat} (h : ApR l a b) (k : ApR l b c) (hbc : b ≤ c) : ApR l a c := fun p t h1 h2 e => by
  rcases Nat.lt_or_ge p b with hp | hp
  · exact (h p t h1 hp e).up hbc
  · exact k p t hp h2 e
theorem ApR.cons {l : List GTyp} {i j : Nat} {t : GTyp} (e : l[i]? = some t) (h : ApP l i j t) (k : ApR l (i + 1) j) : ApR l i j := fun p u h1 h2 e2 => by
  rcases Nat.eq_or_lt_of_le h1 with hp | hp
  · subst hp; rw [e] at e2; cases e2; exact h
  · exact k p u hp h2 e2
theorem ApR.set {l l' : List GTyp} {i j : Nat} {t t' : GTyp} (h : ApR l i j) (hij : i < j) (hl : ∀ k, i + 1 ≤ k → k < j → l'[k]? = l[k]?) (e : l[i]? = some t) (e' : l'[i]? = some t') (hf : t'.fields = t.fields) (hk : t'.kind = t.kind) (hm : t'.more = t.more) (hi : t'.items = t.items) : ApR l' i j :=
  ApR.cons e' ((h i t (Nat.le_refl _) hij e).loc hl hf hk hm hi) (ApR.mono hl fun p u h1 h2 e2 => h p u (by omega) h2 e2)
theorem zoI {h a b : Nat} {x : GMk} {t : GTyp} (hk : Kids (SubT h x.l) (t.fields.map fun f => f.ty) a b) (hh : h ≤ 1000) (hl : x.l.length ≤ 1000) (hb : b ≤ x.l.length) (r0 : 0 ≤ t.root) (r1 : t.kind = 7 → t.root ≤ t.fields.length) : T (fun r => r.2 = x ∧ (r.1 = true → t.kind ≠ 7 → tld h x.l t.fields t.more = true)) (zb4 x t) := by
  by_cases h7 : t.kind = 7
  · exact (zmS hk hh hl hb r0 r1).mono fun r hr => ⟨hr, fun _ h => absurd h7 h⟩
  · unfold zb4
    exact T.brT (by rw [zDF h7]; rfl) (T.eq (zj7 hk hh hl hb) (T.some ⟨rfl, fun h _ => h⟩))
theorem zlm (x : GMk) (n : GNode) (ok : NodeOk n) (hk : n.root ≤ n.items.length) : T (fun r => r.2.m = x.m ∧ r.2.l = x.l ∧ (r.2.e = 0 → x.e = 0 ∧ r.1.length = n.items.length ∧ (∀ it ∈ r.1, I64 it.number) ∧ (r.1.map fun q => q.number).Nodup)) (zc3 x n) := by
  unfold zc3
  have hr0 := ok.root0
  have hil := ok.ilen
  have htk : (n.items.take n.root.toNat).drop (0 : Int).toNat = n.items.take n.root.toNat := rfl
  refine T.lp (ι := (List GItem) × Int × Int) (fun q => 0 ≤ q.2.2 ∧ q.2.2 ≤ n.root ∧ (q.1.length : Int) = q.2.2 ∧ 0 ≤ q.2.1 ∧ q.2.1 + (cntGe (n.items.take n.root.toNat) q.2.1 : Int) ≤ q.2.2 + n.root ∧ ∀ it ∈ q.1, I64 it.number) (fun q => (n.root - q.2.2).toNat)
    ⟨Int.le_refl _, hr0, rfl, Int.le_refl _, by
      have := zkW (n.items.take n.root.toNat) 0
      rw [List.length_take] at this
      dsimp only; omega, by simp⟩ (by dsimp only; omega) fun L q ⟨h1, h2, h3, h4, h5, h6⟩ hL => ?_
  obtain ⟨out, next, i⟩ := q
  dsimp only at h1 h2 h3 h4 h5 h6 hL ⊢
  refine T.br (fun hb => ?_) fun hb => ?_
  · have hb := zOT hb
    refine T.get h1 (by omega) fun y hy => ?_
    have hyn : I64 y.number := ok.nums y (List.mem_of_getElem? hy)
    refine T.jp (ι := Int × GItem) (fun p => 0 ≤ p.1 ∧ p.1 + (cntGe (n.items.take n.root.toNat) p.1 : Int) ≤ i + 1 + n.root ∧ I64 p.2.number) (fun J h => T.br (fun _ => ?_) fun _ => h _ ⟨h4, by dsimp only; omega, hyn⟩) fun p ⟨p1, p2, p3⟩ => ?_
    · refine T.lp (fun (v : Int) => 0 ≤ v ∧ v + (cntGe (n.items.take n.root.toNat) v : Int) ≤ i + n.root) (fun (v : Int) => cntGe (n.items.take n.root.toNat) v) ⟨h4, h5⟩ (by have := zkW (n.items.take n.root.toNat) next; rw [List.length_take] at this; omega) fun L2 v ⟨v1, v2⟩ hL2 => ?_
      refine T.asd ⟨Int.le_refl _, hr0, hk⟩ ?_
      rw [htk]
      refine T.eq (znk _ v (by rw [List.length_take]; omega)) (T.br (fun ht => T.ck (by omega) (hL2 _ ⟨by omega, ?_⟩ ?_)) fun _ => T.ck (by omega) (h _ ⟨by dsimp only; omega, ?_, ?_⟩))
      · have := zil ht; omega
      · have := zil ht; omega
      · have := ziG (n.items.take n.root.toNat) v; dsimp only; omega
      · unfold I64; dsimp only; omega
    · refine T.abl (by simp only [List.length_singleton]; omega) (T.ck (by omega) (hL _ ⟨by dsimp only; omega, by dsimp only; omega, by dsimp only; rw [List.length_append, List.length_singleton]; omega, p1, p2, ?_⟩ (by dsimp only; omega)))
      intro it hit
      rcases List.mem_append.1 hit with h | h
      · exact h6 it h
      · rw [List.mem_singleton.1 h]; exact p3
  · have hb := zOF hb
    refine T.lp (ι := (List GItem) × Int × Bool × Bool × Int) (fun q => n.root ≤ q.2.2.2.2 ∧ q.2.2.2.2 ≤ n.items.length ∧ (q.1.length : Int) = q.2.2.2.2 ∧ ∀ it ∈ q.1, I64 it.number) (fun q => ((n.items.length : Int) - q.2.2.2.2).toNat) ⟨Int.le_refl _, hk, by dsimp only; omega, h6⟩ (by dsimp only; omega) fun L2 q ⟨k1, k2, k3, k4⟩ hL2 => ?_
    obtain ⟨o, rise, some_, twice_, j⟩ := q
    dsimp only at k1 k2 k3 k4 hL2 ⊢
    refine T.br (fun hb2 => ?_) fun hb2 => ?_
    · have hb2 := zOT hb2
      refine T.get (by omega) hb2 fun y hy => ?_
      have hyn : I64 y.number := ok.nums y (List.mem_of_getElem? hy)
      refine T.jp (ι := GItem) (fun p => I64 p.number) (fun J h => T.br (fun _ => ?_) fun _ => h _ hyn) fun p hp => ?_
      · refine T.lp (ι := Int × GItem) (fun p => 0 ≤ p.1 ∧ p.1 ≤ o.length ∧ I64 p.2.number) (fun p => ((o.length : Int) - p.1).toNat) ⟨Int.le_refl _, by dsimp only; omega, by unfold I64; dsimp only; omega⟩ (by dsimp only; omega) fun L3 p ⟨p1, p2, p3⟩ hL3 => ?_
        obtain ⟨k, it⟩ := p
        dsimp only at p1 p2 p3 hL3 ⊢
        refine T.br (fun hb3 => ?_) fun _ => h _ p3
        have hb3 := zOT hb3
        refine T.jp (ι := GItem) (fun it => I64 it.number) (fun J2 h2 => T.get p1 hb3 fun z hz => T.br (fun _ => ?_) fun hne => ?_) fun it2 hit2 => T.ck (by omega) (hL3 _ ⟨by dsimp only; omega, by dsimp only; omega, hit2⟩ (by dsimp only; omega))
        · refine T.eq (zh2 _ _) (T.some ⟨?_, ?_, ?_⟩)
          · dsimp only; split <;> rfl
          · dsimp only; split <;> rfl
          · dsimp only
            split
            · intro h; cases h
            · rename_i hx; intro h; exact absurd h hx
        · have hz1 : I64 z.number := k4 z (List.mem_of_getElem? hz)
          have hne := zOF hne
          refine T.jp (fun _ => True) (fun J3 h3 => T.br (fun _ => h3 _ trivial) fun _ => T.get p1 hb3 fun _ _ => h3 _ trivial) fun q _ => T.br (fun _ => T.get p1 hb3 fun z2 hz2 => ?_) fun _ => h2 _ p3
          rw [hz] at hz2; cases hz2
          unfold I64 at hz1
          exact T.ck (by omega) (h2 _ (by unfold I64; dsimp only; omega))
      · refine T.jp (fun _ => True) (fun J h => T.br (fun _ => h _ trivial) fun _ => T.jp (fun _ => True) (fun J2 h2 => T.br (fun _ => h2 _ trivial) fun _ => h2 _ trivial) fun _ _ => h _ trivial) fun q _ => ?_
        refine T.abl (by simp only [List.length_singleton]; omega) (T.ck (by omega) (hL2 _ ⟨by dsimp only; omega, by dsimp only; omega, by dsimp only; rw [List.length_append, List.length_singleton]; omega, ?_⟩ (by dsimp only; omega)))
        intro it hit
        rcases List.mem_append.1 hit with h | h
        · exact k4 it h
        · rw [List.mem_singleton.1 h]; exact hp
    · have hb2 := zOF hb2
      refine T.lp (ι := Bool × Int) (fun q => 0 ≤ q.2 ∧ q.2 ≤ o.length ∧ (q.1 = false → ((o.take q.2.toNat).map fun q => q.number).Nodup)) (fun q => ((o.length : Int) - q.2).toNat) ⟨Int.le_refl _, by dsimp only; omega, fun _ => List.nodup_nil⟩ (by dsimp only; omega) fun L3 q ⟨p1, p2, p3⟩ hL3 => ?_
      obtain ⟨tw, k⟩ := q
      dsimp only at p1 p2 p3 hL3 ⊢
      refine T.br (fun hb3 => ?_) fun hb3 => ?_
      · have hb3 := zOT hb3
        have hk1 : (k + 1).toNat = k.toNat + 1 := by omega
        obtain ⟨y, hy⟩ : ∃ y, o[k.toNat]? = some y := ⟨_, List.getElem?_eq_getElem (by omega)⟩
        refine T.lp (ι := Bool × Int) (fun q => 0 ≤ q.2 ∧ q.2 ≤ k ∧ (q.1 = false → tw = false ∧ ∀ z ∈ o.take q.2.toNat, z.number ≠ y.number)) (fun q => (k - q.2).toNat) ⟨Int.le_refl _, p1, fun h => ⟨h, fun z hz => by cases hz⟩⟩ (by dsimp only; omega) fun L4 q ⟨s1, s2, s3⟩ hL4 => ?_
        obtain ⟨tv, jj⟩ := q
        dsimp only at s1 s2 s3 hL4 ⊢
        refine T.br (fun hb4 => ?_) fun hb4 => T.ck (by omega) (hL3 _ ⟨by dsimp only; omega, by dsimp only; omega, fun ht => ?_⟩ (by dsimp only; omega))
        · have hb4 := zOT hb4
          obtain ⟨z, hz⟩ : ∃ z, o[jj.toNat]? = some z := ⟨_, List.getElem?_eq_getElem (by omega)⟩
          have hj1 : (jj + 1).toNat = jj.toNat + 1 := by omega
          refine T.jp (fun b => b = false → tv = false) (fun J h => T.br (fun _ => h _ fun e => by cases e) fun e => T.get s1 (by omega) fun _ _ => T.get p1 hb3 fun _ _ => h _ fun _ => e) fun q2 hq2 => T.jp (fun b => b = false → q2 = false ∧ z.number ≠ y.number) (fun J h => T.br (fun _ => h _ fun e => by cases e) fun e => T.get s1 (by omega) fun z' hz' => T.get p1 hb3 fun y' hy' => h _ fun e2 => ⟨e, by rw [hz] at hz'; rw [hy] at hy'; cases hz'; cases hy'; exact zOF e2⟩) fun q3 hq3 => T.ck (by omega) (hL4 _ ⟨by dsimp only; omega, by dsimp only; omega, fun e => ?_⟩ (by dsimp only; omega))
          obtain ⟨g1, g2⟩ := hq3 e
          obtain ⟨g3, g4⟩ := s3 (hq2 g1)
          refine ⟨g3, fun w hw => ?_⟩
          dsimp only at hw
          rw [hj1, List.take_add_one, hz] at hw
          rcases List.mem_append.1 hw with hw | hw
          · exact g4 w hw
          · rw [List.mem_singleton.1 hw]; exact g2
        · have hb4 := zOF hb4
          obtain ⟨g1, g2⟩ := s3 ht
          have hjk : jj = k := by omega
          subst hjk
          dsimp only
          rw [hk1, List.take_add_one, hy, List.map_append]
          refine List.nodup_append.2 ⟨p3 g1, List.nodup_cons.2 ⟨List.not_mem_nil, List.nodup_nil⟩, fun u hu v hv e => ?_⟩
          obtain ⟨w, hw, rfl⟩ := List.mem_map.1 hu
          have hv : v = y.number := List.mem_singleton.1 hv
          exact g2 w hw (e.trans hv)
      · have hb3 := zOF hb3
        have hke : k.toNat = o.length := by omega
        rw [hke, List.take_length] at p3
        refine T.jp (ι := GMk) (fun y => y.m = x.m ∧ y.l = x.l ∧ (y.e = 0 → x.e = 0 ∧ tw = false)) (fun J h => T.br (fun ht => T.eq (zh2 _ _) (h _ ?_)) fun ht => h _ ⟨rfl, rfl, fun h => ⟨h, ht⟩⟩) fun y hy => T.some ⟨hy.1, hy.2.1, fun e => ⟨(hy.2.2 e).1, by dsimp only; omega, k4, p3 (hy.2.2 e).2⟩⟩
        refine ⟨by split <;> rfl, by split <;> rfl, ?_⟩
        split
        · intro h; cases h
        · rename_i hx; intro h; exact absurd h hx
end Go.Proofs.Q


namespace Go.Proofs.Q
open Go.Sy
set_option linter.unusedVariables false

def NodeA (m : GMod) (rk : Int → Nat) (f : GMk → Int → Int → Option (Int × GMk)) (N : Nat) : Prop :=
  ∀ (x : GMk) (k j h : Nat) (a d : Int), x.m = m → x.l.length ≤ 300 → Sub h m.nodes k j → j ≤ m.nodes.length → Dn m a k j → rk a * 301 + (j - k) ≤ N → 0 ≤ d → d ≤ 17 →
  T (fun r => Gk x r.2 ∧ (r.2.e = 0 → r.1 = (x.l.length : Int) ∧ (SubT (17 - d).toNat r.2.l x.l.length r.2.l.length ∧ ApR r.2.l x.l.length r.2.l.length) ∧ ∃ t, r.2.l[x.l.length]? = some t ∧ t.tags.length ≤ N + 1)) (f x (k : Int) d)
def MadeA (m : GMod) (rk : Int → Nat) (f : GMk → GNode → Int → Option (Int × GMk)) (N : Nat) : Prop :=
  ∀ (x : GMk) (n : GNode) (k j h : Nat) (a d : Int), x.m = m → x.l.length ≤ 300 → m.nodes[k]? = some n → n.kind ≠ 11 → Sub h m.nodes k j → j ≤ m.nodes.length → Dn m a k j → rk a * 301 + (j - k) ≤ N → 0 ≤ d → d ≤ 17 →
  T (fun r => Gk x r.2 ∧ (r.2.e = 0 → r.1 = (x.l.length : Int) ∧ (SubT (17 - d).toNat r.2.l x.l.length r.2.l.length ∧ ApR r.2.l x.l.length r.2.l.length) ∧ ∃ t, r.2.l[x.l.length]? = some t ∧ t.tags.length ≤ 1)) (f x n d)
def FieldsA (m : GMod) (rk : Int → Nat) (f : GMk → Int → GNode → Int → Option GMk) (N : Nat) : Prop :=
  ∀ (x : GMk) (n : GNode) (k j h : Nat) (a d : Int) (l0 : List GTyp) (t : GTyp), x.m = m → x.l = l0 ++ [t] → x.l.length ≤ 300 → m.nodes[k]? = some n → Kids (Sub h m.nodes) (n.fields.map fun f => f.ty) (k + 1) j → j ≤ m.nodes.length → Dn m a k j → rk a * 301 + (j - k) ≤ N → 0 ≤ d → d ≤ 16 →
    (n.kind = 7 ∨ n.kind = 8 ∨ n.kind = 9) → t.kind = n.kind → t.root = n.root → t.items = [] → t.more = n.more →
  T (fun y => y.m = m ∧ x.l.length ≤ y.l.length ∧ y.l.length ≤ 300 ∧ (y.e = 0 → x.e = 0 ∧ (∀ p, p < l0.length → y.l[p]? = x.l[p]?) ∧ ∃ fs, y.l[l0.length]? = some { t with fields := fs } ∧ fs.length = n.fields.length ∧ Kids (SubT (16 - d).toNat y.l) (fs.map fun f => f.ty) x.l.length y.l.length ∧ ∀ f ∈ fs, DOk f.dflt) ∧ (y.e = 0 → ApR y.l l0.length y.l.length)) (f x (l0.length : Int) n d)

def ChM (n : GNode) (y : GMk) : Prop := y.e = 0 → n.kind = 9 → n.fields ≠ [] ∨ n.more = true
def IvA (n : GNode) (a : Nat) (y : GMk) : Prop := y.e = 0 → ApR y.l a y.l.length ∧ (n.kind = 9 → n.fields ≠ [] ∨ n.more = true)
set_option maxHeartbeats 1000000 in
theorem zho {m : GMod} {rk : Int → Nat} {Fs Nd Md} {N : Nat} (E : Env m rk) (hN : N ≤ 50000) (hnd : ∀ N', N' + 1 = N → NodeA m rk Nd N') : FieldsA m rk (zce Fs Nd Md) N := by
  intro x n k j h a d l0 t hm hxl hx3 hk hkid hj hdn hN2 hd0 hd hkind htk htr hti0 hmo
  unfold zce
  have hok := E.wf.ok n (List.mem_of_getElem? hk)
  have hkl := Kids.length hkid
  have hnl := E.wf.nodes
  rw [List.length_map] at hkl
  have hxlen : x.l.length = l0.length + 1 := by rw [hxl, List.length_append, List.length_singleton]
  have hsub : ∀ f ∈ n.fields, ∃ c d : Nat, f.ty = (c : Int) ∧ Sub h m.nodes c d ∧ k + 1 ≤ c ∧ d ≤ j := fun f hf => by
    obtain ⟨c, d, h1, h2, h3, h4⟩ := Kids.subs hkid (List.mem_map.2 ⟨f, hf, rfl⟩)
    exact ⟨c, d, h1, h2, h3, h4⟩
  refine T.lp (ι := Bool × Int) (fun q => 0 ≤ q.2 ∧ q.2 ≤ n.fields.length) (fun q => ((n.fields.length : Int) - q.2).toNat) ⟨Int.le_refl _, by dsimp only; omega⟩ (by dsimp only; omega) fun L q ⟨q1, q2⟩ hL => ?_
  obtain ⟨mk, i⟩ := q
  dsimp only at q1 q2 hL ⊢
  refine T.br (fun hb => ?_) fun hb => ?_
  · have hb := zOT hb
    refine T.get q1 hb fun f hf => ?_
    obtain ⟨c, dd, h1, h2, h3, h4⟩ := hsub f (List.mem_of_getElem? hf)
    have := h2.lt
    refine T.jp (fun _ => True) (fun J kk => T.br (fun _ => kk _ trivial) fun _ => T.get (by omega) (by rw [hm]; omega) fun _ _ => kk _ trivial) fun b _ => T.ck (by omega) (hL _ ⟨by dsimp only; omega, by dsimp only; omega⟩ (by dsimp only; omega))
  refine T.jp (fun b => b = false → n.kind = 9 → n.fields ≠ []) (fun J kk => T.br (fun _ => kk _ fun e _ h => (by rw [h] at e; cases e)) fun h => kk _ fun _ h9 => absurd h9 (zOF h)) fun b1 hb1 => T.jp (fun b => b = false → n.kind = 9 → n.fields ≠ [] ∨ n.more = true) (fun J kk => T.br (fun _ => kk _ fun e _ => .inr (by simpa using e)) fun h => kk _ fun _ h9 => .inl (hb1 h h9)) fun b2 hb2 => ?_
  refine T.jp (ι := GMk) (fun y => Sm x y ∧ ChM n y) (fun J kk => T.br (fun _ => T.eq (fail10 _ _) (kk _ ⟨Sm.fl (by decide), fun e => absurd e (zkY (by decide))⟩)) fun h => kk _ ⟨Sm.refl x, fun _ => hb2 h⟩) fun x1 ⟨hx1, hx1c⟩ => ?_
  -- the fields, one behind the other
  have hD : (17 - (d + 1)).toNat = (16 - d).toNat := by omega
  refine T.lp (ι := List GFld × Int × GMk) (fun q => 0 ≤ q.2.1 ∧ q.2.1 ≤ n.fields.length ∧ Gk x q.2.2 ∧ (q.1.length : Int) = q.2.1 ∧ (q.2.2.e = 0 → Kids (SubT (16 - d).toNat q.2.2.l) (q.1.map fun f => f.ty) x.l.length q.2.2.l.length ∧ ∀ f ∈ q.1, DOk f.dflt) ∧ IvA n x.l.length q.2.2) (fun q => ((n.fields.length : Int) - q.2.1).toNat)
    ⟨Int.le_refl _, by dsimp only; omega, Gk.sm hx1 hx3, rfl, fun _ => ⟨by dsimp only; rw [hx1.l]; rfl, by simp⟩, fun e => ⟨by dsimp only; rw [hx1.l]; exact ApR.nil, hx1c e⟩⟩ (by dsimp only; omega) fun L2 q ⟨p1, p2, p3, p4, p5, p6⟩ hL2 => ?_
  obtain ⟨out, i2, y⟩ := q
  dsimp only at p1 p2 p3 p4 p5 p6 hL2 ⊢
  refine T.jp (fun b => (b = true → i2 < n.fields.length) ∧ (b = false → y.e = 0 → ¬ i2 < n.fields.length)) (fun J kk => T.br (fun h1 => kk _ ⟨fun _ => zOT h1, fun h2 h3 => absurd h3 (zOF h2)⟩) fun h1 => kk _ ⟨(fun h => by cases h), fun _ _ => zOF h1⟩) fun b hb2 => T.br (fun hb3 => ?_) fun hb3 => ?_
  · have hb3 := hb2.1 hb3
    refine T.get p1 hb3 fun f hf => ?_
    obtain ⟨c, dd, h1, h2, h3, h4⟩ := hsub f (List.mem_of_getElem? hf)
    have hclt := h2.lt
    have hN1 : N - 1 + 1 < 100000 := by omega
    have hA : ∀ p : GFld, (out ++ [p]).length ≤ 100000 ∧ ((out ++ [p]).length : Int) = i2 + 1 := fun p => by rw [List.length_append, List.length_singleton]; omega
    have hA2 : 0 ≤ i2 + 1 ∧ i2 + 1 ≤ (n.fields.length : Int) ∧ i2 + 1 ≤ 100000 := by omega
    have hA4 : -9223372036854775808 ≤ i2 + 1 ∧ i2 + 1 ≤ 9223372036854775807 := by omega
    have hA3 : ((n.fields.length : Int) - (i2 + 1)).toNat < ((n.fields.length : Int) - i2).toNat := by omega
    have hfd : DOk f.dflt := hok.dflt f (List.mem_of_getElem? hf)
    refine T.lp (ι := Int × GMk) (fun p => 0 ≤ p.1 ∧ p.1 ≤ i2 ∧ Sm y p.2) (fun p => (i2 - p.1).toNat) ⟨Int.le_refl _, p1, Sm.refl y⟩ (by dsimp only; omega) fun L3 p ⟨s1, s2, s3⟩ hL3 => ?_
    obtain ⟨i3, y2⟩ := p
    dsimp only at s1 s2 s3 hL3 ⊢
    refine T.br (fun hb4 => ?_) fun hb4 => ?_
    · have hb4 := zOT hb4
      refine T.jp (ι := GMk) (fun z => Sm y z) (fun J kk => T.get s1 (by omega) fun g _ => T.br (fun _ => T.eq (fail10 _ _) (kk _ (s3.trans (Sm.fl (by decide))))) fun _ => kk _ s3) fun z hz => T.ck (by omega) (hL3 _ ⟨by dsimp only; omega, by dsimp only; omega, hz⟩ (by dsimp only; omega))
    refine T.ck (by omega) ?_
    rw [h1]
    have hy2l : y2.l.length = y.l.length := by rw [s3.l]
    have hlim := p3.lim
    refine T.cal (hnd (N - 1) (by omega) y2 c dd h a (d + 1) (s3.m.trans (p3.m.trans hm)) (by omega) h2 (by omega) (hdn.part (by omega) h4) (by omega) (by omega) (by omega)) fun r _ ⟨r1, r2⟩ => ?_
    have g1 : Gk x r.2 := p3.trans ((Gk.sm s3 hlim).trans r1)
    refine T.jp (fun b => b = true → r.2.e = 0) (fun J kk => T.br (fun h5 => kk _ fun _ => zOT h5) fun _ => kk _ fun h => by cases h) fun b5 hb5 => ?_
    -- the default
    refine T.jp (ι := GFld × GMk) (fun p => Sm r.2 p.2 ∧ p.1.ty = r.1 ∧ DOk p.1.dflt) (fun J kk => T.br (fun h6 => ?_) fun _ => kk _ ⟨Sm.refl _, rfl, hfd⟩) fun p ⟨u1, u2, u3⟩ => ?_
    · have h6 := hb5 h6
      obtain ⟨e1, ⟨e2, e2a⟩, t1, e3, e4⟩ := r2 h6
      rw [e1]
      have hto : TypOk t1 := by
        have : 0 < (17 - (d + 1)).toNat := by
          rcases Nat.eq_zero_or_pos (17 - (d + 1)).toNat with h | h
          · rw [h] at e2; exact e2.elim
          · exact h
        obtain ⟨D', hD'⟩ : ∃ D', (17 - (d + 1)).toNat = D' + 1 := ⟨_, (Nat.succ_pred_eq_of_pos this).symm⟩
        rw [hD'] at e2
        obtain ⟨t2, k1, k2, _⟩ := e2
        rw [e3] at k1; cases k1; exact k2
      exact T.cal (ziO f.dflt e3 hfd hto.root0 hto.rootI hto.ilen) fun s _ hs => kk _ ⟨hs.1, e1.symm, hs.2⟩
    refine T.jp (fun b => b = true → p.2.e = 0) (fun J kk => T.br (fun h5 => kk _ fun _ => zOT h5) fun _ => kk _ fun h => by cases h) fun b6 hb6 => ?_
    -- a tag of its own
    have hfin : ∀ z : GMk, z.m = r.2.m → z.l.length = r.2.l.length → (z.e = 0 → r.2.e = 0 ∧ ((z.l = r.2.l) ∨ ∃ t1 tg, r.2.l[y2.l.length]? = some t1 ∧ z.l = r.2.l.set y2.l.length { t1 with tags := tg } ∧ tg ≠ [] ∧ tg.length ≤ t1.tags.length + 1)) →
        Gk x z ∧ (z.e = 0 → Kids (SubT (16 - d).toNat z.l) ((out ++ [p.1]).map fun f => f.ty) x.l.length z.l.length ∧ ∀ f ∈ out ++ [p.1], DOk f.dflt) ∧ IvA n x.l.length z := by
      intro z z1 z2 z3
      have hpre : z.e = 0 → ∀ q, q < y2.l.length → z.l[q]? = r.2.l[q]? := fun ez q hq => by
        rcases (z3 ez).2 with h | ⟨t1, tg, _, h, _⟩
        · rw [h]
        · rw [h, List.getElem?_set_ne (by omega)]
      refine ⟨⟨z1.trans g1.m, by rw [z2]; exact g1.le, by rw [z2]; exact g1.lim, fun ez => g1.e (z3 ez).1, fun ez q hq => ?_⟩, fun ez => ?_, fun ez => ?_⟩
      · have := p3.le
        rw [hpre ez q (by omega)]
        exact g1.pre (z3 ez).1 q hq
      rotate_left
      · have er := (z3 ez).1
        obtain ⟨e1, ⟨e2, e2a⟩, t1, e3, e4⟩ := r2 er
        have ey : y.e = 0 := s3.e (r1.e er)
        have hle2 := r1.le
        have hlt2 := (List.getElem?_eq_some_iff.1 e3).1
        refine ⟨ApR.app (b := y2.l.length) (ApR.mono (fun q hq1 hq2 => ?_) (hy2l ▸ (p6 ey).1)) ?_ (by omega), (p6 ey).2⟩
        · rw [hpre ez q hq2, r1.pre er q hq2, s3.l]
        · rw [z2]
          rcases (z3 ez).2 with h | ⟨t2, tg, k3, h, k4, k5⟩
          · rw [h]; exact e2a
          · rw [h]
            rw [e3] at k3; cases k3
            exact ApR.set e2a hlt2 (fun q hq1 hq2 => List.getElem?_set_ne (by omega)) e3 (List.getElem?_set_self hlt2) rfl rfl rfl rfl
      · have er := (z3 ez).1
        obtain ⟨e1, ⟨e2, e2a⟩, t1, e3, e4⟩ := r2 er
        have ey : y.e = 0 := s3.e (r1.e er)
        obtain ⟨k1, k2⟩ := p5 ey
        rw [hD] at e2
        have e2z : SubT (16 - d).toNat z.l y2.l.length z.l.length := by
          rw [z2]
          rcases (z3 ez).2 with h | ⟨t2, tg, k3, h, k4, k5⟩
          · rw [h]; exact e2
          · rw [h]
            rw [e3] at k3; cases k3
            have hto : TypOk t1 := by
              cases hDz : (16 - d).toNat with
              | zero => rw [hDz] at e2; exact e2.elim
              | succ D' =>
                rw [hDz] at e2
                obtain ⟨t3, k6, k7, _⟩ := e2
                rw [e3] at k6; cases k6; exact k7
            exact e2.set e3 (hto.tag k4 (Nat.le_trans k5 (Nat.succ_le_of_lt (Nat.lt_of_le_of_lt e4 hN1)))) rfl
        rw [hy2l] at e2z
        refine ⟨?_, fun f' hf' => ?_⟩
        · rw [List.map_append, List.map_singleton, u2, e1, hy2l]
          refine Kids.snoc (KidsT.monoL (fun q hq1 hq2 => ?_) k1) e2z
          rw [hpre ez q (by omega), r1.pre er q (by omega), s3.l]
        · rcases List.mem_append.1 hf' with h | h
          · exact k2 f' h
          · rw [List.mem_singleton.1 h]; exact u3
    refine T.jp (ι := GMk) (fun z => Gk x z ∧ (z.e = 0 → Kids (SubT (16 - d).toNat z.l) ((out ++ [p.1]).map fun f => f.ty) x.l.length z.l.length ∧ ∀ f ∈ out ++ [p.1], DOk f.dflt) ∧ IvA n x.l.length z) (fun J kk => T.br (fun h6 => ?_) fun _ => kk _ (hfin p.2 u1.m (by rw [u1.l]) fun ez => ⟨u1.e ez, .inl u1.l⟩)) fun z ⟨v1, v2, v3⟩ => ?_
    · have h6 := hb6 h6
      have er := u1.e h6
      obtain ⟨e1, ⟨e2, e2a⟩, t1, e3, e4⟩ := r2 er
      have hlt := (List.getElem?_eq_some_iff.1 e3).1
      rw [u2, e1]
      refine T.cal (zi8 (x := p.2) (i := y2.l.length) (by rw [u1.l]; exact hlt)) fun s _ hs => ?_
      rw [hs]
      refine T.cal (ziR (t := t1) _ _ (fun _ => ⟨by rw [u1.l]; exact e3, by omega⟩)) fun z _ ⟨w1, w2, w3⟩ => kk _ (hfin z (w1.trans u1.m) (by rw [w2, u1.l]) fun ez => ⟨er, ?_⟩)
      obtain ⟨tg, k1, k2, k3⟩ := (w3 ez).2 t1 (by rw [u1.l]; exact e3)
      exact .inr ⟨t1, tg, e3, by rw [k1, u1.l], k2, k3⟩
    · exact T.abl (by have := (hA p.1).1; rw [List.length_append] at this; exact Nat.le_trans this (by decide)) (T.ck hA4 (hL2 _ ⟨hA2.1, hA2.2.1, v1, (hA _).2, v2, v3⟩ hA3))
  · -- all are there
    refine T.br (fun he => ?_) fun he => T.some ⟨p3.m.trans hm, p3.le, p3.lim, fun h => absurd h (zOF he), fun h => absurd h (zOF he)⟩
    have he := zOT he
    have hfin := hb2.2 hb3 he
    obtain ⟨k1, k2⟩ := p5 he
    have hti : ((l0.length : Nat) : Int).toNat = l0.length := Int.toNat_natCast _
    have hle := p3.le
    have hlim := p3.lim
    have hget : y.l[l0.length]? = some t := by
      rw [p3.pre he l0.length (by omega), hxl, List.getElem?_append_right (Nat.le_refl _), Nat.sub_self]; rfl
    have hget2 : (y.l.set l0.length { t with fields := out })[l0.length]? = some { t with fields := out } := List.getElem?_set_self (by omega)
    have hmono : ∀ q, l0.length + 1 ≤ q → (y.l.set l0.length { t with fields := out })[q]? = y.l[q]? := fun q hq => List.getElem?_set_ne (by omega)
    have hkids : Kids (SubT (16 - d).toNat (y.l.set l0.length { t with fields := out })) (out.map fun f => f.ty) x.l.length y.l.length := KidsT.monoL (fun q hq1 hq2 => hmono q (by omega)) k1
    refine T.asd ⟨by omega, by omega⟩ ?_
    rw [hti]
    refine T.eq hget (T.asd ⟨by omega, by rw [List.length_set]; omega⟩ (T.eq hget2 ?_))
    have hpost : ∀ z : GMk, Sm (GMk.mk y.m (y.l.set l0.length { t with fields := out }) y.e) z → (z.e = 0 → t.kind ≠ 7 → tld (16 - d).toNat (y.l.set l0.length { t with fields := out }) out t.more = true) → (z.m = m ∧ x.l.length ≤ z.l.length ∧ z.l.length ≤ 300 ∧ (z.e = 0 → x.e = 0 ∧ (∀ p, p < l0.length → z.l[p]? = x.l[p]?) ∧ ∃ fs, z.l[l0.length]? = some { t with fields := fs } ∧ fs.length = n.fields.length ∧ Kids (SubT (16 - d).toNat z.l) (fs.map fun f => f.ty) x.l.length z.l.length ∧ ∀ f ∈ fs, DOk f.dflt) ∧ (z.e = 0 → ApR z.l l0.length z.l.length)) := by
      intro z hz hA
      have zl := hz.l
      dsimp only at zl
      refine ⟨hz.m.trans (p3.m.trans hm), by rw [zl, List.length_set]; exact hle, by rw [zl, List.length_set]; exact hlim, fun ez => ⟨p3.e (hz.e ez), fun q hq => ?_, out, by rw [zl]; exact hget2, by omega, by rw [zl, List.length_set]; exact hkids, k2⟩, fun ez => ?_⟩
      rotate_left
      · rw [zl, List.length_set]
        refine ApR.cons hget2 ⟨y.l.length, (16 - d).toNat, Nat.le_refl _, by omega, hxlen ▸ hkids, hA ez, by dsimp only; rw [hti0]; exact List.nodup_nil, fun h9 => (by dsimp only at h9 ⊢; rw [htk] at h9; rcases (p6 he).2 h9 with h | h; exact .inl fun e => h (List.eq_nil_of_length_eq_zero (by rw [e] at p4; have p4 : ((0 : Nat) : Int) = i2 := p4; omega)); exact .inr (hmo.trans h))⟩ (ApR.mono (fun q hq1 hq2 => hmono q hq1) (hxlen ▸ (p6 he).1))
      rw [zl, List.getElem?_set_ne (by omega)]
      exact p3.pre he q (by omega)
    refine T.cal (zoI (h := (16 - d).toNat) (a := x.l.length) (b := y.l.length) (x := GMk.mk y.m (y.l.set l0.length { t with fields := out }) y.e) (t := { t with fields := out }) hkids (by omega) (by dsimp only; rw [List.length_set]; omega) (by dsimp only; rw [List.length_set]; exact Nat.le_refl _) (by dsimp only; rw [htr]; exact hok.root0) (fun h7 => by dsimp only; rw [htr]; have := hok.fields (by omega); omega)) fun r _ ⟨hr, hr2⟩ => ?_
    rw [hr]
    exact T.br (fun _ => T.eq (fail10 _ _) (T.some (hpost _ (Sm.fl (by decide)) fun e => absurd e (zkY (by decide))))) fun hb9 => T.some (hpost _ (Sm.refl _) fun _ => hr2 (by simpa using hb9))
end Go.Proofs.Q


namespace Go.Proofs.Q
open Go.Sy
set_option linter.unusedVariables false

theorem ziP {m : GMod} {rk : Int → Nat} {Fs Nd Md} {N : Nat} (E : Env m rk) (hN : N ≤ 50000) (hnd : ∀ N', N' + 1 = N → NodeA m rk Nd N') (hmd : MadeA m rk Md N) : NodeA m rk (zcI Fs Nd Md) N := by
  intro x k j h a d hm hx3 hs hj hdn hN2 hd0 hd
  unfold zcI
  have hlt := hs.lt
  obtain ⟨n, hn⟩ : ∃ n, m.nodes[k]? = some n := ⟨_, List.getElem?_eq_getElem (by omega)⟩
  refine T.br (fun hb => T.some ⟨Gk.refl hx3, fun e => absurd e (by simpa using hb)⟩) fun hb => ?_
  refine T.get (Int.natCast_nonneg _) (by rw [hm]; omega) fun n' hn' => ?_
  rw [hm, Int.toNat_natCast, hn] at hn'
  cases hn'
  have hN0 : 1 ≤ N := by omega
  refine T.jp (ι := Int × GMk) (fun r => Gk x r.2 ∧ (r.2.e = 0 → r.1 = (x.l.length : Int) ∧ (SubT (17 - d).toNat r.2.l x.l.length r.2.l.length ∧ ApR r.2.l x.l.length r.2.l.length) ∧ ∃ t, r.2.l[x.l.length]? = some t ∧ t.tags.length ≤ N)) (fun J kk => T.br (fun hk => ?_) fun hk => ?_) fun q ⟨q1, q2⟩ => ?_
  · have hk := zOT hk
    obtain ⟨f0, f1⟩ := hdn k n (Nat.le_refl _) hlt hn hk
    have hf2 : fnd m.names n.name < m.names.length := by
      rcases zhJ m.names n.name with h | h
      · omega
      · exact h.2.1
    obtain ⟨c, dd, c1, c2, c3, c4⟩ := E.root _ f0 (by omega)
    have hrk := E.ed _ _ f1
    have hwn := E.wf.nodes
    have hc := c2.lt
    have hNN : rk (fnd m.names n.name) * 301 + (dd - c) ≤ N - 1 := zoE hrk hN2 (Nat.sub_pos_of_lt hlt) (Nat.le_trans (Nat.sub_le _ _) (Nat.le_trans c3 hwn))
    refine T.eq (zkA x.m n.name (by rw [hm]; have := E.wf.names; omega)) (T.get (by rw [hm]; exact f0) (by rw [hm, E.wf.types]; omega) fun y hy => ?_)
    rw [hm, c1] at hy
    cases hy
    exact T.cal (hnd (N - 1) (by omega) x c dd 17 _ d hm hx3 c2 c3 c4 hNN hd0 hd) fun r _ ⟨r1, r2⟩ => kk _ ⟨r1, fun e => by
      obtain ⟨e1, e2, t, e3, e4⟩ := r2 e
      exact ⟨e1, e2, t, e3, Nat.le_trans e4 (by rw [Nat.sub_add_cancel hN0]; exact Nat.le_refl _)⟩⟩
  · have hk := zOF hk
    exact T.cal (hmd x n k j h a d hm hx3 hn hk hs hj hdn hN2 hd0 hd) fun r _ ⟨r1, r2⟩ => kk _ ⟨r1, fun e => by
      obtain ⟨e1, e2, t, e3, e4⟩ := r2 e
      exact ⟨e1, e2, t, e3, Nat.le_trans e4 hN0⟩⟩
  have hNb : N < 100000 := by omega
  refine T.jp (fun b => b = true → q.2.e = 0) (fun J kk => T.br (fun h5 => kk _ fun _ => zOT h5) fun _ => kk _ fun h => by cases h) fun b hb3 => ?_
  refine T.jp (ι := GMk) (fun z => Gk x z ∧ (z.e = 0 → q.1 = (x.l.length : Int) ∧ (SubT (17 - d).toNat z.l x.l.length z.l.length ∧ ApR z.l x.l.length z.l.length) ∧ ∃ t, z.l[x.l.length]? = some t ∧ t.tags.length ≤ N + 1)) (fun J kk => T.br (fun h6 => ?_) fun _ => kk _ ⟨q1, fun e => ?_⟩) fun z ⟨z1, z2⟩ => T.some ⟨z1, z2⟩
  · have h6 := hb3 h6
    obtain ⟨e1, ⟨e2, e2a⟩, t, e3, e4⟩ := q2 h6
    have hl1 := (List.getElem?_eq_some_iff.1 e3).1
    have hto : TypOk t := by
      cases hD : (17 - d).toNat with
      | zero => rw [hD] at e2; exact e2.elim
      | succ D' =>
        rw [hD] at e2
        obtain ⟨t3, k6, k7, _⟩ := e2
        rw [e3] at k6; cases k6; exact k7
    refine T.jp (ι := Int × GMk) (fun p => p.2 = q.2) (fun J2 k2 => T.br (fun _ => k2 _ rfl) fun _ => T.jp (fun _ => True) (fun J3 k3 => T.br (fun _ => k3 _ trivial) fun _ => k3 _ trivial) fun b4 _ => T.br (fun _ => ?_) fun _ => k2 _ rfl) fun p hp => ?_
    · rw [e1]
      exact T.cal (zi8 hl1) fun s _ hs => k2 _ hs
    · rw [hp, e1]
      refine T.cal (ziR (t := t) _ _ (fun _ => ⟨e3, Nat.le_of_lt (Nat.lt_of_le_of_lt e4 hNb)⟩)) fun z _ ⟨w1, w2, w3⟩ => kk _ ⟨⟨w1.trans q1.m, by rw [w2]; exact q1.le, by rw [w2]; exact q1.lim, fun ez => q1.e (w3 ez).1, fun ez p hp => ?_⟩, fun ez => ?_⟩
      · obtain ⟨tg, k1, k2, k3⟩ := (w3 ez).2 t e3
        rw [k1, List.getElem?_set_ne (Nat.ne_of_gt hp)]
        exact q1.pre h6 p hp
      · obtain ⟨tg, k1, k2, k3⟩ := (w3 ez).2 t e3
        rw [w2, k1]
        exact ⟨e1, ⟨e2.set e3 (hto.tag k2 (Nat.le_trans k3 (Nat.succ_le_of_lt (Nat.lt_of_le_of_lt e4 hNb)))) rfl, ApR.set e2a hl1 (fun q hq1 hq2 => List.getElem?_set_ne (by omega)) e3 (List.getElem?_set_self hl1) rfl rfl rfl rfl⟩, _, List.getElem?_set_self hl1, Nat.le_trans k3 (Nat.succ_le_succ e4)⟩
  · obtain ⟨e1, e2, t, e3, e4⟩ := q2 e
    exact ⟨e1, e2, t, e3, Nat.le_succ_of_le e4⟩
theorem ziA {m : GMod} {rk : Int → Nat} {Fs Nd Md} {N : Nat} (E : Env m rk) (hN : N ≤ 50000) (hnd : ∀ N', N' + 1 = N → NodeA m rk Nd N') (hfs : FieldsA m rk Fs N) : MadeA m rk (zcL Fs Nd Md) N := by
  intro x n k j h a d hm hx3 hn hk11 hs hj hdn hN2 hd0 hd
  unfold zcL
  have hlt := hs.lt
  have hok := E.wf.ok n (List.mem_of_getElem? hn)
  obtain ⟨h', rfl, hkid⟩ : ∃ h', h = h' + 1 ∧ Kids (Sub h' m.nodes) (kidsOf n) (k + 1) j := by
    cases h with
    | zero => exact hs.elim
    | succ h' =>
      obtain ⟨n', e1, e2⟩ := hs
      rw [hn] at e1; cases e1
      exact ⟨h', rfl, e2⟩
  refine T.jp (fun b => b = false → d ≤ 16 ∧ x.l.length < 300) (fun J kk => T.br (fun _ => kk _ fun h => by cases h) fun h1 => kk _ fun h2 => ?_) fun b hb => T.br (fun _ => T.eq (fail10 _ _) (T.some ⟨Gk.sm (Sm.fl (by decide)) hx3, fun e => absurd e (zkY (by decide))⟩)) fun hb1 => ?_
  · have h1 := zOF h1
    have h2 := zOF h2
    omega
  obtain ⟨hd16, hx300⟩ := hb hb1
  obtain ⟨D, hD, hD2⟩ : ∃ D, (17 - d).toNat = D + 1 ∧ (16 - d).toNat = D := ⟨(16 - d).toNat, by omega, rfl⟩
  refine T.jp (ι := GTyp) (fun t => New n t ∧ t.more = n.more) (fun J kk => T.br (fun _ => T.cal (zn0 _) fun u _ _ => kk _ ⟨⟨rfl, rfl, rfl, rfl, fun _ => by simp, by simp⟩, rfl⟩) fun h9 => kk _ ⟨⟨rfl, rfl, rfl, rfl, fun h => absurd (by simpa using h9) h, by simp⟩, rfl⟩) fun t ⟨ht, htm⟩ => ?_
  refine T.jp (ι := GMk) (fun y => y = GMk.mk x.m (x.l ++ [t]) x.e) (fun J kk => T.abl (by rw [List.length_singleton]; omega) (kk _ rfl)) fun y hy => ?_
  subst hy
  have hxl1 : (x.l ++ [t]).length = x.l.length + 1 := by rw [List.length_append, List.length_singleton]
  have hkind := ht.kind
  have g0 : ∀ y : GMk, Sm (GMk.mk x.m (x.l ++ [t]) x.e) y → Gk x y := fun y hy => ⟨hy.m, by rw [hy.l]; dsimp only; omega, by rw [hy.l]; dsimp only; omega, hy.e, fun _ q hq => by rw [hy.l]; exact List.getElem?_append_left hq⟩
  have hti : ((x.l.length : Nat) : Int).toNat = x.l.length := Int.toNat_natCast _
  have hleaf : n.kind ≠ 3 → n.kind ≠ 7 → n.kind ≠ 8 → n.kind ≠ 9 → n.kind ≠ 10 → ∀ y : GMk, Sm (GMk.mk x.m (x.l ++ [t]) x.e) y → (y.e = 0 → (SubT (17 - d).toNat y.l x.l.length y.l.length ∧ ApR y.l x.l.length y.l.length) ∧ ∃ t, y.l[x.l.length]? = some t ∧ t.tags.length ≤ 1) := fun h3 h7 h8 h9 h10 y hy _ => by
    have hl := hy.l
    dsimp only at hl
    rw [hl, hD, hxl1]
    refine ⟨⟨⟨t, zgK _ _, ht.ok hok h3 h7 h8 h9 t.of, ?_⟩, ApR.cons (zgK _ _) (ApP.leaf (Nat.le_refl _) ht.fields (by rw [hkind]; exact h9) (by rw [ht.items]; exact List.nodup_nil)) ApR.nil⟩, t, zgK _ _, ht.tlen⟩
    unfold kidsT
    rw [ht.fields, if_neg (by rw [hkind]; exact h10)]
    rfl
  refine T.jp (ι := GMk) (fun y => Gk x y ∧ (y.e = 0 → (SubT (17 - d).toNat y.l x.l.length y.l.length ∧ ApR y.l x.l.length y.l.length) ∧ ∃ t, y.l[x.l.length]? = some t ∧ t.tags.length ≤ 1)) (fun J kk => ?_) fun y ⟨y1, y2⟩ => T.some ⟨y1, fun e => ⟨rfl, y2 e⟩⟩
  refine T.jp (fun b => b = decide (n.kind = 2 ∨ n.kind = 5 ∨ n.kind = 6 ∨ n.kind = 10)) (fun J1 k1 => T.br (fun h1 => k1 _ ?_) fun h1 => T.br (fun h2 => k1 _ ?_) fun h2 => T.br (fun h3 => k1 _ ?_) fun h3 => k1 _ ?_) fun b hb => ?_
  · have h1 := zOT h1
    rw [zDT h1, zDT (.inl h1)]
  · have h2 := zOT h2
    rw [zDT h2, zDT (.inr (.inl h2))]
  · have h3 := zOT h3
    rw [zDT h3, zDT (.inr (.inr (.inl h3)))]
  · have h1 := zOF h1
    have h2 := zOF h2
    have h3 := zOF h3
    rw [decide_eq_decide]; omega
  subst hb
  refine T.br (fun hb => ?_) fun hb => ?_
  · -- a leaf with bounds, or a list
    have hb := zOT hb
    refine T.cal (zmA _ _) fun ce _ _ => T.jp (ι := GMk) (fun y => Sm (GMk.mk x.m (x.l ++ [t]) x.e) y) (fun J1 k1 => T.br (fun hc => T.eq (fail10 _ _) (k1 _ (Sm.fl (by simpa using hc)))) fun _ => k1 _ (Sm.refl _)) fun y hy => T.br (fun h10 => ?_) fun h10 => kk _ ⟨g0 y hy, hleaf (by omega) (by omega) (by omega) (by omega) (zOF h10) y hy⟩
    have h10 := zOT h10
    have hko : kidsOf n = n.fields.map (fun f => f.ty) ++ [n.of] := by unfold kidsOf; rw [if_neg hk11, if_pos h10]
    obtain ⟨c, dd, c1, c2, c3, c4⟩ := Kids.subs hkid (k := n.of) (by rw [hko]; simp)
    have hc := c2.lt
    have hyl := hy.l
    dsimp only at hyl
    refine T.ck (by omega) ?_
    rw [c1]
    refine T.cal (hnd (N - 1) (by omega) y c dd h' a (d + 1) (hy.m.trans hm) (by rw [hyl]; omega) c2 (by omega) (hdn.part (by omega) c4) (by omega) (by omega) (by omega)) fun r _ ⟨r1, r2⟩ => ?_
    have g1 : Gk x r.2 := (g0 y hy).trans r1
    refine T.br (fun he => ?_) fun he => kk _ ⟨g1, fun e => absurd e (zOF he)⟩
    have he := zOT he
    have hpre := r1.pre he x.l.length (by rw [hyl]; omega)
    rw [hyl, zgK] at hpre
    have hl1 := (List.getElem?_eq_some_iff.1 hpre).1
    have hr := r2 he
    clear r2
    obtain ⟨e1, ⟨e2, e2a⟩, _⟩ := hr
    refine T.asd ⟨by omega, by omega⟩ ?_
    rw [hti]
    refine T.eq hpre (kk _ ⟨⟨g1.m, by rw [List.length_set]; exact g1.le, by rw [List.length_set]; exact g1.lim, g1.e, fun e q hq => by dsimp only; rw [List.getElem?_set_ne (by omega)]; exact g1.pre he q hq⟩, fun _ => ?_⟩)
    dsimp only
    rw [hD, List.length_set]
    refine ⟨⟨⟨_, List.getElem?_set_self hl1, ht.ok hok (by omega) (by omega) (by omega) (by omega) r.1, ?_⟩, ApR.cons (List.getElem?_set_self hl1) (ApP.leaf (Nat.succ_le_of_lt hl1) ht.fields (by dsimp only; rw [hkind]; omega) (by dsimp only; rw [ht.items]; exact List.nodup_nil)) (ApR.mono (fun q hq1 hq2 => List.getElem?_set_ne (by omega)) (by rw [hyl, hxl1] at e2a; exact e2a))⟩, _, List.getElem?_set_self hl1, ht.tlen⟩
    unfold kidsT
    dsimp only
    rw [ht.fields, if_pos (by rw [hkind]; exact h10)]
    have hD3 : (17 - (d + 1)).toNat = D := by omega
    rw [hD3, hyl, hxl1] at e2
    rw [e1, hyl, hxl1]
    exact ⟨_, rfl, SubT.mono (fun q hq _ => List.getElem?_set_ne (by omega)) e2, rfl⟩
  have hb := zOF hb
  refine T.br (fun h3 => ?_) fun h3 => ?_
  · -- an enumerated type
    have h3 := zOT h3
    refine T.cal (zlm (GMk.mk x.m (x.l ++ [t]) x.e) n hok (hok.items h3)) fun r _ ⟨r1, r2, r3⟩ => ?_
    dsimp only at r1 r2 r3 ⊢
    refine T.asd (by rw [r2]) (T.asd ⟨by omega, by omega⟩ ?_)
    rw [hti]
    have hget : r.2.l[x.l.length]? = some t := by rw [r2]; exact zgK _ _
    have hrl : r.2.l.length = x.l.length + 1 := by rw [r2]; exact hxl1
    refine T.eq hget (kk _ ⟨⟨r1, by dsimp only; rw [List.length_set]; omega, by dsimp only; rw [List.length_set]; omega, fun e => (r3 e).1, fun e q hq => by dsimp only; rw [List.getElem?_set_ne (by omega), r2]; exact List.getElem?_append_left hq⟩, fun e => ?_⟩)
    obtain ⟨e1, e2, e3, e3a⟩ := r3 e
    have hil := hok.ilen
    dsimp only
    rw [hD, List.length_set]
    refine ⟨⟨⟨_, List.getElem?_set_self (by omega), ⟨ht.tags, by have := ht.tlen; dsimp only; omega, by dsimp only; rw [ht.root]; exact hok.root0, fun e => by dsimp only at e; rw [hkind] at e; omega, fun _ => by dsimp only; rw [ht.root, e2]; exact hok.items h3, fun _ => ht.fields, fun e => by dsimp only at e; rw [hkind] at e; contradiction, by dsimp only; rw [e2]; exact hil, e3, fun f hf => (by dsimp only at hf; rw [ht.fields] at hf; cases hf), fun e => absurd (by dsimp only; rw [hkind]; exact h3) e⟩, ?_⟩, ApR.cons (List.getElem?_set_self (by omega)) (ApP.leaf (by omega) ht.fields (by dsimp only; rw [hkind]; omega) e3a) (by rw [hrl]; exact ApR.nil)⟩, _, List.getElem?_set_self (by omega), ht.tlen⟩
    unfold kidsT
    dsimp only
    rw [ht.fields, if_neg (by rw [hkind]; omega), hrl]
    rfl
  have h3 := zOF h3
  refine T.jp (fun b => b = decide (n.kind = 7 ∨ n.kind = 8 ∨ n.kind = 9)) (fun J1 k1 => T.br (fun h1 => k1 _ ?_) fun h1 => T.br (fun h2 => k1 _ ?_) fun h2 => k1 _ ?_) fun b hb2 => ?_
  · have h1 := zOT h1
    rw [zDT h1, zDT (.inl h1)]
  · have h2 := zOT h2
    rw [zDT h2, zDT (.inr (.inl h2))]
  · have h1 := zOF h1
    have h2 := zOF h2
    rw [decide_eq_decide]; omega
  subst hb2
  refine T.br (fun hb2 => ?_) fun hb2 => kk _ ⟨g0 _ (Sm.refl _), ?_⟩
  · -- fields
    have hb2 := zOT hb2
    have hko : kidsOf n = n.fields.map (fun f => f.ty) := by unfold kidsOf; rw [if_neg hk11, if_neg (by omega), List.append_nil]
    rw [hko] at hkid
    refine T.cal (hfs (GMk.mk x.m (x.l ++ [t]) x.e) n k j h' a d x.l t hm rfl (by dsimp only; omega) hn hkid hj hdn hN2 hd0 hd16 hb2 hkind ht.root ht.items htm) fun y _ ⟨y1, y2, y3, y4, y5⟩ => kk _ ⟨⟨y1.trans hm.symm, by dsimp only at y2; omega, y3, fun e => (y4 e).1, fun e q hq => ?_⟩, fun e => ?_⟩
    · rw [(y4 e).2.1 q hq]; exact List.getElem?_append_left hq
    obtain ⟨e1, e2, fs, e3, e4, e5, e6⟩ := y4 e
    dsimp only at e5
    rw [hD]
    refine ⟨⟨⟨_, e3, ⟨ht.tags, by have := ht.tlen; dsimp only; omega, by dsimp only; rw [ht.root]; exact hok.root0, fun _ => by dsimp only; rw [ht.root, e4]; exact hok.fields hb2, fun e => by dsimp only at e; rw [hkind] at e; contradiction, fun e => absurd (by dsimp only; rw [hkind]; exact hb2) e, fun _ => ht.items, by dsimp only; rw [ht.items]; decide, fun it hit => (by dsimp only at hit; rw [ht.items] at hit; cases hit), e6, fun _ e => absurd (by dsimp only; rw [hkind]; exact hb2) e⟩, ?_⟩, y5 e⟩, _, e3, ht.tlen⟩
    unfold kidsT
    dsimp only
    rw [if_neg (by rw [hkind]; omega), List.append_nil]
    rw [hD2, hxl1] at e5
    exact e5
  · have hb2 := zOF hb2
    exact hleaf h3 (by omega) (by omega) (by omega) (by omega) _ (Sm.refl _)
theorem zlq {m : GMod} {rk : Int → Nat} (E : Env m rk) : ∀ N, N ≤ 30000 →
    (∀ n, 3 * N + 1 ≤ n → FieldsA m rk (zdn n) N) ∧ (∀ n, 3 * N + 2 ≤ n → MadeA m rk (zdd n) N) ∧ (∀ n, 3 * N + 3 ≤ n → NodeA m rk (zdk n) N) := by
  intro N
  induction N with
  | zero =>
    intro _
    have hf : ∀ n, 1 ≤ n → FieldsA m rk (zdn n) 0 := fun n hn => by
      obtain ⟨n, rfl⟩ : ∃ n', n = n' + 1 := ⟨n - 1, by omega⟩
      exact zho (Fs := (z8 n).1) (Nd := (z8 n).2.1) (Md := (z8 n).2.2) E (by omega) fun N' h => by omega
    have hm : ∀ n, 2 ≤ n → MadeA m rk (zdd n) 0 := fun n hn => by
      obtain ⟨n, rfl⟩ : ∃ n', n = n' + 1 := ⟨n - 1, by omega⟩
      exact ziA (Fs := (z8 n).1) (Nd := (z8 n).2.1) (Md := (z8 n).2.2) E (by omega) (fun N' h => by omega) (hf n (by omega))
    refine ⟨fun n hn => hf n (by omega), fun n hn => hm n (by omega), fun n hn => ?_⟩
    obtain ⟨n, rfl⟩ : ∃ n', n = n' + 1 := ⟨n - 1, by omega⟩
    exact ziP (Fs := (z8 n).1) (Nd := (z8 n).2.1) (Md := (z8 n).2.2) E (by omega) (fun N' h => by omega) (hm n (by omega))
  | succ N ih =>
    intro hN
    obtain ⟨_, _, ihn⟩ := ih (by omega)
    have hf : ∀ n, 3 * (N + 1) + 1 ≤ n → FieldsA m rk (zdn n) (N + 1) := fun n hn => by
      obtain ⟨n, rfl⟩ : ∃ n', n = n' + 1 := ⟨n - 1, by omega⟩
      exact zho (Fs := (z8 n).1) (Nd := (z8 n).2.1) (Md := (z8 n).2.2) E (by omega) fun N' h => by
        have : N' = N := by omega
        subst this; exact ihn n (by omega)
    have hm : ∀ n, 3 * (N + 1) + 2 ≤ n → MadeA m rk (zdd n) (N + 1) := fun n hn => by
      obtain ⟨n, rfl⟩ : ∃ n', n = n' + 1 := ⟨n - 1, by omega⟩
      exact ziA (Fs := (z8 n).1) (Nd := (z8 n).2.1) (Md := (z8 n).2.2) E (by omega) (fun N' h => by
        have : N' = N := by omega
        subst this; exact ihn n (by omega)) (hf n (by omega))
    refine ⟨hf, hm, fun n hn => ?_⟩
    obtain ⟨n, rfl⟩ : ∃ n', n = n' + 1 := ⟨n - 1, by omega⟩
    exact ziP (Fs := (z8 n).1) (Nd := (z8 n).2.1) (Md := (z8 n).2.2) E (by omega) (fun N' h => by
        have : N' = N := by omega
        subst this; exact ihn n (by omega)) (hm n (by omega))
end Go.Proofs.Q


namespace Go.Proofs.Q
open Go.Sy
set_option linter.unusedVariables false

theorem zmU {m : GMod} (w : WF m) : T (fun r => TabOk r.1 ∧ ApR r.1.types 0 r.1.types.length) (zfX m) := by
  unfold zfX
  have hn := w.names
  have ht := w.types
  refine T.eq (zmt w) (T.br (fun hb => T.some ⟨TabOk.empty _, ApR.nil⟩) fun hb => ?_)
  have hw : (wr m).2 = 0 := by
    have hb : (ordr m).2.2 = 0 := by simpa using hb
    unfold ordr at hb
    split at hb
    · assumption
    · exact hb
  obtain ⟨rk, E⟩ := zpj w hw
  have hfn : ∀ (p : Nat) (s : Str), m.names[p]? = some s → fnd m.names s = (p : Int) := fun p s hp => by
    have hlt := (List.getElem?_eq_some_iff.1 hp).1
    have h1 := zf8 (znd hw) (p : Int) (by omega) (by omega)
    unfold twice at h1
    rw [Int.toNat_natCast, hp] at h1
    have h2 := zOF h1
    rcases zhJ m.names s with h3 | h3
    · exact absurd (List.mem_of_getElem? hp) h3.2
    · rcases Int.lt_or_le (p : Int) (fnd m.names s) with h4 | h4
      · exact absurd hp (h3.2.2.2 p (by omega))
      · omega
  have hnode := (zlq E 12400 (by omega)).2.2 fuel (by unfold fuel; omega)
  refine T.jp (ι := GTab) (fun t => t = GTab.mk m.name m.names [] []) (fun J kk => T.abl (by rw [List.length_nil]; omega) (kk _ (by rw [List.nil_append]))) fun t htb => ?_
  subst htb
  refine T.lp (ι := Int × GTab × GMk) (fun q => 0 ≤ q.1 ∧ q.1 ≤ m.names.length ∧ q.2.1.names = m.names ∧ q.2.1.name = m.name ∧ (q.2.1.roots.length : Int) = q.1 ∧ q.2.2.m = m ∧ q.2.2.l.length ≤ 300 ∧ Kids (SubT 17 q.2.2.l) q.2.1.roots 0 q.2.2.l.length ∧ ApR q.2.2.l 0 q.2.2.l.length) (fun q => ((m.names.length : Int) - q.1).toNat) ⟨Int.le_refl _, by dsimp only; omega, rfl, rfl, rfl, rfl, Nat.zero_le _, rfl, ApR.nil⟩ (by dsimp only; omega) fun L q ⟨q1, q2, q3, q4, q5, q6, q7, q8, q9⟩ hL => ?_
  obtain ⟨i, t, y⟩ := q
  dsimp only at q1 q2 q3 q4 q5 q6 q7 q8 q9 hL ⊢
  refine T.br (fun hi => ?_) fun hi => T.some ⟨⟨by dsimp only; rw [q3]; exact hn, by dsimp only; rw [q3]; have := zOF hi; omega, q7, q8, fun p s h => (by rw [q3] at h ⊢; exact hfn p s h)⟩, q9⟩
  have hi := zOT hi
  obtain ⟨c, d, e1, e2, e3, e4⟩ := E.root i q1 hi
  have hwn := w.nodes
  have hrk := E.rk40 i
  have hcd := e2.lt
  refine T.jp (ι := GTab × GMk) (fun p => p.1.names = m.names ∧ p.1.name = m.name ∧ (p.1.roots.length : Int) = i + 1 ∧ p.2.m = m ∧ p.2.l.length ≤ 300 ∧ (p.2.e = 0 → Kids (SubT 17 p.2.l) p.1.roots 0 p.2.l.length ∧ ApR p.2.l 0 p.2.l.length)) (fun J kk => T.get q1 (by omega) fun y36 h36 => ?_) fun p ⟨p1, p2, p3, p4, p5, p6⟩ => ?_
  · rw [e1] at h36; cases h36
    have hNN : rk i * 301 + (d - c) ≤ 12400 := by
      have := Nat.mul_le_mul_right 301 hrk
      have h2 : d - c ≤ 300 := Nat.le_trans (Nat.sub_le _ _) (Nat.le_trans e3 hwn)
      exact Nat.le_trans (Nat.add_le_add this h2) (by decide)
    refine T.cal (hnode y c d 17 i 0 q6 q7 e2 e3 e4 hNN (Int.le_refl _) (by decide)) fun r _ ⟨r1, r2⟩ => T.abl (by rw [List.length_singleton]; omega) (kk _ ⟨q3, q4, by dsimp only; rw [List.length_append, List.length_singleton]; omega, r1.m.trans q6, r1.lim, fun e => ?_⟩)
    obtain ⟨k1, ⟨k2, k3⟩, _⟩ := r2 e
    dsimp only
    rw [k1]
    exact ⟨Kids.snoc (KidsT.monoL (fun k _ hk => r1.pre e k hk) q8) k2, ApR.app (ApR.mono (fun k _ hk => r1.pre e k hk) q9) k3 r1.le⟩
  · refine T.br (fun he => T.some ⟨TabOk.empty _, ApR.nil⟩) fun he => T.ck (by omega) (hL _ ⟨by dsimp only; omega, by dsimp only; omega, p1, p2, p3, p4, p5, (p6 (by simpa using he)).1, (p6 (by simpa using he)).2⟩ (by dsimp only; omega))
theorem zlN (s : Str) : T (fun r => TabOk r.1 ∧ ApR r.1.types 0 r.1.types.length) (zbD s) := by
  unfold zbD
  refine T.br (fun _ => T.some ⟨TabOk.empty _, ApR.nil⟩) fun _ => T.cal (zm8 s) fun r _ hr => T.br (fun _ => T.some ⟨TabOk.empty _, ApR.nil⟩) fun _ => T.cal (zmU hr) fun t _ ht => T.jp (fun _ => True) (fun J kk => T.br (fun _ => kk _ trivial) fun _ => kk _ trivial) fun b _ => T.some ht
end Go.Proofs.Q


namespace Go.Proofs.Q
open Go.Sy
set_option maxRecDepth 4000
def zco (a_t : GTab) (a_i : Int) : Option (GTyp) :=
  jp (ι := Bool) (fun J3 => br (decide (a_i < (0 : Int))) (J3 (true)) (J3 ((decide ((a_t.types.length : Int) ≤ a_i))))) (fun q2 => br q2 (some ((GTyp.mk (0 : Int) ([] : (List Tag)) (GCon.mk false false false false (0 : Int) (0 : Int)) ([] : (List GItem)) ([] : (List GFld)) (0 : Int) false (0 : Int)))) (cal (getI a_t.types a_i) fun y5 => some (y5)))

def zbQ (zd4 : Int) (a_to : Int) : Option ((List Int)) :=
  lp (ι := (List Int) × Int) (fun L4 q3 => br (decide (q3.2 < a_to)) (asr (Nat.ble (q3.1.length + ([q3.2] : (List Int)).length) 68719476736) <| ck ((q3.2 + (1 : Int))) <| L4 ((q3.1 ++ ([q3.2] : (List Int))), (q3.2 + (1 : Int)))) (some (q3.1))) ((([] : (List Int)), zd4))

def zbI (a_x : GTyp) (a_a1 : (List Tag)) : Option ((List Tag)) :=
  br (decide ((0 : Int) < (a_x.tags.length : Int))) (cal (getI a_x.tags (0 : Int)) fun y2 => asr (Nat.ble (a_a1.length + ([y2] : (List Tag)).length) 68719476736) <| some ((a_a1 ++ ([y2] : (List Tag))))) (some (a_a1))

def zbl (zcZ : GTys → Int → Int → (List Tag) → Option (GTys × Int × (List Tag))) (a_t : GTys) (zeO : Int) (zdG : Int) (zeU : (List Tag)) : Option (GTys × Int × (List Tag)) :=
  jp (ι := Bool) (fun J3 => br (decide (zeO < (0 : Int))) (J3 (true)) (J3 ((decide ((a_t.l.length : Int) ≤ zeO))))) (fun q2 => jp (ι := Bool) (fun J6 => br q2 (J6 (true)) (J6 ((decide (zdG = (0 : Int)))))) (fun q5 => br q5 (some (a_t, zdG, zeU)) (ck ((zdG - (1 : Int))) <| cal (getI a_t.l zeO) fun y9 => cal (zbI y9 zeU) fun y11 => br (decide ((0 : Int) < (y9.tags.length : Int))) (some (a_t, (zdG - (1 : Int)), y11)) (lp (ι := Int × (List Tag) × Int × GTys) (fun L14 q13 => br (decide (q13.1 < (y9.fields.length : Int))) (cal (getI y9.fields q13.1) fun y20 => cal (zcZ q13.2.2.2 y20.ty q13.2.2.1 q13.2.1) fun y22 => ck ((q13.1 + (1 : Int))) <| L14 ((q13.1 + (1 : Int)), y22.2.2, y22.2.1, y22.1)) (some (q13.2.2.2, q13.2.2.1, q13.2.1))) (((0 : Int), y11, (zdG - (1 : Int)), a_t))))))
def zee : Nat → (GTys → Int → Int → (List Tag) → Option (GTys × Int × (List Tag)))
  | 0 => (fun _ _ _ _ => none)
  | n + 1 => let p := zee n; (zbl p)
def zbZ (n : Nat) : GTys → Int → Int → (List Tag) → Option (GTys × Int × (List Tag)) := (zee n)

def zcX (a_t : GTys) (zeO : Int) : Option ((List Tag) × GTys) :=
  cal (zbZ fuel a_t zeO (300 : Int) ([] : (List Tag))) fun y4 => some (y4.2.2, y4.1)

def zd3 (a_t : GTab) (a_i : Int) : Option ((List Tag)) :=
  cal (zcX (GTys.mk a_t.types) a_i) fun y2 => some (y2.1)

def zeh (a_a : Tag) (a_b : Tag) : Option (Bool) :=
  br (!decide (a_a.cls = a_b.cls)) (some ((decide (a_a.cls < a_b.cls)))) (some ((decide (a_a.num < a_b.num))))

def zdN (a_t : GTab) (a_i : Int) : Option (Tag) :=
  cal (zd3 a_t a_i) fun y2 => br (decide ((y2.length : Int) = (0 : Int))) (some ((Tag.mk (0 : Int) (0 : Int)))) (cal (getI y2 (0 : Int)) fun y3 => lp (ι := Int × Tag) (fun L6 q5 => br (decide (q5.1 < (y2.length : Int))) (jp (ι := Tag) (fun J14 => cal (getI y2 q5.1) fun y15 => cal (zeh y15 q5.2) fun y17 => br y17 (J14 (y15)) (J14 (q5.2))) (fun q13 => ck ((q5.1 + (1 : Int))) <| L6 ((q5.1 + (1 : Int)), q13))) (some (q5.2))) (((0 : Int), y3)))

def zbh (a_a : Int) (a_b : Int) (a_a2 : GTab) (a_a3 : GTyp) : Option (Int) :=
  jp (ι := Tag × Tag) (fun J2 => cal (getI a_a3.fields a_a) fun y3 => cal (getI a_a3.fields a_b) fun y4 => cal (zdN a_a2 y3.ty) fun y5 => cal (zdN a_a2 y4.ty) fun y6 => J2 (y5, y6)) (fun q1 => cal (zeh q1.1 q1.2) fun y25 => br y25 (some ((-1 : Int))) (cal (zeh q1.2 q1.1) fun y26 => br y26 (some ((1 : Int))) (some ((0 : Int)))))

def zbc (zaf : (List Int)) (a_a : Int) (a_b : Int) (zR : GTab) (zau : GTyp) : Option ((List Int)) :=
  ck ((a_a + (1 : Int))) <| lp (ι := (List Int) × Int) (fun L3 q2 => br (decide (q2.2 < a_b)) (lp (ι := (List Int) × Int) (fun L50 q49 => jp (ι := Bool) (fun J75 => br (decide (a_a < q49.2)) (cal (getI q49.1 q49.2) fun y77 => ck ((q49.2 - (1 : Int))) <| cal (getI q49.1 (q49.2 - (1 : Int))) fun y79 => cal (zbh y77 y79 zR zau) fun y80 => J75 ((decide (y80 < (0 : Int))))) (J75 (false))) (fun q74 => br q74 (ck ((q49.2 - (1 : Int))) <| ck ((q49.2 - (1 : Int))) <| asr (decide (0 ≤ (q49.2 - (1 : Int)) ∧ (q49.2 - (1 : Int)) < ((q49.1.length : Nat) : Int))) <| asr (decide (0 ≤ q49.2 ∧ q49.2 < ((q49.1.length : Nat) : Int))) <| cal (q49.1[(q49.2 - (1 : Int)).toNat]?) fun y85 => cal (q49.1[q49.2.toNat]?) fun y86 => asr (decide (0 ≤ q49.2 ∧ q49.2 < ((q49.1.length : Nat) : Int))) <| cal (q49.1[q49.2.toNat]?) fun y88 => asr (decide (0 ≤ (q49.2 - (1 : Int)) ∧ (q49.2 - (1 : Int)) < ((q49.1.length : Nat) : Int))) <| cal ((q49.1.set q49.2.toNat y85)[(q49.2 - (1 : Int)).toNat]?) fun y90 => ck ((q49.2 - (1 : Int))) <| L50 (((q49.1.set q49.2.toNat y85).set ((q49.2 - (1 : Int)).toNat) y86), (q49.2 - (1 : Int)))) (ck ((q2.2 + (1 : Int))) <| L3 (q49.1, (q2.2 + (1 : Int)))))) ((q2.1, q2.2))) (some (q2.1))) ((zaf, (a_a + (1 : Int))))

def zba (zaf : (List Int)) (a_a : Int) (a_b : Int) (a_n_ : Int) (zR : GTab) (zau : GTyp) : Option ((List Int)) :=
  lp (ι := (List Int) × Int) (fun L2 q1 => br (decide (q1.2 < a_n_)) (ck ((a_a + q1.2)) <| ck ((a_b + q1.2)) <| ck ((a_b + q1.2)) <| asr (decide (0 ≤ (a_b + q1.2) ∧ (a_b + q1.2) < ((q1.1.length : Nat) : Int))) <| ck ((a_a + q1.2)) <| asr (decide (0 ≤ (a_a + q1.2) ∧ (a_a + q1.2) < ((q1.1.length : Nat) : Int))) <| cal (q1.1[(a_b + q1.2).toNat]?) fun y35 => cal (q1.1[(a_a + q1.2).toNat]?) fun y36 => asr (decide (0 ≤ (a_a + q1.2) ∧ (a_a + q1.2) < ((q1.1.length : Nat) : Int))) <| cal (q1.1[(a_a + q1.2).toNat]?) fun y38 => asr (decide (0 ≤ (a_b + q1.2) ∧ (a_b + q1.2) < ((q1.1.length : Nat) : Int))) <| cal ((q1.1.set ((a_a + q1.2).toNat) y35)[(a_b + q1.2).toNat]?) fun y40 => ck ((q1.2 + (1 : Int))) <| L2 (((q1.1.set ((a_a + q1.2).toNat) y35).set ((a_b + q1.2).toNat) y36), (q1.2 + (1 : Int)))) (some (q1.1))) ((zaf, (0 : Int)))

def zcy (zaf : (List Int)) (a_a : Int) (a_m : Int) (a_b : Int) (zR : GTab) (zau : GTyp) : Option ((List Int)) :=
  ck ((a_m - a_a)) <| ck ((a_b - a_m)) <| lp (ι := (List Int) × Int × Int) (fun L4 q3 => br (!decide (q3.2.1 = q3.2.2)) (br (decide (q3.2.2 < q3.2.1)) (ck ((a_m - q3.2.1)) <| cal (zba q3.1 (a_m - q3.2.1) a_m q3.2.2 zR zau) fun y19 => asr (decide (y19.length = q3.1.length)) <| ck ((q3.2.1 - q3.2.2)) <| L4 (y19, (q3.2.1 - q3.2.2), q3.2.2)) (ck ((a_m - q3.2.1)) <| ck ((a_m + q3.2.2)) <| ck (((a_m + q3.2.2) - q3.2.1)) <| cal (zba q3.1 (a_m - q3.2.1) ((a_m + q3.2.2) - q3.2.1) q3.2.1 zR zau) fun y25 => asr (decide (y25.length = q3.1.length)) <| ck ((q3.2.2 - q3.2.1)) <| L4 (y25, q3.2.1, (q3.2.2 - q3.2.1)))) (ck ((a_m - q3.2.1)) <| cal (zba q3.1 (a_m - q3.2.1) a_m q3.2.1 zR zau) fun y29 => asr (decide (y29.length = q3.1.length)) <| some (y29))) ((zaf, (a_m - a_a), (a_b - a_m)))

def zb0 (zbb : (List Int) → Int → Int → Int → GTab → GTyp → Option ((List Int))) (zaf : (List Int)) (a_a : Int) (a_m : Int) (a_b : Int) (zR : GTab) (zau : GTyp) : Option ((List Int)) :=
  ck ((a_m - a_a)) <| br (decide ((a_m - a_a) = (1 : Int))) (lp (ι := (List Int) × Int × Int) (fun L3 q2 => br (decide (q2.2.1 < q2.2.2)) (ck ((q2.2.1 + q2.2.2)) <| ck ((((UInt64.ofNat ((q2.2.1 + q2.2.2) % 18446744073709551616).toNat) >>> (1 : UInt64)).toNat : Int)) <| cal (getI q2.1 (((UInt64.ofNat ((q2.2.1 + q2.2.2) % 18446744073709551616).toNat) >>> (1 : UInt64)).toNat : Int)) fun y102 => cal (getI q2.1 a_a) fun y103 => cal (zbh y102 y103 zR zau) fun y104 => br (decide (y104 < (0 : Int))) (ck (((((UInt64.ofNat ((q2.2.1 + q2.2.2) % 18446744073709551616).toNat) >>> (1 : UInt64)).toNat : Int) + (1 : Int))) <| L3 (q2.1, ((((UInt64.ofNat ((q2.2.1 + q2.2.2) % 18446744073709551616).toNat) >>> (1 : UInt64)).toNat : Int) + (1 : Int)), q2.2.2)) (L3 (q2.1, q2.2.1, (((UInt64.ofNat ((q2.2.1 + q2.2.2) % 18446744073709551616).toNat) >>> (1 : UInt64)).toNat : Int)))) (lp (ι := (List Int) × Int) (fun L107 q106 => ck ((q2.2.1 - (1 : Int))) <| br (decide (q106.2 < (q2.2.1 - (1 : Int)))) (ck ((q106.2 + (1 : Int))) <| ck ((q106.2 + (1 : Int))) <| asr (decide (0 ≤ (q106.2 + (1 : Int)) ∧ (q106.2 + (1 : Int)) < ((q106.1.length : Nat) : Int))) <| asr (decide (0 ≤ q106.2 ∧ q106.2 < ((q106.1.length : Nat) : Int))) <| cal (q106.1[(q106.2 + (1 : Int)).toNat]?) fun y137 => cal (q106.1[q106.2.toNat]?) fun y138 => asr (decide (0 ≤ q106.2 ∧ q106.2 < ((q106.1.length : Nat) : Int))) <| cal (q106.1[q106.2.toNat]?) fun y140 => asr (decide (0 ≤ (q106.2 + (1 : Int)) ∧ (q106.2 + (1 : Int)) < ((q106.1.length : Nat) : Int))) <| cal ((q106.1.set q106.2.toNat y137)[(q106.2 + (1 : Int)).toNat]?) fun y142 => ck ((q106.2 + (1 : Int))) <| L107 (((q106.1.set q106.2.toNat y137).set ((q106.2 + (1 : Int)).toNat) y138), (q106.2 + (1 : Int)))) (some (q106.1))) ((q2.1, a_a)))) ((zaf, a_m, a_b))) (ck ((a_b - a_m)) <| br (decide ((a_b - a_m) = (1 : Int))) (lp (ι := (List Int) × Int × Int) (fun L148 q147 => br (decide (q147.2.1 < q147.2.2)) (ck ((q147.2.1 + q147.2.2)) <| ck ((((UInt64.ofNat ((q147.2.1 + q147.2.2) % 18446744073709551616).toNat) >>> (1 : UInt64)).toNat : Int)) <| cal (getI q147.1 a_m) fun y241 => cal (getI q147.1 (((UInt64.ofNat ((q147.2.1 + q147.2.2) % 18446744073709551616).toNat) >>> (1 : UInt64)).toNat : Int)) fun y242 => cal (zbh y241 y242 zR zau) fun y243 => br (!(decide (y243 < (0 : Int)))) (ck (((((UInt64.ofNat ((q147.2.1 + q147.2.2) % 18446744073709551616).toNat) >>> (1 : UInt64)).toNat : Int) + (1 : Int))) <| L148 (q147.1, ((((UInt64.ofNat ((q147.2.1 + q147.2.2) % 18446744073709551616).toNat) >>> (1 : UInt64)).toNat : Int) + (1 : Int)), q147.2.2)) (L148 (q147.1, q147.2.1, (((UInt64.ofNat ((q147.2.1 + q147.2.2) % 18446744073709551616).toNat) >>> (1 : UInt64)).toNat : Int)))) (lp (ι := (List Int) × Int) (fun L246 q245 => br (decide (q147.2.1 < q245.2)) (ck ((q245.2 - (1 : Int))) <| ck ((q245.2 - (1 : Int))) <| asr (decide (0 ≤ (q245.2 - (1 : Int)) ∧ (q245.2 - (1 : Int)) < ((q245.1.length : Nat) : Int))) <| asr (decide (0 ≤ q245.2 ∧ q245.2 < ((q245.1.length : Nat) : Int))) <| cal (q245.1[(q245.2 - (1 : Int)).toNat]?) fun y273 => cal (q245.1[q245.2.toNat]?) fun y274 => asr (decide (0 ≤ q245.2 ∧ q245.2 < ((q245.1.length : Nat) : Int))) <| cal (q245.1[q245.2.toNat]?) fun y276 => asr (decide (0 ≤ (q245.2 - (1 : Int)) ∧ (q245.2 - (1 : Int)) < ((q245.1.length : Nat) : Int))) <| cal ((q245.1.set q245.2.toNat y273)[(q245.2 - (1 : Int)).toNat]?) fun y278 => ck ((q245.2 - (1 : Int))) <| L246 (((q245.1.set q245.2.toNat y273).set ((q245.2 - (1 : Int)).toNat) y274), (q245.2 - (1 : Int)))) (some (q245.1))) ((q147.1, a_m)))) ((zaf, a_a, a_m))) (ck ((a_a + a_b)) <| ck ((((UInt64.ofNat ((a_a + a_b) % 18446744073709551616).toNat) >>> (1 : UInt64)).toNat : Int)) <| ck (((((UInt64.ofNat ((a_a + a_b) % 18446744073709551616).toNat) >>> (1 : UInt64)).toNat : Int) + a_m)) <| jp (ι := Int × Int) (fun J286 => br (decide ((((UInt64.ofNat ((a_a + a_b) % 18446744073709551616).toNat) >>> (1 : UInt64)).toNat : Int) < a_m)) (ck ((((((UInt64.ofNat ((a_a + a_b) % 18446744073709551616).toNat) >>> (1 : UInt64)).toNat : Int) + a_m) - a_b)) <| J286 ((((((UInt64.ofNat ((a_a + a_b) % 18446744073709551616).toNat) >>> (1 : UInt64)).toNat : Int) + a_m) - a_b), (((UInt64.ofNat ((a_a + a_b) % 18446744073709551616).toNat) >>> (1 : UInt64)).toNat : Int))) (J286 (a_a, a_m))) (fun q285 => ck ((((((UInt64.ofNat ((a_a + a_b) % 18446744073709551616).toNat) >>> (1 : UInt64)).toNat : Int) + a_m) - (1 : Int))) <| lp (ι := (List Int) × Int × Int) (fun L290 q289 => br (decide (q289.2.1 < q289.2.2)) (ck ((q289.2.1 + q289.2.2)) <| ck ((((UInt64.ofNat ((q289.2.1 + q289.2.2) % 18446744073709551616).toNat) >>> (1 : UInt64)).toNat : Int)) <| ck (((((((UInt64.ofNat ((a_a + a_b) % 18446744073709551616).toNat) >>> (1 : UInt64)).toNat : Int) + a_m) - (1 : Int)) - (((UInt64.ofNat ((q289.2.1 + q289.2.2) % 18446744073709551616).toNat) >>> (1 : UInt64)).toNat : Int))) <| cal (getI q289.1 ((((((UInt64.ofNat ((a_a + a_b) % 18446744073709551616).toNat) >>> (1 : UInt64)).toNat : Int) + a_m) - (1 : Int)) - (((UInt64.ofNat ((q289.2.1 + q289.2.2) % 18446744073709551616).toNat) >>> (1 : UInt64)).toNat : Int))) fun y354 => cal (getI q289.1 (((UInt64.ofNat ((q289.2.1 + q289.2.2) % 18446744073709551616).toNat) >>> (1 : UInt64)).toNat : Int)) fun y355 => cal (zbh y354 y355 zR zau) fun y356 => br (!(decide (y356 < (0 : Int)))) (ck (((((UInt64.ofNat ((q289.2.1 + q289.2.2) % 18446744073709551616).toNat) >>> (1 : UInt64)).toNat : Int) + (1 : Int))) <| L290 (q289.1, ((((UInt64.ofNat ((q289.2.1 + q289.2.2) % 18446744073709551616).toNat) >>> (1 : UInt64)).toNat : Int) + (1 : Int)), q289.2.2)) (L290 (q289.1, q289.2.1, (((UInt64.ofNat ((q289.2.1 + q289.2.2) % 18446744073709551616).toNat) >>> (1 : UInt64)).toNat : Int)))) (ck ((((((UInt64.ofNat ((a_a + a_b) % 18446744073709551616).toNat) >>> (1 : UInt64)).toNat : Int) + a_m) - q289.2.1)) <| jp (ι := Bool) (fun J360 => br (decide (q289.2.1 < a_m)) (J360 ((decide (a_m < (((((UInt64.ofNat ((a_a + a_b) % 18446744073709551616).toNat) >>> (1 : UInt64)).toNat : Int) + a_m) - q289.2.1))))) (J360 (false))) (fun q359 => jp (ι := (List Int)) (fun J363 => br q359 (cal (zcy q289.1 q289.2.1 a_m (((((UInt64.ofNat ((a_a + a_b) % 18446744073709551616).toNat) >>> (1 : UInt64)).toNat : Int) + a_m) - q289.2.1) zR zau) fun y364 => asr (decide (y364.length = q289.1.length)) <| J363 (y364)) (J363 (q289.1))) (fun q362 => jp (ι := Bool) (fun J367 => br (decide (a_a < q289.2.1)) (J367 ((decide (q289.2.1 < (((UInt64.ofNat ((a_a + a_b) % 18446744073709551616).toNat) >>> (1 : UInt64)).toNat : Int))))) (J367 (false))) (fun q366 => jp (ι := (List Int)) (fun J370 => br q366 (cal (zbb q362 a_a q289.2.1 (((UInt64.ofNat ((a_a + a_b) % 18446744073709551616).toNat) >>> (1 : UInt64)).toNat : Int) zR zau) fun y371 => asr (decide (y371.length = q362.length)) <| J370 (y371)) (J370 (q362))) (fun q369 => jp (ι := Bool) (fun J374 => br (decide ((((UInt64.ofNat ((a_a + a_b) % 18446744073709551616).toNat) >>> (1 : UInt64)).toNat : Int) < (((((UInt64.ofNat ((a_a + a_b) % 18446744073709551616).toNat) >>> (1 : UInt64)).toNat : Int) + a_m) - q289.2.1))) (J374 ((decide ((((((UInt64.ofNat ((a_a + a_b) % 18446744073709551616).toNat) >>> (1 : UInt64)).toNat : Int) + a_m) - q289.2.1) < a_b)))) (J374 (false))) (fun q373 => br q373 (cal (zbb q369 (((UInt64.ofNat ((a_a + a_b) % 18446744073709551616).toNat) >>> (1 : UInt64)).toNat : Int) (((((UInt64.ofNat ((a_a + a_b) % 18446744073709551616).toNat) >>> (1 : UInt64)).toNat : Int) + a_m) - q289.2.1) a_b zR zau) fun y376 => asr (decide (y376.length = q369.length)) <| some (y376)) (some (q369))))))))) ((zaf, q285.1, q285.2)))))
def zcQ : Nat → ((List Int) → Int → Int → Int → GTab → GTyp → Option ((List Int)))
  | 0 => (fun _ _ _ _ _ _ => none)
  | n + 1 => let p := zcQ n; (zb0 p)
def zaU (n : Nat) : (List Int) → Int → Int → Int → GTab → GTyp → Option ((List Int)) := (zcQ n)

def zbR (zaf : (List Int)) (a_n_ : Int) (zR : GTab) (zau : GTyp) : Option ((List Int)) :=
  lp (ι := (List Int) × Int × Int) (fun L2 q1 => br (decide (q1.2.2 ≤ a_n_)) (cal (zbc q1.1 q1.2.1 q1.2.2 zR zau) fun y123 => asr (decide (y123.length = q1.1.length)) <| ck ((q1.2.2 + (20 : Int))) <| L2 (y123, q1.2.2, (q1.2.2 + (20 : Int)))) (cal (zbc q1.1 q1.2.1 a_n_ zR zau) fun y126 => asr (decide (y126.length = q1.1.length)) <| lp (ι := (List Int) × Int) (fun L129 q128 => br (decide (q128.2 < a_n_)) (ck (((2 : Int) * q128.2)) <| lp (ι := (List Int) × Int × Int) (fun L158 q157 => br (decide (q157.2.2 ≤ a_n_)) (ck ((q157.2.1 + q128.2)) <| cal (zaU fuel q157.1 q157.2.1 (q157.2.1 + q128.2) q157.2.2 zR zau) fun y171 => asr (decide (y171.length = q157.1.length)) <| ck (((2 : Int) * q128.2)) <| ck ((q157.2.2 + ((2 : Int) * q128.2))) <| L158 (y171, q157.2.2, (q157.2.2 + ((2 : Int) * q128.2)))) (ck ((q157.2.1 + q128.2)) <| jp (ι := (List Int)) (fun J177 => br (decide ((q157.2.1 + q128.2) < a_n_)) (cal (zaU fuel q157.1 q157.2.1 (q157.2.1 + q128.2) a_n_ zR zau) fun y178 => asr (decide (y178.length = q157.1.length)) <| J177 (y178)) (J177 (q157.1))) (fun q176 => ck ((q128.2 * (2 : Int))) <| L129 (q176, (q128.2 * (2 : Int)))))) ((q128.1, (0 : Int), ((2 : Int) * q128.2)))) (some (q128.1))) ((y126, (20 : Int))))) ((zaf, (0 : Int), (20 : Int)))

def zbk (a_x : (List Int)) (zR : GTab) (zau : GTyp) : Option ((List Int)) :=
  cal (zbR a_x ((a_x.length : Nat) : Int) zR zau) fun y1 => asr (decide (y1.length = a_x.length)) <| some (y1)

def zdY (zcF : GTab) (zfI : GTyp) (a_l : (List Int)) (zcg : (List Int)) : Option ((List Int)) :=
  cal (zbk a_l zcF zfI) fun y2 => asr (decide (y2.length = a_l.length)) <| asr (Nat.ble (y2.length + zcg.length) 68719476736) <| some ((y2 ++ zcg))

def zcT (a_t : GTab) (a_i : Int) : Option ((List Int)) :=
  cal (zco a_t a_i) fun y1 => br (decide (y1.kind = (7 : Int))) (cal (zbQ (0 : Int) (y1.fields.length : Int)) fun y3 => some (y3)) (jp (ι := Bool) (fun J6 => br (decide (y1.kind = (8 : Int))) (J6 ((decide (y1.kind = (8 : Int))))) (J6 ((decide (y1.kind = (9 : Int)))))) (fun q5 => br q5 (cal (zbQ (0 : Int) (min (max y1.root (0 : Int)) (y1.fields.length : Int))) fun y7 => cal (zbQ (min (max y1.root (0 : Int)) (y1.fields.length : Int)) (y1.fields.length : Int)) fun y9 => cal (zdY a_t y1 y7 y9) fun y11 => some (y11)) (some (([] : (List Int))))))

def zdc  : Option (Bool) :=
  cal (zbD (Str.mk [77, 32, 68, 69, 70, 73, 78, 73, 84, 73, 79, 78, 83, 32, 58, 58, 61, 32, 66, 69, 71, 73, 78, 32, 65, 32, 58, 58, 61, 32, 83, 69, 84, 32, 123, 32, 97, 32, 91, 49, 93, 32, 78, 85, 76, 76, 44, 32, 98, 32, 91, 48, 93, 32, 78, 85, 76, 76, 32, 125, 32, 69, 78, 68])) fun y1 => cal (zcT y1.1 (0 : Int)) fun y3 => jp (ι := Bool) (fun J5 => br y1.2 (J5 ((decide ((y3.length : Int) = (2 : Int))))) (J5 (false))) (fun q4 => jp (ι := Bool) (fun J8 => br q4 (cal (getI y3 (0 : Int)) fun y10 => J8 ((decide (y10 = (1 : Int))))) (J8 (false))) (fun q7 => jp (ι := Bool) (fun J12 => br q7 (cal (getI y3 (1 : Int)) fun y14 => J12 ((decide (y14 = (0 : Int))))) (J12 (false))) (fun q11 => some (q11))))
end Go.Proofs.Q


namespace Go.Proofs.Q
open Go.Sy
set_option maxRecDepth 4000
def zcl (a_x : Int) : Option (Bool) :=
  some ((!decide (a_x = a_x)))

def zcs (a_x : Int) (a_y : Int) : Option (Int) :=
  cal (zcl a_x) fun y1 => cal (zcl a_y) fun y2 => br y1 (br y2 (some ((0 : Int))) (some ((-1 : Int)))) (br y2 (some ((1 : Int))) (br (decide (a_x < a_y)) (some ((-1 : Int))) (br (decide (a_y < a_x)) (some ((1 : Int))) (some ((0 : Int))))))

def zbn (a_a : Int) (a_b : Int) (a_a2 : GTyp) : Option (Int) :=
  cal (getI a_a2.items a_a) fun y1 => cal (getI a_a2.items a_b) fun y2 => cal (zcs y1.number y2.number) fun y3 => some (y3)

def za5 (zaf : (List Int)) (a_a : Int) (a_b : Int) (zR : GTyp) : Option ((List Int)) :=
  ck ((a_a + (1 : Int))) <| lp (ι := (List Int) × Int) (fun L3 q2 => br (decide (q2.2 < a_b)) (lp (ι := (List Int) × Int) (fun L50 q49 => jp (ι := Bool) (fun J75 => br (decide (a_a < q49.2)) (cal (getI q49.1 q49.2) fun y77 => ck ((q49.2 - (1 : Int))) <| cal (getI q49.1 (q49.2 - (1 : Int))) fun y79 => cal (zbn y77 y79 zR) fun y80 => J75 ((decide (y80 < (0 : Int))))) (J75 (false))) (fun q74 => br q74 (ck ((q49.2 - (1 : Int))) <| ck ((q49.2 - (1 : Int))) <| asr (decide (0 ≤ (q49.2 - (1 : Int)) ∧ (q49.2 - (1 : Int)) < ((q49.1.length : Nat) : Int))) <| asr (decide (0 ≤ q49.2 ∧ q49.2 < ((q49.1.length : Nat) : Int))) <| cal (q49.1[(q49.2 - (1 : Int)).toNat]?) fun y85 => cal (q49.1[q49.2.toNat]?) fun y86 => asr (decide (0 ≤ q49.2 ∧ q49.2 < ((q49.1.length : Nat) : Int))) <| cal (q49.1[q49.2.toNat]?) fun y88 => asr (decide (0 ≤ (q49.2 - (1 : Int)) ∧ (q49.2 - (1 : Int)) < ((q49.1.length : Nat) : Int))) <| cal ((q49.1.set q49.2.toNat y85)[(q49.2 - (1 : Int)).toNat]?) fun y90 => ck ((q49.2 - (1 : Int))) <| L50 (((q49.1.set q49.2.toNat y85).set ((q49.2 - (1 : Int)).toNat) y86), (q49.2 - (1 : Int)))) (ck ((q2.2 + (1 : Int))) <| L3 (q49.1, (q2.2 + (1 : Int)))))) ((q2.1, q2.2))) (some (q2.1))) ((zaf, (a_a + (1 : Int))))

def zaW (zaf : (List Int)) (a_a : Int) (a_b : Int) (a_n_ : Int) (zR : GTyp) : Option ((List Int)) :=
  lp (ι := (List Int) × Int) (fun L2 q1 => br (decide (q1.2 < a_n_)) (ck ((a_a + q1.2)) <| ck ((a_b + q1.2)) <| ck ((a_b + q1.2)) <| asr (decide (0 ≤ (a_b + q1.2) ∧ (a_b + q1.2) < ((q1.1.length : Nat) : Int))) <| ck ((a_a + q1.2)) <| asr (decide (0 ≤ (a_a + q1.2) ∧ (a_a + q1.2) < ((q1.1.length : Nat) : Int))) <| cal (q1.1[(a_b + q1.2).toNat]?) fun y35 => cal (q1.1[(a_a + q1.2).toNat]?) fun y36 => asr (decide (0 ≤ (a_a + q1.2) ∧ (a_a + q1.2) < ((q1.1.length : Nat) : Int))) <| cal (q1.1[(a_a + q1.2).toNat]?) fun y38 => asr (decide (0 ≤ (a_b + q1.2) ∧ (a_b + q1.2) < ((q1.1.length : Nat) : Int))) <| cal ((q1.1.set ((a_a + q1.2).toNat) y35)[(a_b + q1.2).toNat]?) fun y40 => ck ((q1.2 + (1 : Int))) <| L2 (((q1.1.set ((a_a + q1.2).toNat) y35).set ((a_b + q1.2).toNat) y36), (q1.2 + (1 : Int)))) (some (q1.1))) ((zaf, (0 : Int)))

def zcd (zaf : (List Int)) (a_a : Int) (a_m : Int) (a_b : Int) (zR : GTyp) : Option ((List Int)) :=
  ck ((a_m - a_a)) <| ck ((a_b - a_m)) <| lp (ι := (List Int) × Int × Int) (fun L4 q3 => br (!decide (q3.2.1 = q3.2.2)) (br (decide (q3.2.2 < q3.2.1)) (ck ((a_m - q3.2.1)) <| cal (zaW q3.1 (a_m - q3.2.1) a_m q3.2.2 zR) fun y19 => asr (decide (y19.length = q3.1.length)) <| ck ((q3.2.1 - q3.2.2)) <| L4 (y19, (q3.2.1 - q3.2.2), q3.2.2)) (ck ((a_m - q3.2.1)) <| ck ((a_m + q3.2.2)) <| ck (((a_m + q3.2.2) - q3.2.1)) <| cal (zaW q3.1 (a_m - q3.2.1) ((a_m + q3.2.2) - q3.2.1) q3.2.1 zR) fun y25 => asr (decide (y25.length = q3.1.length)) <| ck ((q3.2.2 - q3.2.1)) <| L4 (y25, q3.2.1, (q3.2.2 - q3.2.1)))) (ck ((a_m - q3.2.1)) <| cal (zaW q3.1 (a_m - q3.2.1) a_m q3.2.1 zR) fun y29 => asr (decide (y29.length = q3.1.length)) <| some (y29))) ((zaf, (a_m - a_a), (a_b - a_m)))

def zbN (zaY : (List Int) → Int → Int → Int → GTyp → Option ((List Int))) (zaf : (List Int)) (a_a : Int) (a_m : Int) (a_b : Int) (zR : GTyp) : Option ((List Int)) :=
  ck ((a_m - a_a)) <| br (decide ((a_m - a_a) = (1 : Int))) (lp (ι := (List Int) × Int × Int) (fun L3 q2 => br (decide (q2.2.1 < q2.2.2)) (ck ((q2.2.1 + q2.2.2)) <| ck ((((UInt64.ofNat ((q2.2.1 + q2.2.2) % 18446744073709551616).toNat) >>> (1 : UInt64)).toNat : Int)) <| cal (getI q2.1 (((UInt64.ofNat ((q2.2.1 + q2.2.2) % 18446744073709551616).toNat) >>> (1 : UInt64)).toNat : Int)) fun y102 => cal (getI q2.1 a_a) fun y103 => cal (zbn y102 y103 zR) fun y104 => br (decide (y104 < (0 : Int))) (ck (((((UInt64.ofNat ((q2.2.1 + q2.2.2) % 18446744073709551616).toNat) >>> (1 : UInt64)).toNat : Int) + (1 : Int))) <| L3 (q2.1, ((((UInt64.ofNat ((q2.2.1 + q2.2.2) % 18446744073709551616).toNat) >>> (1 : UInt64)).toNat : Int) + (1 : Int)), q2.2.2)) (L3 (q2.1, q2.2.1, (((UInt64.ofNat ((q2.2.1 + q2.2.2) % 18446744073709551616).toNat) >>> (1 : UInt64)).toNat : Int)))) (lp (ι := (List Int) × Int) (fun L107 q106 => ck ((q2.2.1 - (1 : Int))) <| br (decide (q106.2 < (q2.2.1 - (1 : Int)))) (ck ((q106.2 + (1 : Int))) <| ck ((q106.2 + (1 : Int))) <| asr (decide (0 ≤ (q106.2 + (1 : Int)) ∧ (q106.2 + (1 : Int)) < ((q106.1.length : Nat) : Int))) <| asr (decide (0 ≤ q106.2 ∧ q106.2 < ((q106.1.length : Nat) : Int))) <| cal (q106.1[(q106.2 + (1 : Int)).toNat]?) fun y137 => cal (q106.1[q106.2.toNat]?) fun y138 => asr (decide (0 ≤ q106.2 ∧ q106.2 < ((q106.1.length : Nat) : Int))) <| cal (q106.1[q106.2.toNat]?) fun y140 => asr (decide (0 ≤ (q106.2 + (1 : Int)) ∧ (q106.2 + (1 : Int)) < ((q106.1.length : Nat) : Int))) <| cal ((q106.1.set q106.2.toNat y137)[(q106.2 + (1 : Int)).toNat]?) fun y142 => ck ((q106.2 + (1 : Int))) <| L107 (((q106.1.set q106.2.toNat y137).set ((q106.2 + (1 : Int)).toNat) y138), (q106.2 + (1 : Int)))) (some (q106.1))) ((q2.1, a_a)))) ((zaf, a_m, a_b))) (ck ((a_b - a_m)) <| br (decide ((a_b - a_m) = (1 : Int))) (lp (ι := (List Int) × Int × Int) (fun L148 q147 => br (decide (q147.2.1 < q147.2.2)) (ck ((q147.2.1 + q147.2.2)) <| ck ((((UInt64.ofNat ((q147.2.1 + q147.2.2) % 18446744073709551616).toNat) >>> (1 : UInt64)).toNat : Int)) <| cal (getI q147.1 a_m) fun y241 => cal (getI q147.1 (((UInt64.ofNat ((q147.2.1 + q147.2.2) % 18446744073709551616).toNat) >>> (1 : UInt64)).toNat : Int)) fun y242 => cal (zbn y241 y242 zR) fun y243 => br (!(decide (y243 < (0 : Int)))) (ck (((((UInt64.ofNat ((q147.2.1 + q147.2.2) % 18446744073709551616).toNat) >>> (1 : UInt64)).toNat : Int) + (1 : Int))) <| L148 (q147.1, ((((UInt64.ofNat ((q147.2.1 + q147.2.2) % 18446744073709551616).toNat) >>> (1 : UInt64)).toNat : Int) + (1 : Int)), q147.2.2)) (L148 (q147.1, q147.2.1, (((UInt64.ofNat ((q147.2.1 + q147.2.2) % 18446744073709551616).toNat) >>> (1 : UInt64)).toNat : Int)))) (lp (ι := (List Int) × Int) (fun L246 q245 => br (decide (q147.2.1 < q245.2)) (ck ((q245.2 - (1 : Int))) <| ck ((q245.2 - (1 : Int))) <| asr (decide (0 ≤ (q245.2 - (1 : Int)) ∧ (q245.2 - (1 : Int)) < ((q245.1.length : Nat) : Int))) <| asr (decide (0 ≤ q245.2 ∧ q245.2 < ((q245.1.length : Nat) : Int))) <| cal (q245.1[(q245.2 - (1 : Int)).toNat]?) fun y273 => cal (q245.1[q245.2.toNat]?) fun y274 => asr (decide (0 ≤ q245.2 ∧ q245.2 < ((q245.1.length : Nat) : Int))) <| cal (q245.1[q245.2.toNat]?) fun y276 => asr (decide (0 ≤ (q245.2 - (1 : Int)) ∧ (q245.2 - (1 : Int)) < ((q245.1.length : Nat) : Int))) <| cal ((q245.1.set q245.2.toNat y273)[(q245.2 - (1 : Int)).toNat]?) fun y278 => ck ((q245.2 - (1 : Int))) <| L246 (((q245.1.set q245.2.toNat y273).set ((q245.2 - (1 : Int)).toNat) y274), (q245.2 - (1 : Int)))) (some (q245.1))) ((q147.1, a_m)))) ((zaf, a_a, a_m))) (ck ((a_a + a_b)) <| ck ((((UInt64.ofNat ((a_a + a_b) % 18446744073709551616).toNat) >>> (1 : UInt64)).toNat : Int)) <| ck (((((UInt64.ofNat ((a_a + a_b) % 18446744073709551616).toNat) >>> (1 : UInt64)).toNat : Int) + a_m)) <| jp (ι := Int × Int) (fun J286 => br (decide ((((UInt64.ofNat ((a_a + a_b) % 18446744073709551616).toNat) >>> (1 : UInt64)).toNat : Int) < a_m)) (ck ((((((UInt64.ofNat ((a_a + a_b) % 18446744073709551616).toNat) >>> (1 : UInt64)).toNat : Int) + a_m) - a_b)) <| J286 ((((((UInt64.ofNat ((a_a + a_b) % 18446744073709551616).toNat) >>> (1 : UInt64)).toNat : Int) + a_m) - a_b), (((UInt64.ofNat ((a_a + a_b) % 18446744073709551616).toNat) >>> (1 : UInt64)).toNat : Int))) (J286 (a_a, a_m))) (fun q285 => ck ((((((UInt64.ofNat ((a_a + a_b) % 18446744073709551616).toNat) >>> (1 : UInt64)).toNat : Int) + a_m) - (1 : Int))) <| lp (ι := (List Int) × Int × Int) (fun L290 q289 => br (decide (q289.2.1 < q289.2.2)) (ck ((q289.2.1 + q289.2.2)) <| ck ((((UInt64.ofNat ((q289.2.1 + q289.2.2) % 18446744073709551616).toNat) >>> (1 : UInt64)).toNat : Int)) <| ck (((((((UInt64.ofNat ((a_a + a_b) % 18446744073709551616).toNat) >>> (1 : UInt64)).toNat : Int) + a_m) - (1 : Int)) - (((UInt64.ofNat ((q289.2.1 + q289.2.2) % 18446744073709551616).toNat) >>> (1 : UInt64)).toNat : Int))) <| cal (getI q289.1 ((((((UInt64.ofNat ((a_a + a_b) % 18446744073709551616).toNat) >>> (1 : UInt64)).toNat : Int) + a_m) - (1 : Int)) - (((UInt64.ofNat ((q289.2.1 + q289.2.2) % 18446744073709551616).toNat) >>> (1 : UInt64)).toNat : Int))) fun y354 => cal (getI q289.1 (((UInt64.ofNat ((q289.2.1 + q289.2.2) % 18446744073709551616).toNat) >>> (1 : UInt64)).toNat : Int)) fun y355 => cal (zbn y354 y355 zR) fun y356 => br (!(decide (y356 < (0 : Int)))) (ck (((((UInt64.ofNat ((q289.2.1 + q289.2.2) % 18446744073709551616).toNat) >>> (1 : UInt64)).toNat : Int) + (1 : Int))) <| L290 (q289.1, ((((UInt64.ofNat ((q289.2.1 + q289.2.2) % 18446744073709551616).toNat) >>> (1 : UInt64)).toNat : Int) + (1 : Int)), q289.2.2)) (L290 (q289.1, q289.2.1, (((UInt64.ofNat ((q289.2.1 + q289.2.2) % 18446744073709551616).toNat) >>> (1 : UInt64)).toNat : Int)))) (ck ((((((UInt64.ofNat ((a_a + a_b) % 18446744073709551616).toNat) >>> (1 : UInt64)).toNat : Int) + a_m) - q289.2.1)) <| jp (ι := Bool) (fun J360 => br (decide (q289.2.1 < a_m)) (J360 ((decide (a_m < (((((UInt64.ofNat ((a_a + a_b) % 18446744073709551616).toNat) >>> (1 : UInt64)).toNat : Int) + a_m) - q289.2.1))))) (J360 (false))) (fun q359 => jp (ι := (List Int)) (fun J363 => br q359 (cal (zcd q289.1 q289.2.1 a_m (((((UInt64.ofNat ((a_a + a_b) % 18446744073709551616).toNat) >>> (1 : UInt64)).toNat : Int) + a_m) - q289.2.1) zR) fun y364 => asr (decide (y364.length = q289.1.length)) <| J363 (y364)) (J363 (q289.1))) (fun q362 => jp (ι := Bool) (fun J367 => br (decide (a_a < q289.2.1)) (J367 ((decide (q289.2.1 < (((UInt64.ofNat ((a_a + a_b) % 18446744073709551616).toNat) >>> (1 : UInt64)).toNat : Int))))) (J367 (false))) (fun q366 => jp (ι := (List Int)) (fun J370 => br q366 (cal (zaY q362 a_a q289.2.1 (((UInt64.ofNat ((a_a + a_b) % 18446744073709551616).toNat) >>> (1 : UInt64)).toNat : Int) zR) fun y371 => asr (decide (y371.length = q362.length)) <| J370 (y371)) (J370 (q362))) (fun q369 => jp (ι := Bool) (fun J374 => br (decide ((((UInt64.ofNat ((a_a + a_b) % 18446744073709551616).toNat) >>> (1 : UInt64)).toNat : Int) < (((((UInt64.ofNat ((a_a + a_b) % 18446744073709551616).toNat) >>> (1 : UInt64)).toNat : Int) + a_m) - q289.2.1))) (J374 ((decide ((((((UInt64.ofNat ((a_a + a_b) % 18446744073709551616).toNat) >>> (1 : UInt64)).toNat : Int) + a_m) - q289.2.1) < a_b)))) (J374 (false))) (fun q373 => br q373 (cal (zaY q369 (((UInt64.ofNat ((a_a + a_b) % 18446744073709551616).toNat) >>> (1 : UInt64)).toNat : Int) (((((UInt64.ofNat ((a_a + a_b) % 18446744073709551616).toNat) >>> (1 : UInt64)).toNat : Int) + a_m) - q289.2.1) a_b zR) fun y376 => asr (decide (y376.length = q369.length)) <| some (y376)) (some (q369))))))))) ((zaf, q285.1, q285.2)))))
def zcu : Nat → ((List Int) → Int → Int → Int → GTyp → Option ((List Int)))
  | 0 => (fun _ _ _ _ _ => none)
  | n + 1 => let p := zcu n; (zbN p)
def zaN (n : Nat) : (List Int) → Int → Int → Int → GTyp → Option ((List Int)) := (zcu n)

def zbv (zaf : (List Int)) (a_n_ : Int) (zR : GTyp) : Option ((List Int)) :=
  lp (ι := (List Int) × Int × Int) (fun L2 q1 => br (decide (q1.2.2 ≤ a_n_)) (cal (za5 q1.1 q1.2.1 q1.2.2 zR) fun y123 => asr (decide (y123.length = q1.1.length)) <| ck ((q1.2.2 + (20 : Int))) <| L2 (y123, q1.2.2, (q1.2.2 + (20 : Int)))) (cal (za5 q1.1 q1.2.1 a_n_ zR) fun y126 => asr (decide (y126.length = q1.1.length)) <| lp (ι := (List Int) × Int) (fun L129 q128 => br (decide (q128.2 < a_n_)) (ck (((2 : Int) * q128.2)) <| lp (ι := (List Int) × Int × Int) (fun L158 q157 => br (decide (q157.2.2 ≤ a_n_)) (ck ((q157.2.1 + q128.2)) <| cal (zaN fuel q157.1 q157.2.1 (q157.2.1 + q128.2) q157.2.2 zR) fun y171 => asr (decide (y171.length = q157.1.length)) <| ck (((2 : Int) * q128.2)) <| ck ((q157.2.2 + ((2 : Int) * q128.2))) <| L158 (y171, q157.2.2, (q157.2.2 + ((2 : Int) * q128.2)))) (ck ((q157.2.1 + q128.2)) <| jp (ι := (List Int)) (fun J177 => br (decide ((q157.2.1 + q128.2) < a_n_)) (cal (zaN fuel q157.1 q157.2.1 (q157.2.1 + q128.2) a_n_ zR) fun y178 => asr (decide (y178.length = q157.1.length)) <| J177 (y178)) (J177 (q157.1))) (fun q176 => ck ((q128.2 * (2 : Int))) <| L129 (q176, (q128.2 * (2 : Int)))))) ((q128.1, (0 : Int), ((2 : Int) * q128.2)))) (some (q128.1))) ((y126, (20 : Int))))) ((zaf, (0 : Int), (20 : Int)))

def za7 (a_x : (List Int)) (zR : GTyp) : Option ((List Int)) :=
  cal (zbv a_x ((a_x.length : Nat) : Int) zR) fun y1 => asr (decide (y1.length = a_x.length)) <| some (y1)

def zdj (zcF : GTyp) (a_l : (List Int)) (zcg : (List Int)) : Option ((List Int)) :=
  cal (za7 a_l zcF) fun y2 => asr (decide (y2.length = a_l.length)) <| asr (Nat.ble (y2.length + zcg.length) 68719476736) <| some ((y2 ++ zcg))

def zeE (a_t : GTab) (a_i : Int) : Option ((List Int)) :=
  cal (zco a_t a_i) fun y1 => br (!decide (y1.kind = (3 : Int))) (some (([] : (List Int)))) (cal (zbQ (0 : Int) (min (max y1.root (0 : Int)) (y1.items.length : Int))) fun y3 => cal (zbQ (min (max y1.root (0 : Int)) (y1.items.length : Int)) (y1.items.length : Int)) fun y5 => cal (zdj y1 y3 y5) fun y7 => some (y7))

def zeC (a_t : GTab) (a_i : Int) : Option ((List (List Int))) :=
  cal (zco a_t a_i) fun y3 => jp (ι := Bool) (fun J6 => br (!decide (y3.kind = (7 : Int))) (J6 ((!decide (y3.kind = (8 : Int))))) (J6 (false))) (fun q5 => jp (ι := Bool) (fun J9 => br q5 (J9 ((!decide (y3.kind = (9 : Int))))) (J9 (false))) (fun q8 => br q8 (some (([] : (List (List Int))))) (cal (zbQ (max y3.root (0 : Int)) (y3.fields.length : Int)) fun y15 => lp (ι := (List (List Int)) × Int) (fun L18 q17 => br (decide (q17.2 < ((y15.length : Nat) : Int))) (jp (ι := (List (List Int))) (fun J50 => asr (decide (0 ≤ q17.2 ∧ q17.2 < ((y15.length : Nat) : Int))) <| cal (y15[q17.2.toNat]?) fun y52 => ck ((((q17.1.length : Nat) : Int) - (1 : Int))) <| cal (getI y3.fields y52) fun y54 => jp (ι := Bool) (fun J56 => br (!decide (y3.kind = (9 : Int))) (J56 ((decide ((0 : Int) < y54.group)))) (J56 (false))) (fun q55 => jp (ι := Bool) (fun J59 => br q55 (J59 ((decide ((0 : Int) ≤ (((q17.1.length : Nat) : Int) - (1 : Int)))))) (J59 (false))) (fun q58 => jp (ι := Bool) (fun J62 => br q58 (ck ((y52 - (1 : Int))) <| cal (getI y3.fields (y52 - (1 : Int))) fun y65 => J62 ((decide (y65.group = y54.group)))) (J62 (false))) (fun q61 => br q61 (asr (decide (0 ≤ (((q17.1.length : Nat) : Int) - (1 : Int)) ∧ (((q17.1.length : Nat) : Int) - (1 : Int)) < ((q17.1.length : Nat) : Int))) <| asr (decide ((((q17.1.length : Nat) : Int) - (1 : Int)).toNat + 1 = q17.1.length)) <| cal (q17.1[(((q17.1.length : Nat) : Int) - (1 : Int)).toNat]?) fun y68 => asr (Nat.ble (y68.length + ([y52] : (List Int)).length) 68719476736) <| asr (decide (0 ≤ (((q17.1.length : Nat) : Int) - (1 : Int)) ∧ (((q17.1.length : Nat) : Int) - (1 : Int)) < ((q17.1.length : Nat) : Int))) <| asr (decide ((((q17.1.length : Nat) : Int) - (1 : Int)).toNat + 1 = q17.1.length)) <| cal (q17.1[(((q17.1.length : Nat) : Int) - (1 : Int)).toNat]?) fun y74 => J50 ((q17.1.set ((((q17.1.length : Nat) : Int) - (1 : Int)).toNat) (y68 ++ ([y52] : (List Int)))))) (asr (Nat.ble (q17.1.length + ([([y52] : (List Int))] : (List (List Int))).length) 68719476736) <| J50 ((q17.1 ++ [([y52] : (List Int))]))))))) (fun q49 => ck ((q17.2 + (1 : Int))) <| L18 (q49, (q17.2 + (1 : Int))))) (some (q17.1))) ((([] : (List (List Int))), (0 : Int))))))

def zdl (zex : (List GTyp) → Int → Option ((List Tag))) (a_l : (List GTyp)) (a_i : Int) : Option ((List Tag)) :=
  cal (getI a_l a_i) fun y1 => br (decide ((0 : Int) < (y1.tags.length : Int))) (cal (getI a_l a_i) fun y2 => asr (decide (0 ≤ (0 : Int) ∧ (0 : Int) ≤ (1 : Int) ∧ (1 : Int) ≤ (y2.tags.length : Int))) <| some (((y2.tags.take ((1 : Int)).toNat).drop (0 : Int).toNat))) (lp (ι := (List Tag) × Int) (fun L5 q4 => cal (getI a_l a_i) fun y13 => br (decide (q4.2 < (y13.fields.length : Int))) (cal (getI a_l a_i) fun y14 => cal (getI y14.fields q4.2) fun y15 => cal (zex a_l y15.ty) fun y16 => asr (Nat.ble (q4.1.length + y16.length) 68719476736) <| ck ((q4.2 + (1 : Int))) <| L5 ((q4.1 ++ y16), (q4.2 + (1 : Int)))) (some (q4.1))) ((([] : (List Tag)), (0 : Int))))
def zfL : Nat → ((List GTyp) → Int → Option ((List Tag)))
  | 0 => (fun _ _ => none)
  | n + 1 => let p := zfL n; (zdl p)
def zdX (n : Nat) : (List GTyp) → Int → Option ((List Tag)) := (zfL n)

def ze7 (a_t : GTab) (a_i : Int) : Option ((List Tag)) :=
  jp (ι := Bool) (fun J2 => br (decide (a_i < (0 : Int))) (J2 (true)) (J2 ((decide ((a_t.types.length : Int) ≤ a_i))))) (fun q1 => br q1 (some (([] : (List Tag)))) (cal (zdX fuel a_t.types a_i) fun y4 => asr (Nat.ble (([] : (List Tag)).length + y4.length) 68719476736) <| some ((([] : (List Tag)) ++ y4))))

def zfP (a_a : Tag) (a_b : Tag) : Option (Bool) :=
  jp (ι := Bool) (fun J2 => br (decide (a_a.cls < a_b.cls)) (J2 (true)) (jp (ι := Bool) (fun J5 => br (decide (a_a.cls = a_b.cls)) (J5 ((decide (a_a.num < a_b.num)))) (J5 (false))) (fun q4 => J2 (q4)))) (fun q1 => some (q1))

def zeW (a_t : GTab) (a_i : Int) : Option (Tag) :=
  cal (ze7 a_t a_i) fun y2 => lp (ι := Int × Tag) (fun L5 q4 => br (decide (q4.1 < (y2.length : Int))) (jp (ι := Tag) (fun J18 => jp (ι := Bool) (fun J22 => br (decide (q4.1 = (0 : Int))) (J22 (true)) (cal (getI y2 q4.1) fun y24 => cal (zfP y24 q4.2) fun y25 => J22 (y25))) (fun q21 => br q21 (cal (getI y2 q4.1) fun y26 => J18 (y26)) (J18 (q4.2)))) (fun q17 => ck ((q4.1 + (1 : Int))) <| L5 ((q4.1 + (1 : Int)), q17))) (some (q4.2))) (((0 : Int), Tag.zero))

def zdB (za0 : Str) (a_i : Int) : Option (Bool) :=
  cal (zbD za0) fun y1 => jp (ι := Bool) (fun J4 => br (!y1.2) (J4 (true)) (J4 ((decide (a_i < (0 : Int)))))) (fun q3 => jp (ι := Bool) (fun J7 => br q3 (J7 (true)) (J7 ((decide ((y1.1.types.length : Int) ≤ a_i))))) (fun q6 => br q6 (cal (zdc ) fun y9 => some (y9)) (cal (getI y1.1.types a_i) fun y10 => cal (zcT y1.1 a_i) fun y12 => cal (zeE y1.1 a_i) fun y13 => cal (zeC y1.1 a_i) fun y14 => cal (zdc ) fun y15 => jp (ι := Bool) (fun J17 => br (!y15) (J17 (true)) (J17 ((!decide ((y12.length : Int) = (y10.fields.length : Int)))))) (fun q16 => jp (ι := Bool) (fun J20 => br q16 (J20 (true)) (J20 ((!decide ((y13.length : Int) = (y10.items.length : Int)))))) (fun q19 => br q19 (some (false)) (lp (ι := Int) (fun L23 q22 => br (decide (q22 < (y12.length : Int))) (cal (getI y12 q22) fun y190 => jp (ι := Bool) (fun J192 => br (decide (y190 < (0 : Int))) (J192 (true)) (cal (getI y12 q22) fun y194 => J192 ((decide ((y12.length : Int) ≤ y194))))) (fun q191 => jp (ι := Bool) (fun J196 => br q191 (J196 (true)) (asr (decide (0 ≤ (0 : Int) ∧ (0 : Int) ≤ q22 ∧ q22 ≤ (y12.length : Int))) <| cal (getI y12 q22) fun y199 => cal (zdg ((y12.take (q22).toNat).drop (0 : Int).toNat) y199) fun y200 => J196 (y200))) (fun q195 => jp (ι := Bool) (fun J202 => br q195 (J202 (true)) (cal (getI y12 q22) fun y204 => J202 ((!decide ((decide (y204 < y10.root)) = (decide (q22 < y10.root))))))) (fun q201 => br q201 (some (false)) (jp (ι := Bool) (fun J206 => br (!decide (y10.kind = (7 : Int))) (J206 ((decide ((0 : Int) < q22)))) (J206 (false))) (fun q205 => jp (ι := Bool) (fun J209 => br q205 (J209 ((decide (q22 < y10.root)))) (J209 (false))) (fun q208 => jp (ι := Bool) (fun J212 => br q208 (ck ((q22 - (1 : Int))) <| cal (getI y12 (q22 - (1 : Int))) fun y215 => cal (getI y10.fields y215) fun y216 => cal (getI y12 q22) fun y217 => cal (getI y10.fields y217) fun y218 => cal (zeW y1.1 y216.ty) fun y219 => cal (zeW y1.1 y218.ty) fun y220 => cal (zfP y219 y220) fun y221 => J212 ((!y221))) (J212 (false))) (fun q211 => br q211 (some (false)) (ck ((q22 + (1 : Int))) <| L23 ((q22 + (1 : Int)))))))))))) (lp (ι := Int) (fun L224 q223 => br (decide (q223 < (y13.length : Int))) (cal (getI y13 q223) fun y290 => jp (ι := Bool) (fun J292 => br (decide (y290 < (0 : Int))) (J292 (true)) (cal (getI y13 q223) fun y294 => J292 ((decide ((y13.length : Int) ≤ y294))))) (fun q291 => jp (ι := Bool) (fun J296 => br q291 (J296 (true)) (asr (decide (0 ≤ (0 : Int) ∧ (0 : Int) ≤ q223 ∧ q223 ≤ (y13.length : Int))) <| cal (getI y13 q223) fun y299 => cal (zdg ((y13.take (q223).toNat).drop (0 : Int).toNat) y299) fun y300 => J296 (y300))) (fun q295 => jp (ι := Bool) (fun J302 => br q295 (J302 (true)) (jp (ι := Bool) (fun J305 => br (decide ((0 : Int) < q223)) (J305 ((decide (q223 < y10.root)))) (J305 (false))) (fun q304 => jp (ι := Bool) (fun J308 => br q304 (cal (getI y13 q223) fun y310 => cal (getI y10.items y310) fun y311 => ck ((q223 - (1 : Int))) <| cal (getI y13 (q223 - (1 : Int))) fun y313 => cal (getI y10.items y313) fun y314 => J308 ((decide (y311.number ≤ y314.number)))) (J308 (false))) (fun q307 => J302 (q307))))) (fun q301 => br q301 (some (false)) (ck ((q223 + (1 : Int))) <| L224 ((q223 + (1 : Int)))))))) (lp (ι := Int × Int) (fun L317 q316 => br (decide (q316.2 < (y14.length : Int))) (lp (ι := Int × Int) (fun L337 q336 => cal (getI y14 q316.2) fun y344 => br (decide (q336.2 < (y344.length : Int))) (cal (getI y14 q316.2) fun y345 => cal (getI y345 q336.2) fun y346 => br (!decide (y346 = q336.1)) (some (false)) (ck ((q336.1 + (1 : Int))) <| ck ((q336.2 + (1 : Int))) <| L337 ((q336.1 + (1 : Int)), (q336.2 + (1 : Int))))) (ck ((q316.2 + (1 : Int))) <| L317 (q336.1, (q316.2 + (1 : Int))))) ((q316.1, (0 : Int)))) (jp (ι := Bool) (fun J352 => br (decide ((y10.fields.length : Int) = (0 : Int))) (J352 (true)) (J352 ((decide (q316.1 = (y10.fields.length : Int)))))) (fun q351 => some (q351)))) ((y10.root, (0 : Int))))) (((0 : Int))))) (((0 : Int)))))))))
end Go.Proofs.Q


namespace Go.Proofs.Q
open Go.Sy
set_option linter.unusedVariables false
theorem T.or' {β : Type} {R : β → Prop} {c d : Bool} {K : Bool → Option β} (hK : T R (K (c || d))) : T R (Sy.jp (fun J => Sy.br c (J true) (J d)) K) := by cases c <;> exact hK
theorem T.and' {β : Type} {R : β → Prop} {c d : Bool} {K : Bool → Option β} (hK : T R (K (c && d))) : T R (Sy.jp (fun J => Sy.br c (J d) (J false)) K) := by cases c <;> exact hK
theorem zlh : ∀ {h n l i j}, SubT h l i j → h ≤ n → l.length ≤ 1000 → zdX n l (i : Int) = some (bgs h l (i : Int)) := by
  intro h
  induction h with
  | zero => intro n l i j h; exact h.elim
  | succ h ih =>
    intro n l i j hs hn hl
    obtain ⟨n, rfl⟩ : ∃ n', n = n' + 1 := ⟨n - 1, by omega⟩
    have hjl := hs.inb
    have hbl := zf3 hs
    have hlt := hs.lt
    obtain ⟨t, h1, h0, h2⟩ := hs
    have hti : (i : Int).toNat = i := Int.toNat_natCast i
    have hget : ∀ {β : Type} {R : β → Prop} {K : GTyp → Option β}, T R (K t) → T R (cal (getI l (i : Int)) K) := fun h => T.get (by omega) (by omega) fun y hy => by rw [hti, h1] at hy; cases hy; exact h
    refine T.eqs ?_
    show T _ (zdl (zdX n) l (i : Int))
    unfold zdl
    rw [zhd h1] at hbl ⊢
    refine hget (T.br (fun hb => hget (T.asd ⟨Int.le_refl _, by omega, by have := zOT hb; omega⟩ (T.some ?_))) fun hb => ?_)
    · have hb := zOT hb
      rw [if_pos (by omega)]; rfl
    have hb := zOF hb
    rw [if_neg (by omega)] at hbl ⊢
    have hfl : ∀ (k : Nat), (((t.fields.take k).flatMap fun f => bgs h l f.ty)).length ≤ 1000 := fun k => by
      have := zhs (l := t.fields) (f := fun f => bgs h l f.ty) (k := k)
      omega
    have hfc : t.fields.length ≤ 1000 := by
      unfold kidsT at h2
      obtain ⟨c, h3, h4⟩ := Kids.app h2
      have e : ∀ (r : List Int) (a b : Nat), Kids (SubT h l) r a b → r.length ≤ b - a := by
        intro r
        induction r with
        | nil => intro a b _; exact Nat.zero_le _
        | cons x r ih2 =>
          intro a b ⟨c, k0, k1, k2⟩
          have := ih2 _ _ k2
          have := k1.lt
          have := Kids.le SubT.le' k2
          simp only [List.length_cons]; omega
      have := e _ _ _ h3
      rw [List.length_map] at this
      have := Kids.le SubT.le' h4
      omega
    refine T.lp (ι := List Tag × Int) (fun q => 0 ≤ q.2 ∧ q.2 ≤ t.fields.length ∧ q.1 = (t.fields.take q.2.toNat).flatMap fun f => bgs h l f.ty) (fun q => ((t.fields.length : Int) - q.2).toNat) ⟨Int.le_refl _, by dsimp only; omega, rfl⟩ (by dsimp only; omega) fun L q ⟨q1, q2, q3⟩ hL => ?_
    obtain ⟨o, k⟩ := q
    dsimp only at q1 q2 q3 hL ⊢
    refine hget (T.br (fun hb2 => ?_) fun hb2 => T.some ?_)
    · have hb2 := zOT hb2
      refine hget (T.get q1 hb2 fun f hf => ?_)
      obtain ⟨c, d, e1, e2, e3, e4⟩ := Kids.mem3 SubT.le' h2 (zhO f (List.mem_of_getElem? hf))
      rw [e1]
      have hk1 : (k + 1).toNat = k.toNat + 1 := by omega
      have hnx := zh8 (f := fun f : GFld => bgs h l f.ty) hf
      have hle := hfl (k.toNat + 1)
      rw [hnx, List.length_append, e1] at hle
      have hle2 := hfl k.toNat
      refine T.eq (ih e2 (by omega) hl) (T.abl (by rw [q3]; omega) (T.ck (by omega) (hL _ ⟨by dsimp only; omega, by dsimp only; omega, ?_⟩ (by dsimp only; omega))))
      dsimp only
      rw [hk1, hnx, q3, e1]
    · have hb2 := zOF hb2
      rw [q3, List.take_of_length_le (by omega)]
def begT (t : GTab) (i : Int) : List Tag := bgs 17 t.types i
theorem zkE {t : GTab} (ht : TabOk t) (i : Int) : ze7 t i = some (begT t i) := by
  refine T.eqs ?_
  unfold ze7
  have htl := ht.types
  refine T.or' (T.br (fun h => T.some ?_) fun h => ?_)
  · unfold begT
    have : bgs 17 t.types i = [] := by
      unfold bgs
      have e : (if 0 ≤ i then t.types[i.toNat]? else none) = none := by
        split
        · rw [Bool.or_eq_true] at h
          rcases h with h | h
          · have := zOT h; omega
          · have := zOT h
            exact List.getElem?_eq_none (by omega)
        · rfl
      rw [e]
    rw [this]
  · rw [Bool.or_eq_false_iff] at h
    have h1 := zOF h.1
    have h2 := zOF h.2
    obtain ⟨j, hj⟩ := SubT.sub ht.kids i.toNat (by omega) (by omega)
    have e : ((i.toNat : Nat) : Int) = i := by omega
    have hb := zlh hj (n := fuel) (by unfold fuel; omega) (by omega)
    have hbl := zf3 hj
    have hjl := hj.inb
    rw [e] at hb hbl
    refine T.eq hb (T.abl (by rw [List.length_nil]; omega) (T.some ?_))
    rw [List.nil_append]; rfl
end Go.Proofs.Q


namespace Go.Proofs.Q
open Go.Sy
set_option linter.unusedVariables false

def rng (a b : Int) : List Int := (List.range (b - a).toNat).map fun (i : Nat) => a + (i : Int)
theorem ziu {a b : Int} (h : b ≤ a) : rng a b = [] := by
  unfold rng
  have : (b - a).toNat = 0 := by omega
  rw [this]; rfl
theorem zkJ {a b : Int} (h : a ≤ b) : rng a (b + 1) = rng a b ++ [b] := by
  unfold rng
  have : (b + 1 - a).toNat = (b - a).toNat + 1 := by omega
  rw [this, List.range_succ, List.map_append]
  congr 1
  show [a + (((b - a).toNat : Nat) : Int)] = [b]
  congr 1
  omega
theorem zcq {a b : Int} : (rng a b).length = (b - a).toNat := by unfold rng; rw [List.length_map, List.length_range]
theorem zko {a b : Int} {k : Nat} (h : a + k < b) : (rng a b)[k]? = some (a + k) := by
  unfold rng
  rw [List.getElem?_map, List.getElem?_range (by omega)]
  rfl
def grp (fs : List GFld) (k : Int) : Int := ((fs[k.toNat]?).map fun f => f.group).getD 0
def slot1 (c : Bool) (fs : List GFld) (out : List (List Int)) (k : Int) : List (List Int) :=
  if (c && decide (0 < grp fs k) && decide (0 < out.length)) = true ∧ grp fs (k - 1) = grp fs k then out.set (out.length - 1) ((out[out.length - 1]?).getD [] ++ [k]) else out ++ [[k]]
def slots (x : GTyp) : List (List Int) := (rng x.root x.fields.length).foldl (slot1 (!decide (x.kind = 9)) x.fields) []
def slotsT (t : GTab) (i : Int) : List (List Int) := match (if 0 ≤ i then t.types[i.toNat]? else none) with
  | none => []
  | some x => if x.kind = 7 ∨ x.kind = 8 ∨ x.kind = 9 then slots x else []
theorem zjs (c : Bool) (fs : List GFld) (out : List (List Int)) (k : Int) : (slot1 c fs out k).length ≤ out.length + 1 ∧ 0 < (slot1 c fs out k).length := by
  unfold slot1
  split
  · rename_i h
    have h1 := h.1
    rw [Bool.and_eq_true] at h1
    have h2 := zOT h1.2
    rw [List.length_set]
    omega
  · rw [List.length_append, List.length_singleton]
    omega
theorem ziZ {c : Bool} {fs : List GFld} : ∀ (l : List Int) (out : List (List Int)) (n : Nat), out.length ≤ n → (∀ s ∈ out, s.length ≤ n) → (l.foldl (slot1 c fs) out).length ≤ n + l.length ∧ ∀ s ∈ l.foldl (slot1 c fs) out, s.length ≤ n + l.length := by
  intro l
  induction l with
  | nil => intro out n h1 h2; exact ⟨h1, h2⟩
  | cons k r ih =>
    intro out n h1 h2
    have := ih (slot1 c fs out k) (n + 1) (by have := (zjs c fs out k).1; omega) (fun s hs => by
      unfold slot1 at hs
      split at hs
      · rcases List.mem_or_eq_of_mem_set hs with h | h
        · have := h2 s h; omega
        · rw [h, List.length_append, List.length_singleton]
          cases hg : out[out.length - 1]? with
          | none => simp
          | some y =>
            have := h2 y (List.mem_of_getElem? hg)
            show y.length + 1 ≤ n + 1
            omega
      · rcases List.mem_append.1 hs with h | h
        · have := h2 s h; omega
        · rw [List.mem_singleton.1 h]
          show 1 ≤ n + 1
          omega)
    rw [List.foldl_cons, List.length_cons]
    have e : n + 1 + r.length = n + (r.length + 1) := by omega
    rw [e] at this
    exact this
theorem kindNot {x : Int} {β : Type} {R : β → Prop} {K : Bool → Option β} (h : T R (K (!decide (x = 7 ∨ x = 8 ∨ x = 9)))) :
    T R (Sy.jp (fun J5 => Sy.br (!decide (x = 7)) (J5 (!decide (x = 8))) (J5 false)) fun q => Sy.jp (fun J8 => Sy.br q (J8 (!decide (x = 9))) (J8 false)) K) := by
  refine T.and' (T.and' ?_)
  have : ((!decide (x = 7)) && (!decide (x = 8)) && !decide (x = 9)) = !decide (x = 7 ∨ x = 8 ∨ x = 9) := by
    rw [Bool.eq_iff_iff]
    simp only [Bool.and_eq_true, Bool.not_eq_true', decide_eq_false_iff_not, not_or]
    exact and_assoc
  rw [this]
  exact h
theorem ziU {h : Nat} {l : List GTyp} {x : GTyp} {i j : Nat} (hk : Kids (SubT h l) (kidsT x) i j) (hj : j ≤ l.length) (hl : l.length ≤ 1000) : x.fields.length ≤ 1000 := by
  have := zi5 hk
  unfold kidsT at this
  rw [List.length_append, List.length_map] at this
  omega
theorem zeZ (a b : Int) (h0 : 0 ≤ a) (hb : b ≤ 1000000) (hb0 : 0 ≤ b) (ha : a ≤ 1000000) : zbQ a b = some (rng a b) := by
  refine T.eqs ?_
  unfold zbQ
  refine T.lp (ι := List Int × Int) (fun q => a ≤ q.2 ∧ (q.2 ≤ b ∨ q.2 = a) ∧ q.1 = rng a q.2) (fun q => (b - q.2).toNat) ⟨Int.le_refl _, .inr rfl, (ziu (Int.le_refl _)).symm⟩ (by dsimp only; omega) fun L q ⟨q1, q2, q3⟩ hL => ?_
  obtain ⟨l, k⟩ := q
  dsimp only at q1 q2 q3 hL ⊢
  refine T.br (fun h => ?_) fun h => T.some ?_
  · have h := zOT h
    have hl : l.length = (k - a).toNat := by rw [q3, zcq]
    exact T.abl (by rw [List.length_singleton]; omega) (T.ck (by omega) (hL _ ⟨by dsimp only; omega, by dsimp only; omega, by dsimp only; rw [zkJ q1, q3]⟩ (by dsimp only; omega)))
  · have h := zOF h
    rw [q3]
    rcases q2 with h2 | h2
    · have : k = b := by omega
      rw [this]
    · subst h2
      rw [ziu (Int.le_refl _), ziu (by omega)]
theorem zmp {t : GTab} (ht : TabOk t) (i : Int) : zeC t i = some (slotsT t i) := by
  refine T.eqs ?_
  unfold zeC
  have htl := ht.types
  by_cases hi : 0 ≤ i ∧ i < t.types.length
  · obtain ⟨x, hx⟩ : ∃ x, t.types[i.toNat]? = some x := ⟨_, List.getElem?_eq_getElem (by omega)⟩
    have hs : slotsT t i = if x.kind = 7 ∨ x.kind = 8 ∨ x.kind = 9 then slots x else [] := by unfold slotsT; rw [if_pos hi.1, hx]
    rw [hs]
    refine T.cal (Q := fun r => r = x) (by
      unfold zco
      refine T.or' (T.br (fun h => ?_) fun _ => T.get hi.1 hi.2 fun y hy => T.some (by rw [hx] at hy; cases hy; rfl))
      rw [zDF (by omega), zDF (by omega)] at h
      cases h) fun y _ hy => ?_
    subst hy
    refine kindNot (T.br (fun h => T.some ?_) fun h => ?_)
    · rw [if_neg (zOF ((Bool.not_eq_true' _).mp h))]
    have hk : y.kind = 7 ∨ y.kind = 8 ∨ y.kind = 9 := zOT ((Bool.not_eq_false' _).mp h)
    rw [if_pos hk]
    obtain ⟨j, hj⟩ := SubT.sub ht.kids i.toNat (by omega) (by omega)
    have hjl := hj.inb
    obtain ⟨x'', hx'', hok, hkid⟩ := hj
    rw [hx] at hx''; cases hx''
    have hfl := ziU hkid hjl (by omega)
    have hr0 := hok.root0
    have hr1 := hok.rootF hk
    have hmx : max y.root 0 = y.root := by omega
    rw [hmx]
    refine T.eq (zeZ _ _ hr0 (by omega) (by omega) (by omega)) ?_
    have hpl : (rng y.root y.fields.length).length = ((y.fields.length : Int) - y.root).toNat := zcq
    refine T.lp (ι := List (List Int) × Int) (fun q => 0 ≤ q.2 ∧ q.2 ≤ (y.fields.length : Int) - y.root ∧ q.1 = (rng y.root (y.root + q.2)).foldl (slot1 (!decide (y.kind = 9)) y.fields) [] ∧ (0 < q.1.length ↔ 0 < q.2)) (fun q => (((y.fields.length : Int) - y.root) - q.2).toNat) ⟨Int.le_refl _, by dsimp only; omega, by dsimp only; rw [ziu (by omega)]; rfl, by dsimp only [List.length_nil]; omega⟩ (by dsimp only; omega) fun L q ⟨q1, q2, q3, q4⟩ hL => ?_
    obtain ⟨out, p⟩ := q
    dsimp only at q1 q2 q3 q4 hL ⊢
    refine T.br (fun hb => ?_) fun hb => T.some ?_
    · have hb := zOT hb
      rw [hpl] at hb
      have hfold := ziZ (c := !decide (y.kind = 9)) (fs := y.fields) (rng y.root (y.root + p)) [] 0 (Nat.le_refl _) (fun s hs => by cases hs)
      rw [← q3, zcq] at hfold
      have hol : out.length ≤ 1000 := by omega
      have hget : (rng y.root y.fields.length)[p.toNat]? = some (y.root + p) := by
        rw [zko (by omega)]
        congr 2
        omega
      refine T.jp (ι := List (List Int)) (fun o => o = slot1 (!decide (y.kind = 9)) y.fields out (y.root + p)) (fun J kk => T.asd ⟨by omega, by rw [hpl]; omega⟩ (T.eq hget (T.ck (by omega) (T.get (by omega) (by omega) fun f hf => T.and' (T.and' (T.jp (fun b => b = true ↔ (!decide (y.kind = 9) && decide (0 < f.group) && decide (0 ≤ ((out.length : Nat) : Int) - 1)) = true ∧ grp y.fields (y.root + p - 1) = f.group) (fun J2 k2 => T.br (fun h1 => ?_) fun h1 => k2 _ ⟨fun h => (by cases h), fun h => by rw [h1] at h; cases h.1⟩) fun b hb2 => ?_)))))) fun o ho => T.ck (by omega) (hL _ ⟨by dsimp only; omega, by dsimp only; omega, by
          have e : y.root + (p + 1) = y.root + p + 1 := by omega
          dsimp only; rw [e, zkJ (by omega), List.foldl_append, ← q3, ho]; rfl, by dsimp only; rw [ho]; exact ⟨fun _ => by omega, fun _ => (zjs _ _ _ _).2⟩⟩ (by dsimp only; omega))
      · have h2 := h1
        rw [Bool.and_eq_true] at h2
        have h3 := zOT h2.2
        have h4 : 0 < p := q4.1 (by omega)
        refine T.ck (by omega) (T.get (by omega) (by omega) fun g hg => k2 _ ?_)
        rw [decide_eq_true_iff, h1]
        have : grp y.fields (y.root + p - 1) = g.group := by unfold grp; rw [hg]; rfl
        rw [this]
        exact ⟨fun h => ⟨rfl, h⟩, fun h => h.2⟩
      · have hgf : grp y.fields (y.root + p) = f.group := by unfold grp; rw [hf]; rfl
        have hiff : decide (0 < out.length) = decide (0 ≤ ((out.length : Nat) : Int) - 1) := by rw [decide_eq_decide]; omega
        refine T.br (fun hbt => ?_) fun hbf => ?_
        · have hc := hb2.1 hbt
          have h2 := hc.1
          rw [Bool.and_eq_true] at h2
          have h3 := zOT h2.2
          obtain ⟨z, hz⟩ : ∃ z, out[out.length - 1]? = some z := ⟨_, List.getElem?_eq_getElem (by omega)⟩
          have ei : (((out.length : Nat) : Int) - 1).toNat = out.length - 1 := by omega
          have hzl := hfold.2 z (List.mem_of_getElem? hz)
          have hs1 : slot1 (!decide (y.kind = 9)) y.fields out (y.root + p) = out.set (out.length - 1) (z ++ [y.root + p]) := by
            unfold slot1
            rw [hgf, hiff, if_pos hc, hz]; rfl
          rw [hs1] at kk
          have hz' : out[(((out.length : Nat) : Int) - 1).toNat]? = some z := by rw [ei]; exact hz
          refine T.asd ⟨by omega, by omega⟩ (T.asd (by omega) (T.eq hz' (T.abl (by rw [List.length_singleton]; omega) (T.asd ⟨by omega, by omega⟩ (T.asd (by omega) (T.eq hz' (kk _ ?_)))))))
          rw [ei]
        · have hs1 : slot1 (!decide (y.kind = 9)) y.fields out (y.root + p) = out ++ [[y.root + p]] := by
            unfold slot1
            rw [hgf, hiff, if_neg (fun h => by rw [hb2.2 h] at hbf; cases hbf)]
          exact T.abl (by rw [List.length_singleton]; omega) (kk _ hs1.symm)
    · have hb := zOF hb
      rw [hpl] at hb
      have : y.root + p = y.fields.length := by omega
      rw [q3, this]; rfl
  · refine T.cal (Q := fun r => r.kind = 0) (by
      unfold zco
      refine T.or' (T.br (fun h => T.some rfl) fun h => ?_)
      rw [Bool.or_eq_false_iff] at h
      have h1 := zOF h.1
      have h2 := zOF h.2
      omega) fun y _ hy => ?_
    refine kindNot (T.br (fun h => T.some ?_) fun h => ?_)
    · unfold slotsT
      split
      · rfl
      · rename_i x hx
        split at hx
        · have := (List.getElem?_eq_some_iff.1 hx).1
          omega
        · cases hx
    · have := zOT ((Bool.not_eq_false' _).mp h)
      omega
end Go.Proofs.Q


namespace Go.Sy
def gIns (cmp : Int → Int → Option Int) (zaf : (List Int)) (a_a : Int) (a_b : Int)  : Option ((List Int)) :=
  ck ((a_a + (1 : Int))) <| lp (ι := (List Int) × Int) (fun L3 q2 => br (decide (q2.2 < a_b)) (lp (ι := (List Int) × Int) (fun L50 q49 => jp (ι := Bool) (fun J75 => br (decide (a_a < q49.2)) (cal (getI q49.1 q49.2) fun y77 => ck ((q49.2 - (1 : Int))) <| cal (getI q49.1 (q49.2 - (1 : Int))) fun y79 => cal (cmp y77 y79) fun y80 => J75 ((decide (y80 < (0 : Int))))) (J75 (false))) (fun q74 => br q74 (ck ((q49.2 - (1 : Int))) <| ck ((q49.2 - (1 : Int))) <| asr (decide (0 ≤ (q49.2 - (1 : Int)) ∧ (q49.2 - (1 : Int)) < ((q49.1.length : Nat) : Int))) <| asr (decide (0 ≤ q49.2 ∧ q49.2 < ((q49.1.length : Nat) : Int))) <| cal (q49.1[(q49.2 - (1 : Int)).toNat]?) fun y85 => cal (q49.1[q49.2.toNat]?) fun y86 => asr (decide (0 ≤ q49.2 ∧ q49.2 < ((q49.1.length : Nat) : Int))) <| cal (q49.1[q49.2.toNat]?) fun y88 => asr (decide (0 ≤ (q49.2 - (1 : Int)) ∧ (q49.2 - (1 : Int)) < ((q49.1.length : Nat) : Int))) <| cal ((q49.1.set q49.2.toNat y85)[(q49.2 - (1 : Int)).toNat]?) fun y90 => ck ((q49.2 - (1 : Int))) <| L50 (((q49.1.set q49.2.toNat y85).set ((q49.2 - (1 : Int)).toNat) y86), (q49.2 - (1 : Int)))) (ck ((q2.2 + (1 : Int))) <| L3 (q49.1, (q2.2 + (1 : Int)))))) ((q2.1, q2.2))) (some (q2.1))) ((zaf, (a_a + (1 : Int))))
def gSwp (zaf : (List Int)) (a_a : Int) (a_b : Int) (a_n_ : Int)  : Option ((List Int)) :=
  lp (ι := (List Int) × Int) (fun L2 q1 => br (decide (q1.2 < a_n_)) (ck ((a_a + q1.2)) <| ck ((a_b + q1.2)) <| ck ((a_b + q1.2)) <| asr (decide (0 ≤ (a_b + q1.2) ∧ (a_b + q1.2) < ((q1.1.length : Nat) : Int))) <| ck ((a_a + q1.2)) <| asr (decide (0 ≤ (a_a + q1.2) ∧ (a_a + q1.2) < ((q1.1.length : Nat) : Int))) <| cal (q1.1[(a_b + q1.2).toNat]?) fun y35 => cal (q1.1[(a_a + q1.2).toNat]?) fun y36 => asr (decide (0 ≤ (a_a + q1.2) ∧ (a_a + q1.2) < ((q1.1.length : Nat) : Int))) <| cal (q1.1[(a_a + q1.2).toNat]?) fun y38 => asr (decide (0 ≤ (a_b + q1.2) ∧ (a_b + q1.2) < ((q1.1.length : Nat) : Int))) <| cal ((q1.1.set ((a_a + q1.2).toNat) y35)[(a_b + q1.2).toNat]?) fun y40 => ck ((q1.2 + (1 : Int))) <| L2 (((q1.1.set ((a_a + q1.2).toNat) y35).set ((a_b + q1.2).toNat) y36), (q1.2 + (1 : Int)))) (some (q1.1))) ((zaf, (0 : Int)))
def gRot (zaf : (List Int)) (a_a : Int) (a_m : Int) (a_b : Int)  : Option ((List Int)) :=
  ck ((a_m - a_a)) <| ck ((a_b - a_m)) <| lp (ι := (List Int) × Int × Int) (fun L4 q3 => br (!decide (q3.2.1 = q3.2.2)) (br (decide (q3.2.2 < q3.2.1)) (ck ((a_m - q3.2.1)) <| cal (gSwp q3.1 (a_m - q3.2.1) a_m q3.2.2) fun y19 => asr (decide (y19.length = q3.1.length)) <| ck ((q3.2.1 - q3.2.2)) <| L4 (y19, (q3.2.1 - q3.2.2), q3.2.2)) (ck ((a_m - q3.2.1)) <| ck ((a_m + q3.2.2)) <| ck (((a_m + q3.2.2) - q3.2.1)) <| cal (gSwp q3.1 (a_m - q3.2.1) ((a_m + q3.2.2) - q3.2.1) q3.2.1) fun y25 => asr (decide (y25.length = q3.1.length)) <| ck ((q3.2.2 - q3.2.1)) <| L4 (y25, q3.2.1, (q3.2.2 - q3.2.1)))) (ck ((a_m - q3.2.1)) <| cal (gSwp q3.1 (a_m - q3.2.1) a_m q3.2.1) fun y29 => asr (decide (y29.length = q3.1.length)) <| some (y29))) ((zaf, (a_m - a_a), (a_b - a_m)))
def gSym (cmp : Int → Int → Option Int) (sm : (List Int) → Int → Int → Int → Option ((List Int))) (zaf : (List Int)) (a_a : Int) (a_m : Int) (a_b : Int)  : Option ((List Int)) :=
  ck ((a_m - a_a)) <| br (decide ((a_m - a_a) = (1 : Int))) (lp (ι := (List Int) × Int × Int) (fun L3 q2 => br (decide (q2.2.1 < q2.2.2)) (ck ((q2.2.1 + q2.2.2)) <| ck ((((UInt64.ofNat ((q2.2.1 + q2.2.2) % 18446744073709551616).toNat) >>> (1 : UInt64)).toNat : Int)) <| cal (getI q2.1 (((UInt64.ofNat ((q2.2.1 + q2.2.2) % 18446744073709551616).toNat) >>> (1 : UInt64)).toNat : Int)) fun y102 => cal (getI q2.1 a_a) fun y103 => cal (cmp y102 y103) fun y104 => br (decide (y104 < (0 : Int))) (ck (((((UInt64.ofNat ((q2.2.1 + q2.2.2) % 18446744073709551616).toNat) >>> (1 : UInt64)).toNat : Int) + (1 : Int))) <| L3 (q2.1, ((((UInt64.ofNat ((q2.2.1 + q2.2.2) % 18446744073709551616).toNat) >>> (1 : UInt64)).toNat : Int) + (1 : Int)), q2.2.2)) (L3 (q2.1, q2.2.1, (((UInt64.ofNat ((q2.2.1 + q2.2.2) % 18446744073709551616).toNat) >>> (1 : UInt64)).toNat : Int)))) (lp (ι := (List Int) × Int) (fun L107 q106 => ck ((q2.2.1 - (1 : Int))) <| br (decide (q106.2 < (q2.2.1 - (1 : Int)))) (ck ((q106.2 + (1 : Int))) <| ck ((q106.2 + (1 : Int))) <| asr (decide (0 ≤ (q106.2 + (1 : Int)) ∧ (q106.2 + (1 : Int)) < ((q106.1.length : Nat) : Int))) <| asr (decide (0 ≤ q106.2 ∧ q106.2 < ((q106.1.length : Nat) : Int))) <| cal (q106.1[(q106.2 + (1 : Int)).toNat]?) fun y137 => cal (q106.1[q106.2.toNat]?) fun y138 => asr (decide (0 ≤ q106.2 ∧ q106.2 < ((q106.1.length : Nat) : Int))) <| cal (q106.1[q106.2.toNat]?) fun y140 => asr (decide (0 ≤ (q106.2 + (1 : Int)) ∧ (q106.2 + (1 : Int)) < ((q106.1.length : Nat) : Int))) <| cal ((q106.1.set q106.2.toNat y137)[(q106.2 + (1 : Int)).toNat]?) fun y142 => ck ((q106.2 + (1 : Int))) <| L107 (((q106.1.set q106.2.toNat y137).set ((q106.2 + (1 : Int)).toNat) y138), (q106.2 + (1 : Int)))) (some (q106.1))) ((q2.1, a_a)))) ((zaf, a_m, a_b))) (ck ((a_b - a_m)) <| br (decide ((a_b - a_m) = (1 : Int))) (lp (ι := (List Int) × Int × Int) (fun L148 q147 => br (decide (q147.2.1 < q147.2.2)) (ck ((q147.2.1 + q147.2.2)) <| ck ((((UInt64.ofNat ((q147.2.1 + q147.2.2) % 18446744073709551616).toNat) >>> (1 : UInt64)).toNat : Int)) <| cal (getI q147.1 a_m) fun y241 => cal (getI q147.1 (((UInt64.ofNat ((q147.2.1 + q147.2.2) % 18446744073709551616).toNat) >>> (1 : UInt64)).toNat : Int)) fun y242 => cal (cmp y241 y242) fun y243 => br (!(decide (y243 < (0 : Int)))) (ck (((((UInt64.ofNat ((q147.2.1 + q147.2.2) % 18446744073709551616).toNat) >>> (1 : UInt64)).toNat : Int) + (1 : Int))) <| L148 (q147.1, ((((UInt64.ofNat ((q147.2.1 + q147.2.2) % 18446744073709551616).toNat) >>> (1 : UInt64)).toNat : Int) + (1 : Int)), q147.2.2)) (L148 (q147.1, q147.2.1, (((UInt64.ofNat ((q147.2.1 + q147.2.2) % 18446744073709551616).toNat) >>> (1 : UInt64)).toNat : Int)))) (lp (ι := (List Int) × Int) (fun L246 q245 => br (decide (q147.2.1 < q245.2)) (ck ((q245.2 - (1 : Int))) <| ck ((q245.2 - (1 : Int))) <| asr (decide (0 ≤ (q245.2 - (1 : Int)) ∧ (q245.2 - (1 : Int)) < ((q245.1.length : Nat) : Int))) <| asr (decide (0 ≤ q245.2 ∧ q245.2 < ((q245.1.length : Nat) : Int))) <| cal (q245.1[(q245.2 - (1 : Int)).toNat]?) fun y273 => cal (q245.1[q245.2.toNat]?) fun y274 => asr (decide (0 ≤ q245.2 ∧ q245.2 < ((q245.1.length : Nat) : Int))) <| cal (q245.1[q245.2.toNat]?) fun y276 => asr (decide (0 ≤ (q245.2 - (1 : Int)) ∧ (q245.2 - (1 : Int)) < ((q245.1.length : Nat) : Int))) <| cal ((q245.1.set q245.2.toNat y273)[(q245.2 - (1 : Int)).toNat]?) fun y278 => ck ((q245.2 - (1 : Int))) <| L246 (((q245.1.set q245.2.toNat y273).set ((q245.2 - (1 : Int)).toNat) y274), (q245.2 - (1 : Int)))) (some (q245.1))) ((q147.1, a_m)))) ((zaf, a_a, a_m))) (ck ((a_a + a_b)) <| ck ((((UInt64.ofNat ((a_a + a_b) % 18446744073709551616).toNat) >>> (1 : UInt64)).toNat : Int)) <| ck (((((UInt64.ofNat ((a_a + a_b) % 18446744073709551616).toNat) >>> (1 : UInt64)).toNat : Int) + a_m)) <| jp (ι := Int × Int) (fun J286 => br (decide ((((UInt64.ofNat ((a_a + a_b) % 18446744073709551616).toNat) >>> (1 : UInt64)).toNat : Int) < a_m)) (ck ((((((UInt64.ofNat ((a_a + a_b) % 18446744073709551616).toNat) >>> (1 : UInt64)).toNat : Int) + a_m) - a_b)) <| J286 ((((((UInt64.ofNat ((a_a + a_b) % 18446744073709551616).toNat) >>> (1 : UInt64)).toNat : Int) + a_m) - a_b), (((UInt64.ofNat ((a_a + a_b) % 18446744073709551616).toNat) >>> (1 : UInt64)).toNat : Int))) (J286 (a_a, a_m))) (fun q285 => ck ((((((UInt64.ofNat ((a_a + a_b) % 18446744073709551616).toNat) >>> (1 : UInt64)).toNat : Int) + a_m) - (1 : Int))) <| lp (ι := (List Int) × Int × Int) (fun L290 q289 => br (decide (q289.2.1 < q289.2.2)) (ck ((q289.2.1 + q289.2.2)) <| ck ((((UInt64.ofNat ((q289.2.1 + q289.2.2) % 18446744073709551616).toNat) >>> (1 : UInt64)).toNat : Int)) <| ck (((((((UInt64.ofNat ((a_a + a_b) % 18446744073709551616).toNat) >>> (1 : UInt64)).toNat : Int) + a_m) - (1 : Int)) - (((UInt64.ofNat ((q289.2.1 + q289.2.2) % 18446744073709551616).toNat) >>> (1 : UInt64)).toNat : Int))) <| cal (getI q289.1 ((((((UInt64.ofNat ((a_a + a_b) % 18446744073709551616).toNat) >>> (1 : UInt64)).toNat : Int) + a_m) - (1 : Int)) - (((UInt64.ofNat ((q289.2.1 + q289.2.2) % 18446744073709551616).toNat) >>> (1 : UInt64)).toNat : Int))) fun y354 => cal (getI q289.1 (((UInt64.ofNat ((q289.2.1 + q289.2.2) % 18446744073709551616).toNat) >>> (1 : UInt64)).toNat : Int)) fun y355 => cal (cmp y354 y355) fun y356 => br (!(decide (y356 < (0 : Int)))) (ck (((((UInt64.ofNat ((q289.2.1 + q289.2.2) % 18446744073709551616).toNat) >>> (1 : UInt64)).toNat : Int) + (1 : Int))) <| L290 (q289.1, ((((UInt64.ofNat ((q289.2.1 + q289.2.2) % 18446744073709551616).toNat) >>> (1 : UInt64)).toNat : Int) + (1 : Int)), q289.2.2)) (L290 (q289.1, q289.2.1, (((UInt64.ofNat ((q289.2.1 + q289.2.2) % 18446744073709551616).toNat) >>> (1 : UInt64)).toNat : Int)))) (ck ((((((UInt64.ofNat ((a_a + a_b) % 18446744073709551616).toNat) >>> (1 : UInt64)).toNat : Int) + a_m) - q289.2.1)) <| jp (ι := Bool) (fun J360 => br (decide (q289.2.1 < a_m)) (J360 ((decide (a_m < (((((UInt64.ofNat ((a_a + a_b) % 18446744073709551616).toNat) >>> (1 : UInt64)).toNat : Int) + a_m) - q289.2.1))))) (J360 (false))) (fun q359 => jp (ι := (List Int)) (fun J363 => br q359 (cal (gRot q289.1 q289.2.1 a_m (((((UInt64.ofNat ((a_a + a_b) % 18446744073709551616).toNat) >>> (1 : UInt64)).toNat : Int) + a_m) - q289.2.1)) fun y364 => asr (decide (y364.length = q289.1.length)) <| J363 (y364)) (J363 (q289.1))) (fun q362 => jp (ι := Bool) (fun J367 => br (decide (a_a < q289.2.1)) (J367 ((decide (q289.2.1 < (((UInt64.ofNat ((a_a + a_b) % 18446744073709551616).toNat) >>> (1 : UInt64)).toNat : Int))))) (J367 (false))) (fun q366 => jp (ι := (List Int)) (fun J370 => br q366 (cal (sm q362 a_a q289.2.1 (((UInt64.ofNat ((a_a + a_b) % 18446744073709551616).toNat) >>> (1 : UInt64)).toNat : Int)) fun y371 => asr (decide (y371.length = q362.length)) <| J370 (y371)) (J370 (q362))) (fun q369 => jp (ι := Bool) (fun J374 => br (decide ((((UInt64.ofNat ((a_a + a_b) % 18446744073709551616).toNat) >>> (1 : UInt64)).toNat : Int) < (((((UInt64.ofNat ((a_a + a_b) % 18446744073709551616).toNat) >>> (1 : UInt64)).toNat : Int) + a_m) - q289.2.1))) (J374 ((decide ((((((UInt64.ofNat ((a_a + a_b) % 18446744073709551616).toNat) >>> (1 : UInt64)).toNat : Int) + a_m) - q289.2.1) < a_b)))) (J374 (false))) (fun q373 => br q373 (cal (sm q369 (((UInt64.ofNat ((a_a + a_b) % 18446744073709551616).toNat) >>> (1 : UInt64)).toNat : Int) (((((UInt64.ofNat ((a_a + a_b) % 18446744073709551616).toNat) >>> (1 : UInt64)).toNat : Int) + a_m) - q289.2.1) a_b) fun y376 => asr (decide (y376.length = q369.length)) <| some (y376)) (some (q369))))))))) ((zaf, q285.1, q285.2)))))
def gStb (cmp : Int → Int → Option Int) (sm : (List Int) → Int → Int → Int → Option ((List Int))) (zaf : (List Int)) (a_n_ : Int)  : Option ((List Int)) :=
  lp (ι := (List Int) × Int × Int) (fun L2 q1 => br (decide (q1.2.2 ≤ a_n_)) (cal (gIns cmp q1.1 q1.2.1 q1.2.2) fun y123 => asr (decide (y123.length = q1.1.length)) <| ck ((q1.2.2 + (20 : Int))) <| L2 (y123, q1.2.2, (q1.2.2 + (20 : Int)))) (cal (gIns cmp q1.1 q1.2.1 a_n_) fun y126 => asr (decide (y126.length = q1.1.length)) <| lp (ι := (List Int) × Int) (fun L129 q128 => br (decide (q128.2 < a_n_)) (ck (((2 : Int) * q128.2)) <| lp (ι := (List Int) × Int × Int) (fun L158 q157 => br (decide (q157.2.2 ≤ a_n_)) (ck ((q157.2.1 + q128.2)) <| cal (sm q157.1 q157.2.1 (q157.2.1 + q128.2) q157.2.2) fun y171 => asr (decide (y171.length = q157.1.length)) <| ck (((2 : Int) * q128.2)) <| ck ((q157.2.2 + ((2 : Int) * q128.2))) <| L158 (y171, q157.2.2, (q157.2.2 + ((2 : Int) * q128.2)))) (ck ((q157.2.1 + q128.2)) <| jp (ι := (List Int)) (fun J177 => br (decide ((q157.2.1 + q128.2) < a_n_)) (cal (sm q157.1 q157.2.1 (q157.2.1 + q128.2) a_n_) fun y178 => asr (decide (y178.length = q157.1.length)) <| J177 (y178)) (J177 (q157.1))) (fun q176 => ck ((q128.2 * (2 : Int))) <| L129 (q176, (q128.2 * (2 : Int)))))) ((q128.1, (0 : Int), ((2 : Int) * q128.2)))) (some (q128.1))) ((y126, (20 : Int))))) ((zaf, (0 : Int), (20 : Int)))
end Go.Sy


namespace Go.Sy
set_option linter.unusedVariables false

structure Sto (R : Int → Int → Prop) : Prop where
  irr : ∀ x, ¬ R x x
  tr : ∀ {x y z}, R x y → R y z → R x z
  tri : ∀ {x y}, x ≠ y → R x y ∨ R y x
theorem Sto.not {R : Int → Int → Prop} (h : Sto R) {x y : Int} (hn : ¬ R y x) (hne : x ≠ y) : R x y := (h.tri hne).resolve_right hn
structure Cmp (cmp : Int → Int → Option Int) (R : Int → Int → Prop) (D : Int → Prop) : Prop where
  sto : Sto R
  go : ∀ {x y}, D x → D y → x < y → ∃ c, cmp y x = some c ∧ (c < 0 ↔ R y x)

theorem zoa {α : Type} {u : List α} {x : α} {v : List α} {k : Nat} (h : k = u.length) : (u ++ x :: v)[k]? = some x := by
  subst h; rw [List.getElem?_append_right (Nat.le_refl _), Nat.sub_self]; rfl
theorem zpC {α : Type} {u : List α} {x y : α} {v : List α} {k : Nat} (h : k = u.length) : (u ++ x :: v).set k y = u ++ y :: v := by
  subst h; rw [List.set_append_right _ _ (Nat.le_refl _), Nat.sub_self]; rfl
theorem zj6 {α : Type} {u : List α} {x y : α} {v w : List α} {k : Nat} (h : k = u.length + 1 + v.length) : (u ++ x :: (v ++ y :: w))[k]? = some y := by
  have e : u ++ x :: (v ++ y :: w) = (u ++ x :: v) ++ y :: w := by simp
  rw [e]; exact zoa (by rw [h]; simp; omega)
theorem zoR {α : Type} {u : List α} {x y z : α} {v w : List α} {k : Nat} (h : k = u.length + 1 + v.length) : (u ++ x :: (v ++ y :: w)).set k z = u ++ x :: (v ++ z :: w) := by
  have e : u ++ x :: (v ++ y :: w) = (u ++ x :: v) ++ y :: w := by simp
  rw [e, zpC (by rw [h]; simp; omega)]; simp
theorem zpu {α : Type} {l : List α} {k : Nat} (h : k < l.length) : ∃ x, l[k]? = some x ∧ l.drop k = x :: l.drop (k + 1) ∧ l.take (k + 1) = l.take k ++ [x] := by
  refine ⟨l[k], List.getElem?_eq_getElem h, List.drop_eq_getElem_cons h, ?_⟩
  rw [List.take_add_one, List.getElem?_eq_getElem h]; rfl

theorem zo8 {l : List Int} {i x : Int} (h0 : 0 ≤ i) (h : l[i.toNat]? = some x) : getI l i = some x := by
  unfold getI
  cases i with
  | ofNat n => exact h
  | negSucc n => omega

/-! ### Blocks that are swapped, and turned -/
theorem zli {p x q y r : List Int} {a b n : Int} (ha : a = p.length) (hb : b = (p.length + x.length + q.length : Nat)) (hn : n = x.length) (hxy : x.length = y.length) (hl : (p ++ (x ++ (q ++ (y ++ r)))).length ≤ 1000000) :
    gSwp (p ++ (x ++ (q ++ (y ++ r)))) a b n = some (p ++ (y ++ (q ++ (x ++ r)))) := by
  simp only [List.length_append] at hl
  refine T.fin ?_
  unfold gSwp
  refine T.lp (ι := List Int × Int) (fun s => 0 ≤ s.2 ∧ s.2 ≤ n ∧ s.1 = p ++ (y.take s.2.toNat ++ (x.drop s.2.toNat ++ (q ++ (x.take s.2.toNat ++ (y.drop s.2.toNat ++ r)))))) (fun s => (n - s.2).toNat) ⟨Int.le_refl _, by dsimp only; omega, rfl⟩ (by dsimp only; omega) fun L s hs hL => ?_
  obtain ⟨d, i⟩ := s
  obtain ⟨h0, h1, hd⟩ := hs
  dsimp only at h0 h1 hd hL ⊢
  refine T.br (fun h2 => ?_) fun h2 => ?_
  · have h2 := zOT h2
    obtain ⟨xi, x1, x2, x3⟩ := zpu (l := x) (k := i.toNat) (by omega)
    obtain ⟨yi, y1, y2, y3⟩ := zpu (l := y) (k := i.toNat) (by omega)
    have ek : (i + 1).toNat = i.toNat + 1 := by omega
    have hd2 : d = (p ++ y.take i.toNat) ++ xi :: ((x.drop (i.toNat + 1) ++ (q ++ x.take i.toNat)) ++ yi :: (y.drop (i.toNat + 1) ++ r)) := by
      rw [hd, x2, y2]; simp
    have l1 : (y.take i.toNat).length = i.toNat := by rw [List.length_take]; omega
    have l2 : (x.take i.toNat).length = i.toNat := by rw [List.length_take]; omega
    have l3 : (x.drop (i.toNat + 1)).length = x.length - (i.toNat + 1) := List.length_drop
    have l4 : (y.drop (i.toNat + 1)).length = y.length - (i.toNat + 1) := List.length_drop
    have u1 : (a + i).toNat = (p ++ y.take i.toNat).length := by rw [List.length_append, l1]; omega
    have u2 : (b + i).toNat = (p ++ y.take i.toNat).length + 1 + (x.drop (i.toNat + 1) ++ (q ++ x.take i.toNat)).length := by
      simp only [List.length_append, l1, l2, l3]; omega
    have hdl : d.length = p.length + x.length + q.length + y.length + r.length := by
      rw [hd2]; simp only [List.length_append, List.length_cons, l1, l2, l3, l4]; omega
    rw [hd2] at hdl ⊢
    rw [hdl]
    refine T.ck (by omega) (T.ck (by omega) (T.ck (by omega) (T.asd (by omega) (T.ck (by omega) (T.asd (by omega) (T.eq (zj6 u2) (T.eq (zoa u1) (T.asd (by omega) (T.eq (zoa u1) (T.asd (by omega) ?_))))))))))
    rw [zpC u1]
    refine T.eq (zj6 u2) (T.ck (by omega) ?_)
    rw [zoR u2]
    refine hL _ ⟨by dsimp only; omega, by dsimp only; omega, ?_⟩ (by dsimp only; omega)
    dsimp only
    rw [ek, x3, y3]; simp
  · have h2 := zOF h2
    refine T.some ?_
    rw [hd, List.take_of_length_le (by omega), List.take_of_length_le (by omega), List.drop_eq_nil_of_le (by omega), List.drop_eq_nil_of_le (by omega)]
    rfl
theorem zpn {p u v t : List Int} {a m b : Int} (ha : a = p.length) (hm : m = (p.length + u.length : Nat)) (hb : b = (p.length + u.length + v.length : Nat)) (hu : u ≠ []) (hv : v ≠ []) (hl : (p ++ (u ++ (v ++ t))).length ≤ 1000000) :
    gRot (p ++ (u ++ (v ++ t))) a m b = some (p ++ (v ++ (u ++ t))) := by
  have hu0 := List.length_pos_iff.2 hu
  have hv0 := List.length_pos_iff.2 hv
  have hl0 := hl
  simp only [List.length_append] at hl
  refine T.fin ?_
  unfold gRot
  refine T.ck (by omega) (T.ck (by omega) ?_)
  refine T.lp (ι := List Int × Int × Int) (fun s => ∃ p1 u1 v1 t1 : List Int, s = (p1 ++ (u1 ++ (v1 ++ t1)), (u1.length : Int), (v1.length : Int)) ∧ m = (p1.length + u1.length : Nat) ∧ u1 ≠ [] ∧ v1 ≠ [] ∧ p1 ++ (v1 ++ (u1 ++ t1)) = p ++ (v ++ (u ++ t)) ∧ (p1 ++ (u1 ++ (v1 ++ t1))).length ≤ 1000000) (fun s => (s.2.1 + s.2.2).toNat) ⟨p, u, v, t, by rw [show m - a = (u.length : Int) by omega, show b - m = (v.length : Int) by omega], hm, hu, hv, rfl, hl0⟩ (by dsimp only; omega) fun L s hs hL => ?_
  obtain ⟨p1, u1, v1, t1, rfl, hm1, hu1, hv1, he, hl1⟩ := hs
  have hu10 := List.length_pos_iff.2 hu1
  have hv10 := List.length_pos_iff.2 hv1
  dsimp only at hL ⊢
  have hl2 := hl1
  simp only [List.length_append] at hl2
  refine T.br (fun h2 => ?_) fun h2 => ?_
  · have h2 : ¬ (u1.length : Int) = v1.length := by simpa using h2
    refine T.br (fun h3 => ?_) fun h3 => ?_
    · have h3 := zOT h3
      obtain ⟨x, y, e1, e2⟩ : ∃ x y, u1 = x ++ y ∧ x.length = v1.length := ⟨u1.take v1.length, u1.drop v1.length, (List.take_append_drop _ _).symm, by rw [List.length_take]; omega⟩
      subst e1
      simp only [List.length_append] at hm1 h2 h3 hl2 hu10 hL ⊢
      have hs := zli (p := p1) (x := x) (q := y) (y := v1) (r := t1) (a := m - ((x.length + y.length : Nat) : Int)) (b := m) (n := (v1.length : Int)) (by omega) (by omega) (by omega) e2 (by simp only [List.length_append]; omega)
      rw [show p1 ++ (x ++ y ++ (v1 ++ t1)) = p1 ++ (x ++ (y ++ (v1 ++ t1))) by simp]
      refine T.ck (by omega) (T.eq hs (T.asd (by simp only [List.length_append]; omega) (T.ck (by omega) (hL _ ⟨p1 ++ v1, y, x, t1, ?_, ?_, ?_, ?_, ?_, ?_⟩ (by dsimp only; omega)))))
      · rw [show ((x.length + y.length : Nat) : Int) - (v1.length : Int) = (y.length : Int) by omega, ← e2]; simp
      · rw [List.length_append]; omega
      · intro e; subst e; simp at h3; omega
      · intro e; subst e; simp at e2; omega
      · rw [← he]; simp
      · simp only [List.length_append]; omega
    · have h3 := zOF h3
      obtain ⟨x, y, e1, e2⟩ : ∃ x y, v1 = x ++ y ∧ y.length = u1.length := ⟨v1.take (v1.length - u1.length), v1.drop (v1.length - u1.length), (List.take_append_drop _ _).symm, by rw [List.length_drop]; omega⟩
      subst e1
      simp only [List.length_append] at h2 h3 hl2 hv10 hL ⊢
      have hs := zli (p := p1) (x := u1) (q := x) (y := y) (r := t1) (a := m - (u1.length : Int)) (b := m + ((x.length + y.length : Nat) : Int) - (u1.length : Int)) (n := (u1.length : Int)) (by omega) (by omega) rfl e2.symm (by simp only [List.length_append]; omega)
      rw [show p1 ++ (u1 ++ (x ++ y ++ t1)) = p1 ++ (u1 ++ (x ++ (y ++ t1))) by simp]
      refine T.ck (by omega) (T.ck (by omega) (T.ck (by omega) (T.eq hs (T.asd (by simp only [List.length_append]; omega) (T.ck (by omega) (hL _ ⟨p1, y, x, u1 ++ t1, ?_, ?_, ?_, ?_, ?_, ?_⟩ (by dsimp only; omega)))))))
      · rw [show ((x.length + y.length : Nat) : Int) - (u1.length : Int) = (x.length : Int) by omega, e2]
      · omega
      · intro e; subst e; simp at e2; omega
      · intro e; subst e; simp at h3 h2; omega
      · rw [← he]; simp
      · simp only [List.length_append]; omega
  · have h2 : (u1.length : Int) = v1.length := by simpa using h2
    have hs := zli (p := p1) (x := u1) (q := []) (y := v1) (r := t1) (a := m - (u1.length : Int)) (b := m) (n := (u1.length : Int)) (by omega) (by simp; omega) rfl (by omega) (by simp only [List.length_append, List.length_nil]; omega)
    refine T.ck (by omega) (T.eq hs (T.asd (by simp only [List.length_append, List.nil_append]; omega) (T.some ?_)))
    rw [List.nil_append, he]

/-! ### Insertion -/
theorem zpF {cmp : Int → Int → Option Int} {R : Int → Int → Prop} {D : Int → Prop} (hc : Cmp cmp R D) {p o t : List Int} {a b : Int} (ha : a = p.length) (hb : b = (p.length + o.length : Nat)) (hD : ∀ x ∈ o, D x) (ho : o.Pairwise (· < ·)) (hl : (p ++ (o ++ t)).length ≤ 1000000) :
    T (fun r => ∃ s, r = p ++ (s ++ t) ∧ s.Perm o ∧ s.Pairwise R) (gIns cmp (p ++ (o ++ t)) a b) := by
  simp only [List.length_append] at hl
  unfold gIns
  refine T.ck (by omega) ?_
  cases o with
  | nil =>
    refine T.lp (ι := List Int × Int) (fun s => s = (p ++ ([] ++ t), a + 1)) (fun _ => 0) rfl (by omega) fun L s hs hL => ?_
    subst hs
    simp only [List.length_nil] at hb
    exact T.br (fun h => by have := zOT h; dsimp only at this; omega) fun _ => T.some ⟨[], rfl, .refl _, .nil⟩
  | cons o0 o =>
  simp only [List.length_cons] at hb hl
  refine T.lp (ι := List Int × Int) (fun q => ∃ s o1 w : List Int, q = (p ++ (s ++ (w ++ t)), ((p.length + s.length : Nat) : Int)) ∧ o0 :: o = o1 ++ w ∧ s.Perm o1 ∧ s.Pairwise R ∧ s ≠ []) (fun q => (b - q.2).toNat)
    ⟨[o0], [o0], o, by rw [ha]; rfl, rfl, .refl _, List.pairwise_singleton .., by simp⟩ (by dsimp only; omega) fun L q hq hL => ?_
  obtain ⟨s, o1, w, rfl, ho1, hsp, hsr, hs0⟩ := hq
  have hsl := hsp.length_eq
  have hol : o.length + 1 = o1.length + w.length := by have := congrArg List.length ho1; simpa using this
  dsimp only at hL ⊢
  refine T.br (fun h2 => ?_) fun h2 => ?_
  · have h2 := zOT h2
    cases w with
    | nil => simp only [List.length_nil] at hol; omega
    | cons x w =>
      simp only [List.length_cons] at hol
      have hox : ∀ z ∈ s, z < x ∧ D z ∧ D x := fun z hz => by
        have hz1 : z ∈ o1 := hsp.subset hz
        rw [ho1] at ho hD
        exact ⟨(List.pairwise_append.1 ho).2.2 z hz1 x (List.mem_cons_self ..), hD z (List.mem_append_left _ hz1), hD x (List.mem_append_right _ (List.mem_cons_self ..))⟩
      refine T.lp (ι := List Int × Int) (fun q => ∃ s1 s2 : List Int, q = (p ++ (s1 ++ (x :: (s2 ++ (w ++ t)))), ((p.length + s1.length : Nat) : Int)) ∧ s = s1 ++ s2 ∧ ∀ z ∈ s2, R x z) (fun q => (q.2 - a).toNat)
        ⟨s, [], by simp, by simp, by simp⟩ (by dsimp only; omega) fun L2 q hq hL2 => ?_
      obtain ⟨s1, s2, rfl, hs12, hx2⟩ := hq
      have hs12l : s.length = s1.length + s2.length := by rw [hs12, List.length_append]
      dsimp only at hL2 ⊢
      have fin : (∀ z ∈ s1, R z x) → T (fun r => ∃ s, r = p ++ (s ++ t) ∧ s.Perm (o0 :: o) ∧ s.Pairwise R) (ck (((p.length + s.length : Nat) : Int) + (1 : Int)) <| L (p ++ (s1 ++ (x :: (s2 ++ (w ++ t)))), ((p.length + s.length : Nat) : Int) + (1 : Int))) := fun hx1 => by
        refine T.ck (by omega) (hL _ ⟨s1 ++ x :: s2, o1 ++ [x], w, ?_, ?_, ?_, ?_, by simp⟩ (by dsimp only; omega))
        · have e : ((p.length + s.length : Nat) : Int) + 1 = ((p.length + (s1 ++ x :: s2).length : Nat) : Int) := by
            rw [hs12]; simp only [List.length_append, List.length_cons]; omega
          rw [e]; simp
        · simp [ho1]
        · have hsp' : (s1 ++ s2).Perm o1 := by rw [← hs12]; exact hsp
          exact List.perm_middle.trans ((hsp'.cons x).trans (List.perm_append_singleton x o1).symm)
        · rw [hs12] at hsr
          obtain ⟨k1, k2, k3⟩ := List.pairwise_append.1 hsr
          refine List.pairwise_append.2 ⟨k1, List.pairwise_cons.2 ⟨hx2, k2⟩, fun z hz y hy => ?_⟩
          rcases List.mem_cons.1 hy with e | e
          · rw [e]; exact hx1 z hz
          · exact k3 z hz y e
      refine T.jp (fun g => (g = true → ∃ s1' z, s1 = s1' ++ [z] ∧ R x z) ∧ (g = false → ∀ z ∈ s1, R z x)) (fun J hJ => T.br (fun h3 => ?_) fun h3 => hJ _ ⟨(fun h => by cases h), fun _ => ?_⟩) fun g hg => T.br (fun h4 => ?_) fun h4 => fin (hg.2 h4)
      · have h3 := zOT h3
        have hne : s1 ≠ [] := fun e => by subst e; simp at h3; omega
        obtain ⟨s1', z, e⟩ : ∃ s1' z, s1 = s1' ++ [z] := ⟨s1.dropLast, s1.getLast hne, (List.dropLast_concat_getLast hne).symm⟩
        have hl1 : s1.length = s1'.length + 1 := by rw [e]; simp
        have hz : z ∈ s := by rw [hs12, e]; simp
        obtain ⟨hzx, hDz, hDx⟩ := hox z hz
        obtain ⟨c, hc1, hc2⟩ := hc.go hDz hDx hzx
        have e1 : p ++ (s1 ++ (x :: (s2 ++ (w ++ t)))) = (p ++ s1') ++ z :: ([] ++ x :: (s2 ++ (w ++ t))) := by rw [e]; simp
        rw [e1]
        have k1 : (((p.length + s1.length : Nat) : Int) - 1).toNat = (p ++ s1').length := by simp only [List.length_append]; omega
        have k2 : ((p.length + s1.length : Nat) : Int).toNat = (p ++ s1').length + 1 + ([] : List Int).length := by simp only [List.length_append, List.length_nil]; omega
        refine T.eq (zo8 (by omega) (zj6 k2)) (T.ck (by omega) (T.eq (zo8 (by omega) (zoa k1)) (T.eq hc1 (hJ _ ⟨fun h => ⟨s1', z, e, hc2.1 (zOT h)⟩, fun h y hy => ?_⟩))))
        · have hnr : ¬ R x z := fun h5 => zOF h (hc2.2 h5)
          have hzr : R z x := hc.sto.not hnr (by omega)
          rw [e] at hy
          rcases List.mem_append.1 hy with hy | hy
          · rw [hs12, e] at hsr
            have := (List.pairwise_append.1 (List.pairwise_append.1 hsr).1).2.2 y hy z (List.mem_singleton.2 rfl)
            exact hc.sto.tr this hzr
          · rw [List.mem_singleton.1 hy]; exact hzr
      · have h3 := zOF h3
        have : s1.length = 0 := by omega
        intro z hz
        rw [List.length_eq_zero_iff.1 this] at hz; cases hz
      · obtain ⟨s1', z, e, hr⟩ := hg.1 h4
        have hl1 : s1.length = s1'.length + 1 := by rw [e]; simp
        have e1 : p ++ (s1 ++ (x :: (s2 ++ (w ++ t)))) = (p ++ s1') ++ z :: ([] ++ x :: (s2 ++ (w ++ t))) := by rw [e]; simp
        have hll : ((p ++ s1') ++ z :: ([] ++ x :: (s2 ++ (w ++ t)))).length = p.length + s1.length + 1 + (s2.length + (w.length + t.length)) := by
          simp only [List.length_append, List.length_cons, List.length_nil]; omega
        have k1 : (((p.length + s1.length : Nat) : Int) - 1).toNat = (p ++ s1').length := by simp only [List.length_append]; omega
        have k2 : ((p.length + s1.length : Nat) : Int).toNat = (p ++ s1').length + 1 + ([] : List Int).length := by simp only [List.length_append, List.length_nil]; omega
        rw [e1, hll]
        refine T.ck (by omega) (T.ck (by omega) (T.asd (by omega) (T.asd (by omega) (T.eq (zoa k1) (T.eq (zj6 k2) (T.asd (by omega) (T.eq (zj6 k2) (T.asd (by omega) ?_))))))))
        rw [zoR k2]
        refine T.eq (zoa k1) (T.ck (by omega) ?_)
        rw [zpC k1]
        refine hL2 _ ⟨s1', z :: s2, ?_, by rw [hs12, e]; simp, fun y hy => ?_⟩ (by dsimp only; omega)
        · rw [show ((p.length + s1.length : Nat) : Int) - 1 = ((p.length + s1'.length : Nat) : Int) by omega]; simp
        · rcases List.mem_cons.1 hy with h | h
          · rw [h]; exact hr
          · exact hx2 y h
  · have h2 := zOF h2
    have hw : w.length = 0 := by omega
    have hw := List.length_eq_zero_iff.1 hw
    subst hw
    refine T.some ⟨s, rfl, ?_, hsr⟩
    rw [ho1, List.append_nil]; exact hsp
end Go.Sy


namespace Go.Sy
set_option linter.unusedVariables false

theorem zmg {z : Int} (h0 : 0 ≤ z) (h1 : z ≤ 9223372036854775807) : (((UInt64.ofNat (z % 18446744073709551616).toNat) >>> (1 : UInt64)).toNat : Int) = z / 2 := by
  have e : z % 18446744073709551616 = z := Int.emod_eq_of_lt h0 (by omega)
  have e2 : ((UInt64.ofNat z.toNat) >>> (1 : UInt64)).toNat = z.toNat / 2 := by
    rw [UInt64.toNat_shiftRight, UInt64.toNat_ofNat', show (1 : UInt64).toNat % 64 = 1 from rfl, Nat.shiftRight_eq_div_pow, Nat.mod_eq_of_lt (by omega)]
  rw [e, e2]; omega
theorem zgP {R : Int → Int → Prop} {l : List Int} (h : l.Pairwise R) {i j : Nat} {x y : Int} (hi : l[i]? = some x) (hj : l[j]? = some y) (hij : i < j) : R x y := by
  obtain ⟨h1, rfl⟩ := List.getElem?_eq_some_iff.1 hi
  obtain ⟨h2, rfl⟩ := List.getElem?_eq_some_iff.1 hj
  exact List.pairwise_iff_getElem.1 h i j h1 h2 hij
theorem zpQ {p u r : List Int} {k : Nat} {x : Int} (h : u[k]? = some x) : (p ++ (u ++ r))[p.length + k]? = some x := by
  have hk := (List.getElem?_eq_some_iff.1 h).1
  rw [List.getElem?_append_right (by omega), Nat.add_sub_cancel_left, List.getElem?_append_left hk, h]
theorem zpP {p u v r : List Int} {k : Nat} {y : Int} (h : v[k]? = some y) : (p ++ (u ++ (v ++ r)))[p.length + u.length + k]? = some y := by
  rw [List.getElem?_append_right (by omega), show p.length + u.length + k - p.length = u.length + k by omega]
  exact zpQ h
def SymS (R : Int → Int → Prop) (D : Int → Prop) (f : List Int → Int → Int → Int → Option (List Int)) (N : Nat) : Prop :=
  ∀ {p u v t : List Int} {a m b : Int}, a = p.length → m = (p.length + u.length : Nat) → b = (p.length + u.length + v.length : Nat) → u ≠ [] → v ≠ [] → u.length + v.length ≤ N → (∀ x ∈ u, D x) → (∀ y ∈ v, D y) → (∀ x ∈ u, ∀ y ∈ v, x < y) → u.Pairwise R → v.Pairwise R → (p ++ (u ++ (v ++ t))).length ≤ 1000000 →
    T (fun r => ∃ s, r = p ++ (s ++ t) ∧ s.Perm (u ++ v) ∧ s.Pairwise R) (f (p ++ (u ++ (v ++ t))) a m b)
theorem zhz {α : Type} {l : List α} {k : Nat} {x : α} (h : x ∈ l.take k) : ∃ i, i < k ∧ l[i]? = some x := by
  obtain ⟨i, hi⟩ := List.getElem?_of_mem h
  have h1 := (List.getElem?_eq_some_iff.1 hi).1
  rw [List.length_take] at h1
  rw [List.getElem?_take_of_lt (by omega)] at hi
  exact ⟨i, by omega, hi⟩
theorem zhy {α : Type} {l : List α} {k : Nat} {x : α} (h : x ∈ l.drop k) : ∃ i, k ≤ i ∧ l[i]? = some x := by
  obtain ⟨i, hi⟩ := List.getElem?_of_mem h
  rw [List.getElem?_drop] at hi
  exact ⟨k + i, by omega, hi⟩
section sym
variable {cmp : Int → Int → Option Int} {R : Int → Int → Prop} {D : Int → Prop}
theorem zoW (hc : Cmp cmp R D) {p v t : List Int} {x : Int} {a m b : Int} (ha : a = p.length) (hm : m = (p.length + 1 : Nat)) (hb : b = (p.length + 1 + v.length : Nat)) (hx : D x) (hv : ∀ y ∈ v, D y) (hlt : ∀ y ∈ v, x < y) (hs : v.Pairwise R) (hl : (p ++ ([x] ++ (v ++ t))).length ≤ 1000000) (sm : List Int → Int → Int → Int → Option (List Int)) :
    T (fun r => ∃ s, r = p ++ (s ++ t) ∧ s.Perm ([x] ++ v) ∧ s.Pairwise R) (gSym cmp sm (p ++ ([x] ++ (v ++ t))) a m b) := by
  simp only [List.length_append, List.length_singleton] at hl
  unfold gSym
  refine T.ck (by omega) (T.br (fun _ => ?_) fun h => absurd (by omega) (zOF h))
  refine T.lp (ι := List Int × Int × Int) (fun q => q.1 = p ++ ([x] ++ (v ++ t)) ∧ m ≤ q.2.1 ∧ q.2.1 ≤ q.2.2 ∧ q.2.2 ≤ b ∧ ∀ (k : Nat) y, v[k]? = some y → (m + k < q.2.1 → R y x) ∧ (q.2.2 ≤ m + k → R x y)) (fun q => (q.2.2 - q.2.1).toNat) ⟨rfl, by dsimp only; omega, by dsimp only; omega, by dsimp only; omega, fun k y hk => ⟨fun h => by dsimp only at h; omega, fun h => by
    have := (List.getElem?_eq_some_iff.1 hk).1
    dsimp only at h; omega⟩⟩ (by dsimp only; omega) fun L q hq hL => ?_
  obtain ⟨d, i, j⟩ := q
  obtain ⟨hd, h1, h2, h3, h4⟩ := hq
  dsimp only at hd h1 h2 h3 h4 hL ⊢
  refine T.br (fun h5 => ?_) fun h5 => ?_
  · have h5 := zOT h5
    have hh := zmg (z := i + j) (by omega) (by omega)
    rw [hh]
    obtain ⟨y, hy⟩ : ∃ y, v[((i + j) / 2 - m).toNat]? = some y := ⟨_, List.getElem?_eq_getElem (by omega)⟩
    have g1 : getI d ((i + j) / 2) = some y := by
      rw [hd]
      refine zo8 (by omega) ?_
      have := zpP (p := p) (u := [x]) (r := t) hy
      rw [List.length_singleton] at this
      rw [show ((i + j) / 2).toNat = p.length + 1 + ((i + j) / 2 - m).toNat by omega]; exact this
    have g2 : getI d a = some x := by
      rw [hd]
      exact zo8 (by omega) (zoa (by omega))
    have hym := List.mem_of_getElem? hy
    obtain ⟨c, hc1, hc2⟩ := hc.go hx (hv y hym) (hlt y hym)
    refine T.ck (by omega) (T.ck (by omega) (T.eq g1 (T.eq g2 (T.eq hc1 (T.br (fun h6 => ?_) fun h6 => ?_)))))
    · have hr := hc2.1 (zOT h6)
      refine T.ck (by omega) (hL _ ⟨hd, by dsimp only; omega, by dsimp only; omega, h3, fun k z hk => ⟨fun h => ?_, (h4 k z hk).2⟩⟩ (by dsimp only; omega))
      dsimp only at h
      rcases Nat.lt_trichotomy k ((i + j) / 2 - m).toNat with e | e | e
      · exact hc.sto.tr (zgP hs hk hy e) hr
      · rw [e] at hk; rw [hk] at hy; cases hy; exact hr
      · omega
    · have hr : R x y := hc.sto.not (fun h => zOF h6 (hc2.2 h)) (by have := hlt y hym; omega)
      refine hL _ ⟨hd, h1, by dsimp only; omega, by dsimp only; omega, fun k z hk => ⟨(h4 k z hk).1, fun h => ?_⟩⟩ (by dsimp only; omega)
      dsimp only at h
      rcases Nat.lt_trichotomy k ((i + j) / 2 - m).toNat with e | e | e
      · omega
      · rw [e] at hk; rw [hk] at hy; cases hy; exact hr
      · exact hc.sto.tr hr (zgP hs hy hk e)
  · have h5 := zOF h5
    have hij : i = j := by omega
    subst hij
    have hv12 : v = v.take (i - m).toNat ++ v.drop (i - m).toNat := (List.take_append_drop _ _).symm
    have hv1 : ∀ y ∈ v.take (i - m).toNat, R y x := fun y hy => by
      obtain ⟨k, hk, hy⟩ := zhz hy
      exact (h4 k y hy).1 (by omega)
    have hv2 : ∀ y ∈ v.drop (i - m).toNat, R x y := fun y hy => by
      obtain ⟨k, hk, hy⟩ := zhy hy
      exact (h4 k y hy).2 (by omega)
    have hlv1 : (v.take (i - m).toNat).length = (i - m).toNat := by rw [List.length_take]; omega
    have hlv := congrArg List.length hv12
    rw [List.length_append, hlv1] at hlv
    generalize v.take (i - m).toNat = v1 at *
    generalize v.drop (i - m).toNat = v2 at *
    refine T.lp (ι := List Int × Int) (fun q => a ≤ q.2 ∧ q.2 ≤ i - 1 ∧ q.1 = p ++ (v1.take (q.2 - a).toNat ++ (x :: (v1.drop (q.2 - a).toNat ++ (v2 ++ t))))) (fun q => (i - q.2).toNat) ⟨by dsimp only; omega, by dsimp only; omega, by
      dsimp only
      rw [hd, show (a - a).toNat = 0 by omega, hv12]; simp⟩ (by dsimp only; omega) fun L2 q hq hL2 => ?_
    obtain ⟨e, k⟩ := q
    obtain ⟨k1, k2, k3⟩ := hq
    dsimp only at k1 k2 k3 hL2 ⊢
    refine T.ck (by omega) (T.br (fun h6 => ?_) fun h6 => ?_)
    · have h6 := zOT h6
      obtain ⟨y, y1, y2, y3⟩ := zpu (l := v1) (k := (k - a).toNat) (by omega)
      have l1 : (v1.take (k - a).toNat).length = (k - a).toNat := by rw [List.length_take]; omega
      have ee : e = (p ++ v1.take (k - a).toNat) ++ x :: ([] ++ y :: (v1.drop ((k - a).toNat + 1) ++ (v2 ++ t))) := by rw [k3, y2]; simp
      have q1 : k.toNat = (p ++ v1.take (k - a).toNat).length := by rw [List.length_append, l1]; omega
      have q2 : (k + 1).toNat = (p ++ v1.take (k - a).toNat).length + 1 + ([] : List Int).length := by rw [List.length_append, l1, List.length_nil]; omega
      have hll : e.length = p.length + 1 + v1.length + v2.length + t.length := by
        rw [k3]; simp only [List.length_append, List.length_cons, l1, List.length_drop]; omega
      rw [ee] at hll ⊢
      rw [hll]
      refine T.ck (by omega) (T.ck (by omega) (T.asd (by omega) (T.asd (by omega) (T.eq (zj6 q2) (T.eq (zoa q1) (T.asd (by omega) (T.eq (zoa q1) (T.asd (by omega) ?_))))))))
      rw [zpC q1]
      refine T.eq (zj6 q2) (T.ck (by omega) ?_)
      rw [zoR q2]
      refine hL2 _ ⟨by dsimp only; omega, by dsimp only; omega, ?_⟩ (by dsimp only; omega)
      dsimp only
      rw [show (k + 1 - a).toNat = (k - a).toNat + 1 by omega, y3]; simp
    · have h6 := zOF h6
      refine T.some ⟨v1 ++ x :: v2, ?_, ?_, ?_⟩
      · rw [k3, List.take_of_length_le (by omega), List.drop_eq_nil_of_le (by omega)]; simp
      · rw [hv12]; exact List.perm_middle
      · rw [hv12] at hs
        obtain ⟨g1, g2, g3⟩ := List.pairwise_append.1 hs
        refine List.pairwise_append.2 ⟨g1, List.pairwise_cons.2 ⟨hv2, g2⟩, fun z hz y hy => ?_⟩
        rcases List.mem_cons.1 hy with e | e
        · rw [e]; exact hv1 z hz
        · exact g3 z hz y e
theorem zn2 (hc : Cmp cmp R D) {p u t : List Int} {y : Int} {a m b : Int} (ha : a = p.length) (hm : m = (p.length + u.length : Nat)) (hb : b = (p.length + u.length + 1 : Nat)) (hu2 : u.length ≠ 1) (hy : D y) (hu : ∀ x ∈ u, D x) (hlt : ∀ x ∈ u, x < y) (hs : u.Pairwise R) (hl : (p ++ (u ++ ([y] ++ t))).length ≤ 1000000) (sm : List Int → Int → Int → Int → Option (List Int)) :
    T (fun r => ∃ s, r = p ++ (s ++ t) ∧ s.Perm (u ++ [y]) ∧ s.Pairwise R) (gSym cmp sm (p ++ (u ++ ([y] ++ t))) a m b) := by
  simp only [List.length_append, List.length_singleton] at hl
  unfold gSym
  refine T.ck (by omega) (T.br (fun h => absurd (zOT h) (by omega)) fun _ => T.ck (by omega) (T.br (fun _ => ?_) fun h => absurd (by omega) (zOF h)))
  refine T.lp (ι := List Int × Int × Int) (fun q => q.1 = p ++ (u ++ ([y] ++ t)) ∧ a ≤ q.2.1 ∧ q.2.1 ≤ q.2.2 ∧ q.2.2 ≤ m ∧ ∀ (k : Nat) x, u[k]? = some x → (a + k < q.2.1 → R x y) ∧ (q.2.2 ≤ a + k → R y x)) (fun q => (q.2.2 - q.2.1).toNat) ⟨rfl, by dsimp only; omega, by dsimp only; omega, by dsimp only; omega, fun k y hk => ⟨fun h => by dsimp only at h; omega, fun h => by
    have := (List.getElem?_eq_some_iff.1 hk).1
    dsimp only at h; omega⟩⟩ (by dsimp only; omega) fun L q hq hL => ?_
  obtain ⟨d, i, j⟩ := q
  obtain ⟨hd, h1, h2, h3, h4⟩ := hq
  dsimp only at hd h1 h2 h3 h4 hL ⊢
  refine T.br (fun h5 => ?_) fun h5 => ?_
  · have h5 := zOT h5
    have hh := zmg (z := i + j) (by omega) (by omega)
    rw [hh]
    obtain ⟨x, hx⟩ : ∃ x, u[((i + j) / 2 - a).toNat]? = some x := ⟨_, List.getElem?_eq_getElem (by omega)⟩
    have g1 : getI d ((i + j) / 2) = some x := by
      rw [hd]
      refine zo8 (by omega) ?_
      have := zpQ (p := p) (r := [y] ++ t) hx
      rw [show ((i + j) / 2).toNat = p.length + ((i + j) / 2 - a).toNat by omega]; exact this
    have g2 : getI d m = some y := by
      rw [hd]
      refine zo8 (by omega) ?_
      have := zpP (p := p) (u := u) (v := [y]) (r := t) (k := 0) rfl
      rw [show m.toNat = p.length + u.length + 0 by omega]; exact this
    have hxm := List.mem_of_getElem? hx
    obtain ⟨c, hc1, hc2⟩ := hc.go (hu x hxm) hy (hlt x hxm)
    refine T.ck (by omega) (T.ck (by omega) (T.eq g2 (T.eq g1 (T.eq hc1 (T.br (fun h6 => ?_) fun h6 => ?_)))))
    · have h6 : ¬ c < 0 := by simpa using h6
      have hr : R x y := hc.sto.not (fun h => h6 (hc2.2 h)) (by have := hlt x hxm; omega)
      refine T.ck (by omega) (hL _ ⟨hd, by dsimp only; omega, by dsimp only; omega, h3, fun k z hk => ⟨fun h => ?_, (h4 k z hk).2⟩⟩ (by dsimp only; omega))
      dsimp only at h
      rcases Nat.lt_trichotomy k ((i + j) / 2 - a).toNat with e | e | e
      · exact hc.sto.tr (zgP hs hk hx e) hr
      · rw [e] at hk; rw [hk] at hx; cases hx; exact hr
      · omega
    · have h6 : c < 0 := by simpa using h6
      have hr := hc2.1 h6
      refine hL _ ⟨hd, h1, by dsimp only; omega, by dsimp only; omega, fun k z hk => ⟨(h4 k z hk).1, fun h => ?_⟩⟩ (by dsimp only; omega)
      dsimp only at h
      rcases Nat.lt_trichotomy k ((i + j) / 2 - a).toNat with e | e | e
      · omega
      · rw [e] at hk; rw [hk] at hx; cases hx; exact hr
      · exact hc.sto.tr hr (zgP hs hx hk e)
  · have h5 := zOF h5
    have hij : i = j := by omega
    subst hij
    have hu12 : u = u.take (i - a).toNat ++ u.drop (i - a).toNat := (List.take_append_drop _ _).symm
    have hu1 : ∀ x ∈ u.take (i - a).toNat, R x y := fun x hx => by
      obtain ⟨k, hk, hx⟩ := zhz hx
      exact (h4 k x hx).1 (by omega)
    have hu2 : ∀ x ∈ u.drop (i - a).toNat, R y x := fun x hx => by
      obtain ⟨k, hk, hx⟩ := zhy hx
      exact (h4 k x hx).2 (by omega)
    have hlu1 : (u.take (i - a).toNat).length = (i - a).toNat := by rw [List.length_take]; omega
    have hlu := congrArg List.length hu12
    rw [List.length_append, hlu1] at hlu
    generalize u.take (i - a).toNat = u1 at *
    generalize u.drop (i - a).toNat = u2 at *
    refine T.lp (ι := List Int × Int) (fun q => i ≤ q.2 ∧ q.2 ≤ m ∧ q.1 = p ++ (u1 ++ (u2.take (q.2 - i).toNat ++ (y :: (u2.drop (q.2 - i).toNat ++ t))))) (fun q => (q.2 - i).toNat) ⟨by dsimp only; omega, by dsimp only; omega, by
      dsimp only
      rw [hd, List.take_of_length_le (by omega), List.drop_eq_nil_of_le (by omega), hu12]; simp⟩ (by dsimp only; omega) fun L2 q hq hL2 => ?_
    obtain ⟨e, k⟩ := q
    obtain ⟨k1, k2, k3⟩ := hq
    dsimp only at k1 k2 k3 hL2 ⊢
    refine T.br (fun h6 => ?_) fun h6 => ?_
    · have h6 := zOT h6
      obtain ⟨x, y1, y2, y3⟩ := zpu (l := u2) (k := (k - 1 - i).toNat) (by omega)
      have l1 : (u2.take (k - 1 - i).toNat).length = (k - 1 - i).toNat := by rw [List.length_take]; omega
      have l2 : (u2.drop (k - i).toNat).length = u2.length - (k - i).toNat := List.length_drop
      have ekk : (k - i).toNat = (k - 1 - i).toNat + 1 := by omega
      have ee : e = (p ++ (u1 ++ u2.take (k - 1 - i).toNat)) ++ x :: ([] ++ y :: (u2.drop (k - i).toNat ++ t)) := by rw [k3, ekk, y3]; simp
      have q1 : (k - 1).toNat = (p ++ (u1 ++ u2.take (k - 1 - i).toNat)).length := by simp only [List.length_append, l1]; omega
      have q2 : k.toNat = (p ++ (u1 ++ u2.take (k - 1 - i).toNat)).length + 1 + ([] : List Int).length := by simp only [List.length_append, l1, List.length_nil]; omega
      have hll : e.length = p.length + 1 + u1.length + u2.length + t.length := by
        rw [ee]; simp only [List.length_append, List.length_cons, l1, l2, List.length_nil]; omega
      rw [ee] at hll ⊢
      rw [hll]
      refine T.ck (by omega) (T.ck (by omega) (T.asd (by omega) (T.asd (by omega) (T.eq (zoa q1) (T.eq (zj6 q2) (T.asd (by omega) (T.eq (zj6 q2) (T.asd (by omega) ?_))))))))
      rw [zoR q2]
      refine T.eq (zoa q1) (T.ck (by omega) ?_)
      rw [zpC q1]
      refine hL2 _ ⟨by dsimp only; omega, by dsimp only; omega, ?_⟩ (by dsimp only; omega)
      dsimp only
      rw [y2, ekk]; simp
    · have h6 := zOF h6
      have hk : k = i := by omega
      subst hk
      refine T.some ⟨u1 ++ y :: u2, ?_, ?_, ?_⟩
      · rw [k3, show (k - k).toNat = 0 by omega]; simp
      · rw [hu12, List.append_assoc]
        exact List.Perm.append_left _ (List.perm_append_singleton y u2).symm
      · rw [hu12] at hs
        obtain ⟨g1, g2, g3⟩ := List.pairwise_append.1 hs
        refine List.pairwise_append.2 ⟨g1, List.pairwise_cons.2 ⟨hu2, g2⟩, fun z hz x hx => ?_⟩
        rcases List.mem_cons.1 hx with e | e
        · rw [e]; exact hu1 z hz
        · exact g3 z hz x e
end sym
end Go.Sy


namespace Go.Sy
set_option linter.unusedVariables false

section sym
variable {cmp : Int → Int → Option Int} {R : Int → Int → Prop} {D : Int → Prop}
theorem zn9 (hc : Cmp cmp R D) {sm : List Int → Int → Int → Int → Option (List Int)} {N : Nat} (ih : SymS R D sm N) : SymS R D (gSym cmp sm) (N + 1) := by
  intro p u v t a m b ha hm hb hu0 hv0 hN hDu hDv hlt hsu hsv hl
  have hul := List.length_pos_iff.2 hu0
  have hvl := List.length_pos_iff.2 hv0
  by_cases hu1 : u.length = 1
  · obtain ⟨x, rfl⟩ := List.length_eq_one_iff.1 hu1
    exact zoW hc ha (by rw [hm]; rfl) (by rw [hb]; rfl) (hDu x (List.mem_singleton.2 rfl)) hDv (hlt x (List.mem_singleton.2 rfl)) hsv hl sm
  by_cases hv1 : v.length = 1
  · obtain ⟨y, rfl⟩ := List.length_eq_one_iff.1 hv1
    exact zn2 hc ha hm (by rw [hb]; rfl) hu1 (hDv y (List.mem_singleton.2 rfl)) hDu (fun x hx => hlt x hx y (List.mem_singleton.2 rfl)) hsu hl sm
  have hl0 := hl
  simp only [List.length_append] at hl
  unfold gSym
  refine T.ck (by omega) (T.br (fun h => absurd (zOT h) (by omega)) fun _ => T.ck (by omega) (T.br (fun h => absurd (zOT h) (by omega)) fun _ => ?_))
  have hmid := zmg (z := a + b) (by omega) (by omega)
  rw [hmid]
  obtain ⟨mid, hmd⟩ : ∃ mid, mid = (a + b) / 2 := ⟨_, rfl⟩
  rw [← hmd]
  refine T.ck (by omega) (T.ck (by omega) (T.ck (by omega) ?_))
  refine T.jp (ι := Int × Int) (fun q => q.1 ≤ q.2 ∧ a ≤ q.1 ∧ q.2 ≤ m ∧ q.2 ≤ mid ∧ (q.1 = a ∨ q.1 = mid + m - b) ∧ (q.2 = mid ∨ q.2 = m) ∧ mid + m - q.1 ≤ b) (fun J hJ => T.br (fun h => ?_) fun h => hJ _ ?_) fun q0 hq0 => ?_
  · have h := zOT h
    exact T.ck (by omega) (hJ _ ⟨by dsimp only; omega, by dsimp only; omega, by dsimp only; omega, by dsimp only; omega, .inr rfl, .inl rfl, by dsimp only; omega⟩)
  · have h := zOF h
    exact ⟨by dsimp only; omega, by dsimp only; omega, by dsimp only; omega, by dsimp only; omega, .inl rfl, .inr rfl, by dsimp only; omega⟩
  obtain ⟨s0, r0⟩ := q0
  obtain ⟨z1, z2, z3, z4, z5, z6, z7⟩ := hq0
  dsimp only at z1 z2 z3 z4 z5 z6 z7 ⊢
  refine T.ck (by omega) ?_
  refine T.lp (ι := List Int × Int × Int) (fun q => q.1 = p ++ (u ++ (v ++ t)) ∧ s0 ≤ q.2.1 ∧ q.2.1 ≤ q.2.2 ∧ q.2.2 ≤ r0 ∧ (q.2.1 = s0 ∨ ∃ x y, u[(q.2.1 - 1 - a).toNat]? = some x ∧ v[(mid - q.2.1).toNat]? = some y ∧ R x y ∧ s0 < q.2.1) ∧ (q.2.2 = r0 ∨ ∃ x y, u[(q.2.2 - a).toNat]? = some x ∧ v[(mid - 1 - q.2.2).toNat]? = some y ∧ R y x ∧ q.2.2 < r0)) (fun q => (q.2.2 - q.2.1).toNat) ⟨rfl, by dsimp only; omega, by dsimp only; omega, by dsimp only; omega, .inl rfl, .inl rfl⟩ (by dsimp only; omega) fun L q hq hL => ?_
  obtain ⟨d, st, r⟩ := q
  obtain ⟨hd, h1, h2, h3, h4, h5⟩ := hq
  dsimp only at hd h1 h2 h3 h4 h5 hL ⊢
  refine T.br (fun h6 => ?_) fun h6 => ?_
  · have h6 := zOT h6
    have hh := zmg (z := st + r) (by omega) (by omega)
    rw [hh]
    obtain ⟨c, hcd⟩ : ∃ c, c = (st + r) / 2 := ⟨_, rfl⟩
    rw [← hcd]
    obtain ⟨x, hx⟩ : ∃ x, u[(c - a).toNat]? = some x := ⟨_, List.getElem?_eq_getElem (by omega)⟩
    obtain ⟨y, hy⟩ : ∃ y, v[(mid - 1 - c).toNat]? = some y := ⟨_, List.getElem?_eq_getElem (by omega)⟩
    have g1 : getI d c = some x := by
      rw [hd]
      refine zo8 (by omega) ?_
      rw [show c.toNat = p.length + (c - a).toNat by omega]; exact zpQ hx
    have g2 : getI d (mid + m - 1 - c) = some y := by
      rw [hd]
      refine zo8 (by omega) ?_
      rw [show (mid + m - 1 - c).toNat = p.length + u.length + (mid - 1 - c).toNat by omega]; exact zpP hy
    have hxm := List.mem_of_getElem? hx
    have hym := List.mem_of_getElem? hy
    obtain ⟨o, hc1, hc2⟩ := hc.go (hDu x hxm) (hDv y hym) (hlt x hxm y hym)
    refine T.ck (by omega) (T.ck (by omega) (T.ck (by omega) (T.eq g2 (T.eq g1 (T.eq hc1 (T.br (fun h7 => ?_) fun h7 => ?_))))))
    · have h7 : ¬ o < 0 := by simpa using h7
      have hr : R x y := hc.sto.not (fun h => h7 (hc2.2 h)) (by have := hlt x hxm y hym; omega)
      refine T.ck (by omega) (hL _ ⟨hd, by dsimp only; omega, by dsimp only; omega, h3, .inr ⟨x, y, ?_, ?_, hr, by dsimp only; omega⟩, h5⟩ (by dsimp only; omega))
      · dsimp only; rw [show (c + 1 - 1 - a).toNat = (c - a).toNat by omega]; exact hx
      · dsimp only; rw [show (mid - (c + 1)).toNat = (mid - 1 - c).toNat by omega]; exact hy
    · have h7 : o < 0 := by simpa using h7
      exact hL _ ⟨hd, h1, by dsimp only; omega, by dsimp only; omega, h4, .inr ⟨x, y, hx, hy, hc2.1 h7, by dsimp only; omega⟩⟩ (by dsimp only; omega)
  have h6 := zOF h6
  have hst : r = st := by omega
  subst hst
  -- the four parts
  have hu12 : u = u.take (r - a).toNat ++ u.drop (r - a).toNat := (List.take_append_drop _ _).symm
  have hv12 : v = v.take (mid - r).toNat ++ v.drop (mid - r).toNat := (List.take_append_drop _ _).symm
  have hlu1 : (u.take (r - a).toNat).length = (r - a).toNat := by rw [List.length_take]; omega
  have hlv1 : (v.take (mid - r).toNat).length = (mid - r).toNat := by rw [List.length_take]; omega
  have cr1 : ∀ x ∈ u.take (r - a).toNat, ∀ z ∈ v.drop (mid - r).toNat, R x z := fun x hx z hz => by
    obtain ⟨i, hi, hx⟩ := zhz hx
    obtain ⟨j, hj, hz⟩ := zhy hz
    have hjl := (List.getElem?_eq_some_iff.1 hz).1
    rcases h4 with h4 | ⟨x0, y0, k1, k2, k3, k4⟩
    · omega
    · have e1 : R x0 z := by
        rcases Nat.eq_or_lt_of_le hj with e | e
        · rw [← e] at hz; rw [hz] at k2; cases k2; exact k3
        · exact hc.sto.tr k3 (zgP hsv k2 hz e)
      by_cases e : i = (r - 1 - a).toNat
      · rw [← e] at k1; rw [hx] at k1; cases k1; exact e1
      · exact hc.sto.tr (zgP hsu hx k1 (by omega)) e1
  have cr2 : ∀ y ∈ v.take (mid - r).toNat, ∀ x ∈ u.drop (r - a).toNat, R y x := fun y hy x hx => by
    obtain ⟨j, hj, hy⟩ := zhz hy
    obtain ⟨i, hi, hx⟩ := zhy hx
    have hil := (List.getElem?_eq_some_iff.1 hx).1
    rcases h5 with h5 | ⟨x0, y0, k1, k2, k3, k4⟩
    · omega
    · have e1 : R y0 x := by
        rcases Nat.eq_or_lt_of_le hi with e | e
        · rw [← e] at hx; rw [hx] at k1; cases k1; exact k3
        · exact hc.sto.tr k3 (zgP hsu k1 hx e)
      by_cases e : j = (mid - 1 - r).toNat
      · rw [← e] at k2; rw [hy] at k2; cases k2; exact e1
      · exact hc.sto.tr (zgP hsv hy k2 (by omega)) e1
  have hlu := congrArg List.length hu12
  have hlv := congrArg List.length hv12
  rw [List.length_append, hlu1] at hlu
  rw [List.length_append, hlv1] at hlv
  clear h4 h5
  generalize u.take (r - a).toNat = u1 at *
  generalize u.drop (r - a).toNat = u2 at *
  generalize v.take (mid - r).toNat = v1 at *
  generalize v.drop (mid - r).toNat = v2 at *
  subst hu12; subst hv12
  obtain ⟨su1, su2, su12⟩ := List.pairwise_append.1 hsu
  obtain ⟨sv1, sv2, sv12⟩ := List.pairwise_append.1 hsv
  simp only [List.length_append] at hm hb hN hl hul hvl
  refine T.ck (by omega) ?_
  refine T.jp (ι := Bool) (fun g => g = true ↔ (u2 ≠ [] ∧ v1 ≠ [])) (fun J hJ => T.br (fun h => hJ _ ?_) fun h => hJ _ ?_) fun g hg => ?_
  · have h := zOT h
    rw [decide_eq_true_iff, ← List.length_pos_iff, ← List.length_pos_iff]; omega
  · have h := zOF h
    have : u2.length = 0 := by omega
    rw [List.length_eq_zero_iff] at this
    simp [this]
  refine T.jp (ι := List Int) (fun q => q = p ++ (u1 ++ (v1 ++ (u2 ++ (v2 ++ t))))) (fun J hJ => T.br (fun h => ?_) fun h => ?_) fun q1 hq1 => ?_
  · obtain ⟨k1, k2⟩ := hg.1 h
    have hr := zpn (p := p ++ u1) (u := u2) (v := v1) (t := v2 ++ t) (a := r) (m := m) (b := mid + m - r) (by simp only [List.length_append]; omega) (by simp only [List.length_append]; omega) (by simp only [List.length_append]; omega) k1 k2 (by simp only [List.length_append]; omega)
    have e1 : d = p ++ u1 ++ (u2 ++ (v1 ++ (v2 ++ t))) := by rw [hd]; simp
    rw [e1]
    refine T.eq hr (T.asd (by simp only [List.length_append]; omega) (hJ _ (by simp)))
  · refine hJ _ ?_
    have : ¬ (u2 ≠ [] ∧ v1 ≠ []) := fun k => by rw [hg.2 k] at h; cases h
    rw [hd]
    by_cases e : u2 = []
    · subst e; simp
    · have : v1 = [] := Classical.byContradiction fun k => this ⟨e, k⟩
      subst this; simp
  subst hq1
  refine T.jp (ι := Bool) (fun g => g = true ↔ (u1 ≠ [] ∧ v1 ≠ [])) (fun J hJ => T.br (fun h => hJ _ ?_) fun h => hJ _ ?_) fun g2 hg2 => ?_
  · have h := zOT h
    rw [decide_eq_true_iff, ← List.length_pos_iff, ← List.length_pos_iff]; omega
  · have h := zOF h
    have : u1.length = 0 := by omega
    rw [List.length_eq_zero_iff] at this
    simp [this]
  refine T.jp (ι := List Int) (fun q => ∃ s1, q = p ++ (s1 ++ (u2 ++ (v2 ++ t))) ∧ s1.Perm (u1 ++ v1) ∧ s1.Pairwise R) (fun J hJ => T.br (fun h => ?_) fun h => ?_) fun q2 hq2 => ?_
  · obtain ⟨k1, k2⟩ := hg2.1 h
    refine T.cal (ih (p := p) (u := u1) (v := v1) (t := u2 ++ (v2 ++ t)) (a := a) (m := r) (b := mid) ha (by omega) (by omega) k1 k2 (by omega) (fun x hx => hDu x (List.mem_append_left _ hx)) (fun x hx => hDv x (List.mem_append_left _ hx)) (fun x hx y hy => hlt x (List.mem_append_left _ hx) y (List.mem_append_left _ hy)) su1 sv1 (by simp only [List.length_append]; omega)) fun y _ ⟨s1, e, k3, k4⟩ => ?_
    have := k3.length_eq
    subst e
    simp only [List.length_append] at this
    exact T.asd (by simp only [List.length_append]; omega) (hJ _ ⟨s1, rfl, k3, k4⟩)
  · have hk : ¬ (u1 ≠ [] ∧ v1 ≠ []) := fun k => by rw [hg2.2 k] at h; cases h
    refine hJ _ ⟨u1 ++ v1, by simp, .refl _, ?_⟩
    by_cases e : u1 = []
    · subst e; exact sv1
    · have : v1 = [] := Classical.byContradiction fun k => hk ⟨e, k⟩
      subst this; rw [List.append_nil]; exact su1
  obtain ⟨s1, rfl, p1, r1⟩ := hq2
  have hs1 := p1.length_eq
  rw [List.length_append] at hs1
  refine T.jp (ι := Bool) (fun g => g = true ↔ (u2 ≠ [] ∧ v2 ≠ [])) (fun J hJ => T.br (fun h => hJ _ ?_) fun h => hJ _ ?_) fun g3 hg3 => ?_
  · have h := zOT h
    rw [decide_eq_true_iff, ← List.length_pos_iff, ← List.length_pos_iff]; omega
  · have h := zOF h
    have : u2.length = 0 := by omega
    rw [List.length_eq_zero_iff] at this
    simp [this]
  have last : ∀ s2 : List Int, s2.Perm (u2 ++ v2) → s2.Pairwise R → ∃ s, p ++ (s1 ++ (s2 ++ t)) = p ++ (s ++ t) ∧ s.Perm (u1 ++ u2 ++ (v1 ++ v2)) ∧ s.Pairwise R := fun s2 p2 r2 => by
    refine ⟨s1 ++ s2, by simp, (p1.append p2).trans ?_, List.pairwise_append.2 ⟨r1, r2, fun x hx y hy => ?_⟩⟩
    · rw [List.append_assoc, List.append_assoc]
      refine List.Perm.append_left _ ?_
      rw [← List.append_assoc, ← List.append_assoc]
      exact List.Perm.append_right _ List.perm_append_comm
    · rcases List.mem_append.1 (p1.subset hx) with h | h <;> rcases List.mem_append.1 (p2.subset hy) with k | k
      · exact su12 x h y k
      · exact cr1 x h y k
      · exact cr2 x h y k
      · exact sv12 x h y k
  refine T.br (fun h => ?_) fun h => ?_
  · obtain ⟨k1, k2⟩ := hg3.1 h
    have e1 : p ++ (s1 ++ (u2 ++ (v2 ++ t))) = (p ++ s1) ++ (u2 ++ (v2 ++ t)) := by simp
    rw [e1]
    refine T.cal (ih (p := p ++ s1) (u := u2) (v := v2) (t := t) (a := mid) (m := mid + m - r) (b := b) (by simp only [List.length_append]; omega) (by simp only [List.length_append]; omega) (by simp only [List.length_append]; omega) k1 k2 (by omega) (fun x hx => hDu x (List.mem_append_right _ hx)) (fun x hx => hDv x (List.mem_append_right _ hx)) (fun x hx y hy => hlt x (List.mem_append_right _ hx) y (List.mem_append_right _ hy)) su2 sv2 (by simp only [List.length_append]; omega)) fun y _ ⟨s2, e, k3, k4⟩ => ?_
    have := k3.length_eq
    subst e
    simp only [List.length_append] at this
    refine T.asd (by simp only [List.length_append]; omega) (T.some ?_)
    rw [List.append_assoc]; exact last s2 k3 k4
  · have hk : ¬ (u2 ≠ [] ∧ v2 ≠ []) := fun k => by rw [hg3.2 k] at h; cases h
    refine T.some ?_
    have e1 : p ++ (s1 ++ (u2 ++ (v2 ++ t))) = p ++ (s1 ++ (u2 ++ v2 ++ t)) := by simp
    rw [e1]
    refine last (u2 ++ v2) (.refl _) ?_
    by_cases e : u2 = []
    · subst e; exact sv2
    · have : v2 = [] := Classical.byContradiction fun k => hk ⟨e, k⟩
      subst this; rw [List.append_nil]; exact su2
end sym
end Go.Sy


namespace Go.Sy
set_option linter.unusedVariables false

def Szs (k : Nat) : List (List Int) → Prop
  | [] => True
  | [u] => 0 < u.length ∧ u.length ≤ k
  | u :: v :: r => u.length = k ∧ Szs k (v :: r)
theorem Szs.app {k : Nat} : ∀ {a b : List (List Int)}, (∀ u ∈ a, u.length = k) → 0 < k → Szs k b → Szs k (a ++ b)
  | [], b, _, _, hb => hb
  | [u], [], h, hk, _ => by
    have := h u (List.mem_singleton.2 rfl)
    exact ⟨by omega, by omega⟩
  | [u], v :: r, h, _, hb => ⟨h u (List.mem_singleton.2 rfl), hb⟩
  | u :: v :: r, b, h, hk, hb => ⟨h u (List.mem_cons_self ..), Szs.app (a := v :: r) (fun x hx => h x (List.mem_cons_of_mem _ hx)) hk hb⟩
def Ordd (bl : List (List Int)) : Prop := bl.Pairwise fun u v => ∀ x ∈ u, ∀ y ∈ v, x < y
structure Bls (R : Int → Int → Prop) (o : List Int) (bl : List (List Int)) : Prop where
  srt : ∀ u ∈ bl, u.Pairwise R
  ord : Ordd bl
  prm : bl.flatten.Perm o
theorem Bls.mrg {R : Int → Int → Prop} {o : List Int} {a r : List (List Int)} {u v s : List Int} (h : Bls R o (a ++ u :: v :: r)) (hp : s.Perm (u ++ v)) (hs : s.Pairwise R) : Bls R o (a ++ s :: r) := by
  obtain ⟨h1, h2, h3⟩ := h
  unfold Ordd at h2
  obtain ⟨k1, k2, k3⟩ := List.pairwise_append.1 h2
  obtain ⟨k4, k5⟩ := List.pairwise_cons.1 k2
  obtain ⟨k6, k7⟩ := List.pairwise_cons.1 k5
  refine ⟨fun w hw => ?_, List.pairwise_append.2 ⟨k1, List.pairwise_cons.2 ⟨fun w hw x hx y hy => ?_, k7⟩, fun w hw w' hw' x hx y hy => ?_⟩, ?_⟩
  · rcases List.mem_append.1 hw with e | e
    · exact h1 w (List.mem_append_left _ e)
    · rcases List.mem_cons.1 e with e | e
      · rw [e]; exact hs
      · exact h1 w (List.mem_append_right _ (List.mem_cons_of_mem _ (List.mem_cons_of_mem _ e)))
  · rcases List.mem_append.1 (hp.subset hx) with e | e
    · exact k4 w (List.mem_cons_of_mem _ hw) x e y hy
    · exact k6 w hw x e y hy
  · rcases List.mem_cons.1 hw' with e | e
    · rw [e] at hy
      rcases List.mem_append.1 (hp.subset hy) with e | e
      · exact k3 w hw u (List.mem_cons_self ..) x hx y e
      · exact k3 w hw v (List.mem_cons_of_mem _ (List.mem_cons_self ..)) x hx y e
    · exact k3 w hw w' (List.mem_cons_of_mem _ (List.mem_cons_of_mem _ e)) x hx y hy
  · refine List.Perm.trans ?_ h3
    rw [List.flatten_append, List.flatten_append, List.flatten_cons, List.flatten_cons, List.flatten_cons, ← List.append_assoc u v]
    exact List.Perm.append_left _ (hp.append_right _)
theorem Bls.D {R : Int → Int → Prop} {D : Int → Prop} {o : List Int} {bl : List (List Int)} (h : Bls R o bl) (hD : ∀ x ∈ o, D x) {u : List Int} (hu : u ∈ bl) : ∀ x ∈ u, D x := fun x hx => hD x (h.prm.subset (List.mem_flatten.2 ⟨u, hu, hx⟩))
section stb
variable {cmp : Int → Int → Option Int} {R : Int → Int → Prop} {D : Int → Prop}
theorem zpM (hc : Cmp cmp R D) {sm : List Int → Int → Int → Int → Option (List Int)} (hsm : SymS R D sm 1000000) {o : List Int} (hD : ∀ x ∈ o, D x) (ho : o.Pairwise (· < ·)) (hl : o.length ≤ 1000000) :
    T (fun r => r.Perm o ∧ r.Pairwise R) (gStb cmp sm o (o.length : Int)) := by
  unfold gStb
  refine T.lp (ι := List Int × Int × Int) (fun q => ∃ (bl : List (List Int)) (o1 w : List Int), q = (bl.flatten ++ w, (bl.flatten.length : Int), (bl.flatten.length : Int) + 20) ∧ o = o1 ++ w ∧ Bls R o1 bl ∧ ∀ u ∈ bl, u.length = 20) (fun q => ((o.length : Int) - q.2.1).toNat)
    ⟨[], [], o, rfl, rfl, ⟨by simp, .nil, .refl _⟩, by simp⟩ (by dsimp only; omega) fun L q hq hL => ?_
  obtain ⟨bl, o1, w, rfl, ho1, hB, h20⟩ := hq
  have hbl := hB.prm.length_eq
  have hol : o.length = o1.length + w.length := by rw [ho1, List.length_append]
  dsimp only at hL ⊢
  -- one block more
  have ins : ∀ (w1 w2 : List Int) (b : Int), w = w1 ++ w2 → b = ((bl.flatten.length + w1.length : Nat) : Int) → T (fun r => ∃ s, r = bl.flatten ++ (s ++ w2) ∧ s.Perm w1 ∧ s.Pairwise R) (gIns cmp (bl.flatten ++ w) (bl.flatten.length : Int) b) := fun w1 w2 b e hb => by
    rw [e] at ho1 hol ⊢
    have hw1 : w1.Pairwise (· < ·) := by
      rw [ho1] at ho
      exact (List.pairwise_append.1 (List.pairwise_append.1 ho).2.1).1
    exact zpF hc rfl hb (fun x hx => hD x (by rw [ho1]; exact List.mem_append_right _ (List.mem_append_left _ hx))) hw1 (by simp only [List.length_append] at hol ⊢; omega)
  have nB : ∀ (w1 w2 s : List Int), w = w1 ++ w2 → s.Perm w1 → s.Pairwise R → Bls R (o1 ++ w1) (bl ++ [s]) := fun w1 w2 s e hp hs => by
    refine ⟨fun u hu => ?_, List.pairwise_append.2 ⟨hB.ord, List.pairwise_singleton .., fun u hu v hv x hx y hy => ?_⟩, ?_⟩
    · rcases List.mem_append.1 hu with h | h
      · exact hB.srt u h
      · rw [List.mem_singleton.1 h]; exact hs
    · rw [List.mem_singleton.1 hv] at hy
      have hx1 : x ∈ o1 := hB.prm.subset (List.mem_flatten.2 ⟨u, hu, hx⟩)
      have hy1 : y ∈ w1 := hp.subset hy
      rw [ho1, e] at ho
      exact (List.pairwise_append.1 ho).2.2 x hx1 y (List.mem_append_left _ hy1)
    · rw [List.flatten_append, List.flatten_singleton]
      exact hB.prm.append hp
  refine T.br (fun h2 => ?_) fun h2 => ?_
  · have h2 := zOT h2
    refine T.cal (ins (w.take 20) (w.drop 20) _ (List.take_append_drop _ _).symm (by rw [List.length_take]; omega)) fun y _ ⟨s, e, hp, hs⟩ => ?_
    have hsl := hp.length_eq
    rw [List.length_take] at hsl
    subst e
    have e1 : (bl ++ [s]).flatten = bl.flatten ++ s := by rw [List.flatten_append, List.flatten_singleton]
    refine T.asd (by simp only [List.length_append, List.length_drop]; omega) (T.ck (by omega) (hL _ ⟨bl ++ [s], o1 ++ w.take 20, w.drop 20, ?_, by rw [List.append_assoc, List.take_append_drop]; exact ho1, nB _ _ s (List.take_append_drop _ _).symm hp hs, fun u hu => ?_⟩ (by dsimp only; omega)))
    · rw [e1, List.length_append, show ((bl.flatten.length + s.length : Nat) : Int) = (bl.flatten.length : Int) + 20 by omega, List.append_assoc]
    · rcases List.mem_append.1 hu with h | h
      · exact h20 u h
      · rw [List.mem_singleton.1 h]; omega
  have h2 := zOF h2
  refine T.cal (ins w [] _ (by rw [List.append_nil]) (by omega)) fun y _ ⟨s, e, hp, hs⟩ => ?_
  have hsl := hp.length_eq
  rw [List.append_nil] at e
  subst e
  refine T.asd (by simp only [List.length_append]; omega) ?_
  have start : ∃ bl2 : List (List Int), bl.flatten ++ s = bl2.flatten ∧ Bls R o bl2 ∧ Szs 20 bl2 := by
    by_cases hw : w = []
    · have : s = [] := by subst hw; exact List.length_eq_zero_iff.1 hsl
      subst this; subst hw
      rw [List.append_nil] at ho1
      subst ho1
      refine ⟨bl, by rw [List.append_nil], hB, ?_⟩
      have := Szs.app (k := 20) (a := bl) (b := []) h20 (by omega) trivial
      rw [List.append_nil] at this; exact this
    · have hwl := List.length_pos_iff.2 hw
      refine ⟨bl ++ [s], by rw [List.flatten_append, List.flatten_singleton], ?_, Szs.app h20 (by omega) ⟨by omega, by omega⟩⟩
      rw [ho1]; exact nB w [] s (by rw [List.append_nil]) hp hs
  obtain ⟨bl2, e2, hB2, hS2⟩ := start
  rw [e2]
  clear ins nB hL hB h20 hbl e2
  refine T.lp (ι := List Int × Int) (fun q => ∃ (bl : List (List Int)) (k : Nat), q = (bl.flatten, (k : Int)) ∧ 20 ≤ k ∧ k ≤ 2000000 ∧ Bls R o bl ∧ Szs k bl) (fun q => ((o.length : Int) - q.2).toNat) ⟨bl2, 20, rfl, by omega, by omega, hB2, hS2⟩ (by dsimp only; omega) fun L q hq hL => ?_
  obtain ⟨bl, k, rfl, hk, hk2, hB, hS⟩ := hq
  have hbl := hB.prm.length_eq
  dsimp only at hL ⊢
  refine T.br (fun h3 => ?_) fun h3 => ?_
  · have h3 := zOT h3
    refine T.ck (by omega) ?_
    refine T.lp (ι := List Int × Int × Int) (fun q => ∃ done rest : List (List Int), q = ((done ++ rest).flatten, (done.flatten.length : Int), (done.flatten.length : Int) + 2 * (k : Int)) ∧ (∀ u ∈ done, u.length = 2 * k) ∧ Szs k rest ∧ Bls R o (done ++ rest)) (fun q => ((o.length : Int) - q.2.1).toNat)
      ⟨[], bl, by simp, by simp, hS, hB⟩ (by dsimp only; omega) fun L2 q hq hL2 => ?_
    obtain ⟨done, rest, rfl, hd, hS1, hB1⟩ := hq
    have hbl1 := hB1.prm.length_eq
    rw [List.flatten_append, List.length_append] at hbl1
    dsimp only at hL2 ⊢
    -- two of them are merged
    have mrg : ∀ (u v : List Int) (r : List (List Int)) (m b : Int), rest = u :: v :: r → u.length = k → 0 < v.length → m = (done.flatten.length : Int) + (k : Int) → b = ((done.flatten.length + u.length + v.length : Nat) : Int) → T (fun y => ∃ s : List Int, y = (done ++ s :: r).flatten ∧ s.Perm (u ++ v) ∧ s.Pairwise R) (sm (done ++ rest).flatten (done.flatten.length : Int) m b) := fun u v r m b e hu hv hm hb => by
      subst e
      have e1 : (done ++ u :: v :: r).flatten = done.flatten ++ (u ++ (v ++ r.flatten)) := by rw [List.flatten_append, List.flatten_cons, List.flatten_cons]
      have hum : u ∈ done ++ u :: v :: r := List.mem_append_right _ (List.mem_cons_self ..)
      have hvm : v ∈ done ++ u :: v :: r := List.mem_append_right _ (List.mem_cons_of_mem _ (List.mem_cons_self ..))
      have hll : (done.flatten ++ (u ++ (v ++ r.flatten))).length ≤ 1000000 := by rw [← e1, hB1.prm.length_eq]; exact hl
      have hlt : ∀ x ∈ u, ∀ y ∈ v, x < y := (List.pairwise_cons.1 (List.pairwise_append.1 hB1.ord).2.1).1 v (List.mem_cons_self ..)
      rw [e1]
      simp only [List.length_append] at hll
      refine (hsm (p := done.flatten) (u := u) (v := v) (t := r.flatten) rfl (by omega) (by omega) (List.length_pos_iff.1 (by omega)) (List.length_pos_iff.1 hv) (by omega) (hB1.D hD hum) (hB1.D hD hvm) hlt (hB1.srt u hum) (hB1.srt v hvm) (by simp only [List.length_append]; omega)).mono fun y ⟨s, e, hp, hs⟩ => ⟨s, ?_, hp, hs⟩
      rw [e, List.flatten_append, List.flatten_cons]
    refine T.br (fun h4 => ?_) fun h4 => ?_
    · have h4 := zOT h4
      refine T.ck (by omega) ?_
      match rest, hS1 with
      | [], _ => simp only [List.flatten_nil, List.length_nil] at hbl1; omega
      | [u], hu => simp only [List.flatten_cons, List.flatten_nil, List.append_nil] at hbl1; have := hu.2; omega
      | u :: v :: r, hS1 =>
        simp only [List.flatten_cons, List.length_append] at hbl1
        have hv : v.length = k ∧ Szs k r := by
          have h5 := hS1.2
          cases r with
          | nil => exact ⟨by have := h5.2; have := hS1.1; simp only [List.flatten_nil, List.length_nil] at hbl1; omega, trivial⟩
          | cons x r => exact ⟨h5.1, h5.2⟩
        have hul := hS1.1
        refine T.cal (mrg u v r _ _ rfl hul (by omega) rfl (by omega)) fun y _ ⟨s, e, hp, hs⟩ => ?_
        have hsl := hp.length_eq
        rw [List.length_append] at hsl
        subst e
        have e3 : done ++ s :: r = (done ++ [s]) ++ r := by simp
        refine T.asd (by simp only [List.flatten_append, List.flatten_cons, List.length_append]; omega) (T.ck (by omega) (T.ck (by omega) (hL2 _ ⟨done ++ [s], r, ?_, fun x hx => ?_, hv.2, by rw [← e3]; exact hB1.mrg hp hs⟩ (by dsimp only; omega))))
        · have e4 : (done ++ [s]).flatten.length = done.flatten.length + s.length := by rw [List.flatten_append, List.flatten_singleton, List.length_append]
          rw [← e3, e4, show ((done.flatten.length + s.length : Nat) : Int) = (done.flatten.length : Int) + 2 * (k : Int) by omega]
        · rcases List.mem_append.1 hx with h | h
          · exact hd x h
          · rw [List.mem_singleton.1 h]; omega
    · have h4 := zOF h4
      refine T.ck (by omega) ?_
      refine T.jp (ι := List Int) (fun q => ∃ bl2 : List (List Int), q = bl2.flatten ∧ Bls R o bl2 ∧ Szs (2 * k) bl2) (fun J hJ => ?_) fun q hq => ?_
      · match rest, hS1 with
        | [], _ =>
          simp only [List.flatten_nil, List.length_nil] at hbl1
          refine T.br (fun h => by have := zOT h; omega) fun _ => hJ _ ⟨done, by rw [List.append_nil], by rw [List.append_nil] at hB1; exact hB1, ?_⟩
          have := Szs.app (k := 2 * k) (a := done) (b := []) hd (by omega) trivial
          rw [List.append_nil] at this; exact this
        | [u], hu =>
          simp only [List.flatten_cons, List.flatten_nil, List.append_nil] at hbl1
          refine T.br (fun h => by have := zOT h; have := hu.2; omega) fun _ => hJ _ ⟨done ++ [u], rfl, hB1, Szs.app hd (by omega) ⟨hu.1, by have := hu.2; omega⟩⟩
        | u :: v :: r, hS1 =>
          simp only [List.flatten_cons, List.length_append] at hbl1
          have hul := hS1.1
          have hv : 0 < v.length ∧ v.length ≤ k ∧ r = [] := by
            have h5 := hS1.2
            cases r with
            | nil => exact ⟨h5.1, h5.2, rfl⟩
            | cons x r => have := h5.1; omega
          obtain ⟨hv0, hv1, rfl⟩ := hv
          simp only [List.flatten_nil, List.length_nil] at hbl1
          refine T.br (fun _ => ?_) fun h => by have := zOF h; omega
          refine T.cal (mrg u v [] _ _ rfl hul hv0 rfl (by omega)) fun y _ ⟨s, e, hp, hs⟩ => ?_
          have hsl := hp.length_eq
          rw [List.length_append] at hsl
          subst e
          exact T.asd (by simp only [List.flatten_append, List.flatten_cons, List.length_append, List.flatten_nil, List.length_nil]; omega) (hJ _ ⟨done ++ [s], rfl, hB1.mrg hp hs, Szs.app hd (by omega) ⟨by omega, by omega⟩⟩)
      · obtain ⟨bl2, rfl, hB2, hS2⟩ := hq
        refine T.ck (by omega) (hL _ ⟨bl2, 2 * k, ?_, by omega, by omega, hB2, hS2⟩ (by dsimp only; omega))
        rw [show (k : Int) * 2 = ((2 * k : Nat) : Int) by omega]
  · have h3 := zOF h3
    refine T.some ⟨hB.prm, ?_⟩
    match bl, hS with
    | [], _ => exact .nil
    | [u], _ =>
      rw [List.flatten_singleton]
      exact hB.srt u (List.mem_singleton.2 rfl)
    | u :: v :: r, hS =>
      exfalso
      have h5 := hS.1
      have h6 : 0 < v.length := by
        have h7 := hS.2
        cases r with
        | nil => exact h7.1
        | cons x r => have := h7.1; omega
      simp only [List.flatten_cons, List.length_append] at hbl
      omega
end stb
end Go.Sy


namespace Go.Proofs.Q
open Go.Sy
set_option linter.unusedVariables false

def lessT (a b : Tag) : Bool := decide (a.cls < b.cls) || (decide (a.cls = b.cls) && decide (a.num < b.num))
theorem zjH (a b : Tag) : zeh a b = some (lessT a b) := by
  unfold zeh lessT
  by_cases h : a.cls = b.cls
  · rw [zDT h, zDF (show ¬ a.cls < b.cls by omega)]
    show some _ = _
    rw [Bool.true_and, Bool.false_or]
  · rw [zDF h, Bool.false_and, Bool.or_false]; rfl
theorem zkt (a b : Tag) : zfP a b = some (lessT a b) := by
  refine T.eqs ?_
  unfold zfP lessT
  refine T.jp (fun b' => b' = lessT a b) (fun J hJ => T.br (fun h1 => hJ _ ?_) fun h1 => T.jp (fun c => c = (decide (a.cls = b.cls) && decide (a.num < b.num))) (fun J2 hJ2 => T.br (fun h2 => hJ2 _ (by rw [h2]; rfl)) fun h2 => hJ2 _ (by rw [h2]; rfl)) fun c hc => hJ _ ?_) fun b' hb' => T.some hb'
  · unfold lessT; rw [h1]; rfl
  · unfold lessT; rw [h1, hc]; rfl
def stepL (m y : Tag) : Tag := bif lessT y m then y else m
def leastL : List Tag → Tag
  | [] => Tag.zero
  | x :: r => r.foldl stepL x
def leastT (t : GTab) (i : Int) : Tag := leastL (begT t i)
theorem zla {l : List Tag} {y : Tag} (h : l ≠ []) : leastL (l ++ [y]) = stepL (leastL l) y := by
  cases l with
  | nil => exact absurd rfl h
  | cons x r => show (r ++ [y]).foldl stepL x = _; rw [List.foldl_append]; rfl
theorem zlG (x : Tag) : stepL x x = x := by unfold stepL; cases lessT x x <;> rfl
theorem zkz {t : GTab} (ht : TabOk t) (i : Int) : (begT t i).length ≤ 1000 := by
  have htl := ht.types
  unfold begT
  by_cases hi : 0 ≤ i ∧ i < t.types.length
  · obtain ⟨j, hj⟩ := SubT.sub ht.kids i.toNat (by omega) (by omega)
    have := zf3 hj
    have := hj.inb
    rw [show ((i.toNat : Nat) : Int) = i by omega] at *
    omega
  · have : bgs 17 t.types i = [] := by
      unfold bgs
      have e : (if 0 ≤ i then t.types[i.toNat]? else none) = none := by
        split
        · exact List.getElem?_eq_none (by omega)
        · rfl
      rw [e]
    rw [this]; simp
theorem ziL {t : GTab} (ht : TabOk t) (i : Int) : zeW t i = some (leastT t i) := by
  refine T.eqs ?_
  unfold zeW
  have hl := zkz ht i
  refine T.eq (zkE ht i) ?_
  unfold leastT
  generalize begT t i = l at *
  refine T.lp (ι := Int × Tag) (fun q => 0 ≤ q.1 ∧ q.1 ≤ l.length ∧ q.2 = leastL (l.take q.1.toNat)) (fun q => ((l.length : Int) - q.1).toNat) ⟨Int.le_refl _, by dsimp only; omega, rfl⟩ (by dsimp only; omega) fun L q ⟨q1, q2, q3⟩ hL => ?_
  obtain ⟨k, m⟩ := q
  dsimp only at q1 q2 q3 hL ⊢
  refine T.br (fun h => ?_) fun h => ?_
  · have h := zOT h
    obtain ⟨y, hy, _, ht2⟩ := zpu (l := l) (k := k.toNat) (by omega)
    have ek : (k + 1).toNat = k.toNat + 1 := by omega
    refine T.jp (ι := Tag) (fun m' => m' = leastL (l.take (k + 1).toNat)) (fun J hJ => T.jp (ι := Bool) (fun b => (b = true → leastL (l.take (k + 1).toNat) = y) ∧ (b = false → leastL (l.take (k + 1).toNat) = m)) (fun J2 hJ2 => T.br (fun h2 => hJ2 _ ⟨fun _ => ?_, fun h => by cases h⟩) fun h2 => T.get q1 h fun y' hy' => T.eq (zkt _ _) (hJ2 _ ?_)) fun b hb => T.br (fun h2 => T.get q1 h fun y' hy' => hJ _ ?_) fun h2 => hJ _ (hb.2 h2).symm) fun m' hm' => T.ck (by omega) (hL _ ⟨by dsimp only; omega, by dsimp only; omega, hm'⟩ (by dsimp only; omega))
    · have h2 := zOT h2
      rw [ek, ht2, h2]; rfl
    · have h2 := zOF h2
      rw [hy] at hy'; cases hy'
      have hne : l.take k.toNat ≠ [] := fun e => by have := congrArg List.length e; rw [List.length_take, List.length_nil] at this; omega
      rw [ek, ht2, zla hne, ← q3]
      unfold stepL
      exact ⟨fun h => by rw [h]; rfl, fun h => by rw [h]; rfl⟩
    · rw [hy] at hy'; cases hy'
      exact (hb.1 h2).symm
  · have h := zOF h
    refine T.some ?_
    rw [q3, List.take_of_length_le (by omega)]
/-! ### The program's side -/
theorem zoO : ∀ {h n l i j}, SubT h l i j → h ≤ n → l.length ≤ 1000 → ∀ (left : Int) (acc : List Tag), ((j - i : Nat) : Int) ≤ left → left ≤ 1000 → acc.length + (j - i) ≤ 100000 →
    T (fun r => r.1 = ⟨l⟩ ∧ left - ((j - i : Nat) : Int) ≤ r.2.1 ∧ r.2.1 ≤ left ∧ r.2.2 = acc ++ bgs h l (i : Int)) (zbZ n ⟨l⟩ (i : Int) left acc) := by
  intro h
  induction h with
  | zero => intro n l i j h; exact h.elim
  | succ h ih =>
    intro n l i j hs hn hl left acc hl1 hl2 ha
    obtain ⟨n, rfl⟩ : ∃ n', n = n' + 1 := ⟨n - 1, by omega⟩
    have hjl := hs.inb
    have hbl := zf3 hs
    have hlt := hs.lt
    obtain ⟨t, h1, h0, h2⟩ := hs
    show T _ (zbl (zbZ n) ⟨l⟩ (i : Int) left acc)
    unfold zbl
    refine T.or' (T.or' (T.brF ?_ (T.ck (by omega) (T.get (by omega) (by dsimp only; omega) fun y hy => ?_))))
    · dsimp only
      rw [zDF (show ¬ (i : Int) < 0 by omega), zDF (show ¬ (l.length : Int) ≤ i by omega), zDF (show ¬ left = 0 by omega)]; rfl
    rw [Int.toNat_natCast] at hy
    have : y = t := by rw [h1] at hy; cases hy; rfl
    subst this
    rw [zhd h1] at hbl ⊢
    have hc1 : zbI y acc = some (acc ++ y.tags.take 1) := by
      refine T.eqs ?_
      unfold zbI
      refine T.br (fun h => T.get (Int.le_refl _) (zOT h) fun x hx => T.abl (by simp only [List.length_singleton]; omega) (T.some ?_)) fun h => T.some ?_
      · cases ht : y.tags with
        | nil => rw [ht] at hx; cases hx
        | cons z r => rw [ht] at hx; cases hx; rfl
      · have := zOF h
        have : y.tags = [] := List.length_eq_zero_iff.1 (by omega)
        rw [this]; simp
    refine T.eq hc1 (T.br (fun hb => T.some ⟨rfl, by dsimp only; omega, by dsimp only; omega, ?_⟩) fun hb => ?_)
    · have hb := zOT hb
      rw [if_pos (by omega)]
    have hb := zOF hb
    have ht0 : y.tags = [] := List.length_eq_zero_iff.1 (by omega)
    rw [if_neg (by omega)] at hbl ⊢
    rw [ht0, List.take_nil, List.append_nil]
    have hfl := ziU h2 hjl hl
    refine T.lp (ι := Int × List Tag × Int × GTys) (fun q => 0 ≤ q.1 ∧ q.1 ≤ y.fields.length ∧ q.2.2.2 = ⟨l⟩ ∧ q.2.1 = acc ++ ((y.fields.take q.1.toNat).flatMap fun f => bgs h l f.ty) ∧ ∃ c : Nat, i + 1 ≤ c ∧ c ≤ j ∧ Kids (SubT h l) ((y.fields.drop q.1.toNat).map (fun f => f.ty) ++ (if y.kind = 10 then [y.of] else [])) c j ∧ left - ((c - i : Nat) : Int) ≤ q.2.2.1 ∧ q.2.2.1 ≤ left - 1 ∧ q.2.1.length ≤ acc.length + (c - i)) (fun q => ((y.fields.length : Int) - q.1).toNat)
      ⟨Int.le_refl _, by dsimp only; omega, rfl, by simp, i + 1, Nat.le_refl _, hlt, h2, by dsimp only; omega, by dsimp only; omega, by dsimp only; omega⟩ (by dsimp only; omega) fun L q hq hL => ?_
    obtain ⟨k, a, lf, tt⟩ := q
    obtain ⟨q1, q2, q3, q4, c, c1, c2, c3, c4, c5, c6⟩ := hq
    dsimp only at q1 q2 q3 q4 c3 c4 c5 c6 hL ⊢
    subst q3
    refine T.br (fun hb2 => ?_) fun hb2 => ?_
    · have hb2 := zOT hb2
      refine T.get q1 hb2 fun f hf => ?_
      obtain ⟨hf1, hf2⟩ := List.getElem?_eq_some_iff.1 hf
      have hdr : y.fields.drop k.toNat = f :: y.fields.drop (k.toNat + 1) := by rw [List.drop_eq_getElem_cons hf1, hf2]
      rw [hdr] at c3
      obtain ⟨d, e1, e2, e3⟩ := c3
      have e1 : f.ty = (c : Int) := e1
      have e4 := e2.lt
      have e5 := Kids.le SubT.le' e3
      have e6 := zf3 e2
      have ek : (k + 1).toNat = k.toNat + 1 := by omega
      rw [e1]
      refine T.cal (ih e2 (by omega) hl lf a (by omega) (by omega) (by omega)) fun r _ ⟨r1, r2, r3, r4⟩ => T.ck (by omega) (hL _ ⟨by dsimp only; omega, by dsimp only; omega, r1, ?_, d, by omega, by omega, by rw [ek]; exact e3, by dsimp only; omega, by dsimp only; omega, ?_⟩ (by dsimp only; omega))
      · dsimp only
        rw [r4, q4, ek, zh8 hf, e1, List.append_assoc]
      · dsimp only
        rw [r4, List.length_append]; omega
    · have hb2 := zOF hb2
      refine T.some ⟨rfl, by dsimp only; omega, by dsimp only; omega, ?_⟩
      dsimp only
      rw [q4, List.take_of_length_le (by omega)]
theorem zln {t : GTab} (ht : TabOk t) (i : Int) : zd3 t i = some (begT t i) := by
  refine T.eqs ?_
  unfold zd3 zcX
  have htl := ht.types
  refine T.cal (Q := fun r => r.1 = begT t i) ?_ fun y _ hy => T.some hy
  unfold begT
  by_cases hi : 0 ≤ i ∧ i < t.types.length
  · obtain ⟨j, hj⟩ := SubT.sub ht.kids i.toNat (by omega) (by omega)
    have hjl := hj.inb
    have := zoO hj (n := fuel) (by unfold fuel; omega) (by omega) 300 [] (by omega) (by omega) (by simp only [List.length_nil]; omega)
    rw [show ((i.toNat : Nat) : Int) = i by omega] at this
    refine T.cal this fun r _ ⟨_, _, _, r4⟩ => T.some ?_
    rw [r4, List.nil_append]
  · have e0 : bgs 17 t.types i = [] := by
      unfold bgs
      have e : (if 0 ≤ i then t.types[i.toNat]? else none) = none := by
        split
        · exact List.getElem?_eq_none (by omega)
        · rfl
      rw [e]
    rw [e0]
    have hf : ∃ n, fuel = n + 1 := ⟨fuel - 1, by unfold fuel; rfl⟩
    obtain ⟨n, hn⟩ := hf
    rw [hn]
    refine T.cal (Q := fun r => r.2.2 = []) ?_ fun r _ hr => T.some hr
    show T _ (zbl (zbZ n) ⟨t.types⟩ i 300 [])
    unfold zbl
    refine T.or' (T.or' (T.brT ?_ (T.some rfl)))
    rw [Bool.or_eq_true, Bool.or_eq_true, decide_eq_true_iff, decide_eq_true_iff]
    left; dsimp only; omega
theorem zjx {t : GTab} (ht : TabOk t) (i : Int) : zdN t i = some (leastT t i) := by
  refine T.eqs ?_
  unfold zdN
  have hl := zkz ht i
  refine T.eq (zln ht i) ?_
  unfold leastT
  generalize begT t i = l at *
  refine T.br (fun h => T.some ?_) fun h => ?_
  · have h := zOT h
    have : l = [] := List.length_eq_zero_iff.1 (by omega)
    rw [this]; rfl
  have h := zOF h
  cases l with
  | nil => simp at h
  | cons x r =>
  refine T.get (Int.le_refl _) (by omega) fun x' hx' => ?_
  have : x = x' := by simpa using hx'
  subst this
  refine T.lp (ι := Int × Tag) (fun q => 0 ≤ q.1 ∧ q.1 ≤ (x :: r).length ∧ q.2 = ((x :: r).take q.1.toNat).foldl stepL x) (fun q => (((x :: r).length : Int) - q.1).toNat) ⟨Int.le_refl _, by dsimp only; omega, rfl⟩ (by dsimp only; omega) fun L q ⟨q1, q2, q3⟩ hL => ?_
  obtain ⟨k, m⟩ := q
  dsimp only at q1 q2 q3 hL ⊢
  refine T.br (fun h => ?_) fun h => ?_
  · have h := zOT h
    obtain ⟨y, hy, _, ht2⟩ := zpu (l := x :: r) (k := k.toNat) (by omega)
    have ek : (k + 1).toNat = k.toNat + 1 := by omega
    refine T.jp (ι := Tag) (fun m' => m' = ((x :: r).take (k + 1).toNat).foldl stepL x) (fun J hJ => T.get q1 h fun y' hy' => T.eq (zjH _ _) (T.br (fun h2 => hJ _ ?_) fun h2 => hJ _ ?_)) fun m' hm' => T.ck (by omega) (hL _ ⟨by dsimp only; omega, by dsimp only; omega, hm'⟩ (by dsimp only; omega))
    · rw [hy] at hy'; cases hy'
      rw [ek, ht2, List.foldl_append, ← q3]
      show _ = stepL m y
      unfold stepL; rw [h2]; rfl
    · rw [hy] at hy'; cases hy'
      rw [ek, ht2, List.foldl_append, ← q3]
      show _ = stepL m y
      unfold stepL; rw [h2]; rfl
  · have h := zOF h
    refine T.some ?_
    rw [q3, List.take_of_length_le (by omega)]
    show r.foldl stepL (stepL x x) = _
    rw [zlG]; rfl
end Go.Proofs.Q


namespace Go.Proofs.Q
open Go.Sy
set_option linter.unusedVariables false

def RK (f g : Int → Int) (a b : Int) : Prop := f a < f b ∨ (f a = f b ∧ (g a < g b ∨ (g a = g b ∧ a < b)))
theorem znm (f g : Int → Int) : Sto (RK f g) := by
  refine ⟨fun x => ?_, fun {x y z} => ?_, fun {x y} => ?_⟩ <;> unfold RK <;> omega
structure Std (R : Int → Int → Prop) (root n : Int) (l : List Int) : Prop where
  go : ∃ s, l = s ++ rng root n ∧ s.Perm (rng 0 root) ∧ s.Pairwise R
theorem zis {a b x : Int} : x ∈ rng a b ↔ a ≤ x ∧ x < b := by
  unfold rng
  rw [List.mem_map]
  constructor
  · rintro ⟨k, hk, rfl⟩
    have := List.mem_range.1 hk
    omega
  · intro h
    exact ⟨(x - a).toNat, List.mem_range.2 (by omega), by omega⟩
theorem zi3 {a b : Int} : (rng a b).Pairwise (· < ·) := by
  unfold rng
  rw [List.pairwise_map]
  exact List.pairwise_lt_range.imp fun h => by omega
theorem zkO {cmp : Int → Int → Option Int} {R : Int → Int → Prop} {f : Nat → List Int → Int → Int → Int → Option (List Int)} {root : Int} (hr : root ≤ 1000000) (hc : Cmp cmp R fun x => 0 ≤ x ∧ x < root)
    (h0 : ∀ n d a m b, f (n + 1) d a m b = gSym cmp (f n) d a m b) : T (fun r => r.Perm (rng 0 root) ∧ r.Pairwise R) (gStb cmp (f fuel) (rng 0 root) (((rng 0 root).length : Nat) : Int)) := by
  have key : ∀ n, SymS R (fun x => 0 ≤ x ∧ x < root) (f n) n := by
    intro n
    induction n with
    | zero => intro p u v t a m b _ _ _ hu _ hN; have := List.length_pos_iff.2 hu; omega
    | succ n ih =>
      have e : f (n + 1) = gSym cmp (f n) := by funext d a m b; exact h0 n d a m b
      rw [e]
      intro p u v t a m b
      exact zn9 hc ih
  have hk : SymS R (fun x => 0 ≤ x ∧ x < root) (f fuel) 1000000 := by
    intro p u v t a m b h1 h2 h3 h4 h5 h6
    exact key fuel h1 h2 h3 h4 h5 (Nat.le_trans h6 (by unfold fuel; omega))
  exact zpM hc hk (fun x hx => zis.1 hx) zi3 (by rw [zcq]; omega)

section flds
variable {t : GTab} {x : GTyp}
def fC (t : GTab) (x : GTyp) (k : Int) : Int := (leastT t (((x.fields[k.toNat]?).map fun f => f.ty).getD 0)).cls
def fN (t : GTab) (x : GTyp) (k : Int) : Int := (leastT t (((x.fields[k.toNat]?).map fun f => f.ty).getD 0)).num
theorem zl9 {f g : Int → Int} {a b : Int} (h : a < b) : RK f g b a ↔ (f b < f a ∨ (f b = f a ∧ g b < g a)) := by unfold RK; omega
theorem zhW {p q : Tag} : lessT p q = true ↔ (p.cls < q.cls ∨ (p.cls = q.cls ∧ p.num < q.num)) := by
  unfold lessT
  rw [Bool.or_eq_true, Bool.and_eq_true, decide_eq_true_iff, decide_eq_true_iff, decide_eq_true_iff]
theorem cmpF (ht : TabOk t) {root : Int} (hr : root ≤ x.fields.length) : Cmp (fun a b => zbh a b t x) (RK (fC t x) (fN t x)) fun y => 0 ≤ y ∧ y < root := by
  refine ⟨znm _ _, fun {p q} hp hq hpq => ?_⟩
  have key : T (fun c => c < 0 ↔ RK (fC t x) (fN t x) q p) (zbh q p t x) := by
    unfold zbh
    rw [zl9 hpq]
    unfold fC fN
    refine T.jp (ι := Tag × Tag) (fun u => u.1 = leastT t (((x.fields[q.toNat]?).map fun f => f.ty).getD 0) ∧ u.2 = leastT t (((x.fields[p.toNat]?).map fun f => f.ty).getD 0)) (fun J hJ => T.get hq.1 (by omega) fun y hy => T.get hp.1 (by omega) fun z hz => T.eq (zjx ht _) (T.eq (zjx ht _) (hJ _ ⟨by rw [hy]; rfl, by rw [hz]; rfl⟩))) fun u hu => ?_
    rw [← hu.1, ← hu.2]
    refine T.eq (zjH _ _) (T.br (fun h => T.some ⟨fun _ => zhW.1 h, fun _ => by decide⟩) fun h => ?_)
    have hn : ¬ (u.1.cls < u.2.cls ∨ (u.1.cls = u.2.cls ∧ u.1.num < u.2.num)) := fun k => by rw [zhW.2 k] at h; cases h
    exact T.eq (zjH _ _) (T.br (fun _ => T.some ⟨fun h => absurd h (by decide), fun k => absurd k hn⟩) fun _ => T.some ⟨fun h => absurd h (by decide), fun k => absurd k hn⟩)
  obtain ⟨c, h1, h2⟩ := key
  exact ⟨c, h1, h2⟩
def iN (x : GTyp) (k : Int) : Int := ((x.items[k.toNat]?).map fun f => f.number).getD 0
theorem zmQ (a b : Int) : T (fun c => c < 0 ↔ a < b) (zcs a b) := by
  have hn : ∀ a, zcl a = some false := fun a => by unfold zcl; rw [zDT rfl]; rfl
  unfold zcs
  refine T.eq (hn a) (T.eq (hn b) (T.brF rfl (T.brF rfl (T.br (fun h => T.some ⟨fun _ => zOT h, fun _ => by decide⟩) fun h => ?_))))
  have h := zOF h
  exact T.br (fun _ => T.some ⟨fun h => absurd h (by decide), fun k => absurd k h⟩) fun _ => T.some ⟨fun h => absurd h (by decide), fun k => absurd k h⟩
theorem cmpI {root : Int} (hr : root ≤ x.items.length) : Cmp (fun a b => zbn a b x) (RK (iN x) (fun _ => 0)) fun y => 0 ≤ y ∧ y < root := by
  refine ⟨znm _ _, fun {p q} hp hq hpq => ?_⟩
  have key : T (fun c => c < 0 ↔ RK (iN x) (fun _ => 0) q p) (zbn q p x) := by
    unfold zbn
    rw [zl9 hpq]
    unfold iN
    refine T.get hq.1 (by omega) fun y hy => T.get hp.1 (by omega) fun z hz => T.cal (zmQ _ _) fun c _ hc => T.some ?_
    rw [hc, hy, hz]
    exact ⟨fun h => .inl h, fun h => h.elim id fun h => absurd h.2 (by omega)⟩
  obtain ⟨c, h1, h2⟩ := key
  exact ⟨c, h1, h2⟩
theorem zna (ht : TabOk t) {root n : Int} (hr : root ≤ x.fields.length) (hn : n ≤ 1000000) (hr2 : root ≤ 1000000) (h0 : 0 ≤ root) : T (fun r => Std (RK (fC t x) (fN t x)) root n r) (zdY t x (rng 0 root) (rng root n)) := by
  unfold zdY zbk
  have h := zkO (f := fun n d a m b => zaU n d a m b t x) hr2 (cmpF ht hr) fun n d a m b => rfl
  have h1 : zbR (rng 0 root) (((rng 0 root).length : Nat) : Int) t x = gStb (fun a b => zbh a b t x) ((fun n d a m b => zaU n d a m b t x) fuel) (rng 0 root) (((rng 0 root).length : Nat) : Int) := rfl
  have hl : (rng root n).length = (n - root).toNat := zcq
  have hl0 : (rng 0 root).length = (root - 0).toNat := zcq
  rw [h1]
  refine T.cal (Q := fun r => r.Perm (rng 0 root) ∧ r.Pairwise (RK (fC t x) (fN t x))) (T.cal h fun y _ hy => T.asd hy.1.length_eq (T.some hy)) fun y _ hy => T.asd hy.1.length_eq (T.abl (by have := hy.1.length_eq; omega) (T.some ⟨y, rfl, hy.1, hy.2⟩))
theorem zmr {root n : Int} (hr : root ≤ x.items.length) (hn : n ≤ 1000000) (hr2 : root ≤ 1000000) (h0 : 0 ≤ root) : T (fun r => Std (RK (iN x) (fun _ => 0)) root n r) (zdj x (rng 0 root) (rng root n)) := by
  unfold zdj za7
  have h := zkO (f := fun n d a m b => zaN n d a m b x) hr2 (cmpI hr) fun n d a m b => rfl
  have h1 : zbv (rng 0 root) (((rng 0 root).length : Nat) : Int) x = gStb (fun a b => zbn a b x) ((fun n d a m b => zaN n d a m b x) fuel) (rng 0 root) (((rng 0 root).length : Nat) : Int) := rfl
  have hl : (rng root n).length = (n - root).toNat := zcq
  have hl0 : (rng 0 root).length = (root - 0).toNat := zcq
  rw [h1]
  refine T.cal (Q := fun r => r.Perm (rng 0 root) ∧ r.Pairwise (RK (iN x) (fun _ => 0))) (T.cal h fun y _ hy => T.asd hy.1.length_eq (T.some hy)) fun y _ hy => T.asd hy.1.length_eq (T.abl (by have := hy.1.length_eq; omega) (T.some ⟨y, rfl, hy.1, hy.2⟩))
end flds
def FldsS (t : GTab) (i : Int) (l : List Int) : Prop := match (if 0 ≤ i then t.types[i.toNat]? else none) with
  | none => l = []
  | some x => (x.kind = 7 → l = rng 0 x.fields.length) ∧ (x.kind = 8 ∨ x.kind = 9 → Std (RK (fC t x) (fN t x)) x.root x.fields.length l) ∧ (¬ (x.kind = 7 ∨ x.kind = 8 ∨ x.kind = 9) → l = [])
def ItmsS (t : GTab) (i : Int) (l : List Int) : Prop := match (if 0 ≤ i then t.types[i.toNat]? else none) with
  | none => l = []
  | some x => (x.kind = 3 → Std (RK (iN x) (fun _ => 0)) x.root x.items.length l) ∧ (x.kind ≠ 3 → l = [])
theorem TabOk.typ {t : GTab} (ht : TabOk t) {i : Int} {x : GTyp} (hi : 0 ≤ i) (hx : t.types[i.toNat]? = some x) : TypOk x ∧ x.fields.length ≤ 1000 := by
  have h1 := (List.getElem?_eq_some_iff.1 hx).1
  obtain ⟨j, hj⟩ := SubT.sub ht.kids i.toNat (by omega) (by omega)
  have hjl := hj.inb
  obtain ⟨y, hy, ok, hk⟩ := hj
  rw [hx] at hy; cases hy
  exact ⟨ok, ziU hk hjl (by have := ht.types; omega)⟩
theorem zmh {t : GTab} (i : Int) : T (fun r => match (if 0 ≤ i then t.types[i.toNat]? else none) with
    | none => r.kind = 0
    | some x => r = x) (zco t i) := by
  unfold zco
  refine T.or' (T.br (fun h => T.some ?_) fun h => ?_)
  · rw [Bool.or_eq_true, decide_eq_true_iff, decide_eq_true_iff] at h
    have e : (if 0 ≤ i then t.types[i.toNat]? else none) = none := by
      split
      · exact List.getElem?_eq_none (by omega)
      · rfl
    rw [e]
  · rw [Bool.or_eq_false_iff, decide_eq_false_iff_not, decide_eq_false_iff_not] at h
    refine T.get (by omega) (by omega) fun y hy => T.some ?_
    rw [if_pos (by omega), hy]
theorem T.orr {β : Type} {R : β → Prop} {c d : Bool} {K : Bool → Option β} (hK : T R (K (c || d))) : T R (Sy.jp (fun J => Sy.br c (J c) (J d)) K) := by cases c <;> exact hK
theorem zm0 {t : GTab} (ht : TabOk t) (i : Int) : T (FldsS t i) (zcT t i) := by
  unfold zcT
  refine T.cal (zmh i) fun x _ hx => ?_
  unfold FldsS
  generalize hy : (if 0 ≤ i then t.types[i.toNat]? else none) = o at hx ⊢
  cases o with
  | none =>
    have hx : x.kind = 0 := hx
    refine T.brF (zDF (by omega)) (T.orr (T.brF ?_ (T.some rfl)))
    rw [zDF (show ¬ x.kind = 8 by omega), zDF (show ¬ x.kind = 9 by omega)]; rfl
  | some y =>
    have hx : x = y := hx
    subst hx
    have hi : 0 ≤ i := by
      by_cases h : 0 ≤ i
      · exact h
      · rw [if_neg h] at hy; cases hy
    rw [if_pos hi] at hy
    obtain ⟨ok, hfl⟩ := ht.typ hi hy
    refine T.br (fun h => ?_) fun h => T.orr (T.br (fun h2 => ?_) fun h2 => T.some ⟨fun k => absurd k (zOF h), fun k => ?_, fun _ => rfl⟩)
    · have h := zOT h
      exact T.eq (zeZ _ _ (Int.le_refl _) (by omega) (by omega) (by omega)) (T.some ⟨fun _ => rfl, fun k => by omega, fun k => absurd (.inl h) k⟩)
    · have h := zOF h
      have h2 : x.kind = 8 ∨ x.kind = 9 := by simpa using h2
      have hr0 := ok.root0
      have hr1 := ok.rootF (.inr h2)
      have e1 : min (max x.root 0) (x.fields.length : Int) = x.root := by omega
      rw [e1]
      exact T.eq (zeZ _ _ (Int.le_refl _) (by omega) (by omega) (by omega)) (T.eq (zeZ _ _ hr0 (by omega) (by omega) (by omega)) (T.cal (zna ht hr1 (by omega) (by omega) hr0) fun r _ hr => T.some ⟨fun k => absurd k h, fun _ => hr, fun k => absurd (.inr h2) k⟩))
    · have : ¬ (x.kind = 8 ∨ x.kind = 9) := by simpa using h2
      exact absurd k this
theorem zn3 {t : GTab} (ht : TabOk t) (i : Int) : T (ItmsS t i) (zeE t i) := by
  unfold zeE
  refine T.cal (zmh i) fun x _ hx => ?_
  unfold ItmsS
  generalize hy : (if 0 ≤ i then t.types[i.toNat]? else none) = o at hx ⊢
  cases o with
  | none =>
    have hx : x.kind = 0 := hx
    refine T.brT ?_ (T.some rfl)
    rw [zDF (show ¬ x.kind = 3 by omega)]; rfl
  | some y =>
    have hx : x = y := hx
    subst hx
    have hi : 0 ≤ i := by
      by_cases h : 0 ≤ i
      · exact h
      · rw [if_neg h] at hy; cases hy
    rw [if_pos hi] at hy
    obtain ⟨ok, hfl⟩ := ht.typ hi hy
    refine T.br (fun h => T.some ⟨fun k => ?_, fun _ => rfl⟩) fun h => ?_
    · rw [zDT k] at h; cases h
    · have h : x.kind = 3 := by simpa using h
      have hr0 := ok.root0
      have hr1 := ok.rootI h
      have hil := ok.ilen
      have e1 : min (max x.root 0) (x.items.length : Int) = x.root := by omega
      rw [e1]
      exact T.eq (zeZ _ _ (Int.le_refl _) (by omega) (by omega) (by omega)) (T.eq (zeZ _ _ hr0 (by omega) (by omega) (by omega)) (T.cal (zmr hr1 (by omega) (by omega) hr0) fun r _ hr => T.some ⟨fun _ => hr, fun k => absurd h k⟩))
end Go.Proofs.Q


namespace Go.Proofs.Q
open Go.Sy
set_option linter.unusedVariables false

theorem tx {β : Type} {o : Option β} {x : β} (h : T (fun r => r = x) o) : o = some x := by
  obtain ⟨r, h1, h2⟩ := h; rw [h1, h2]
def hd : List UInt8 → UInt8
  | [] => 0
  | c :: _ => c
theorem zoZ (b : List UInt8) (n : Nat) : hd (b.drop n) = (b[n]?).getD 0 := by
  rcases Nat.lt_or_ge n b.length with h | h
  · rw [List.drop_eq_getElem_cons h, List.getElem?_eq_getElem h]; rfl
  · rw [List.drop_eq_nil_of_le h, List.getElem?_eq_none h]; rfl
theorem dropc {b : List UInt8} {n : Nat} {y : UInt8} (h : b[n]? = some y) : b.drop n = y :: b.drop (n + 1) := by
  obtain ⟨h1, h2⟩ := List.getElem?_eq_some_iff.1 h
  rw [List.drop_eq_getElem_cons h1, h2]
theorem zih (s : Str) (i : Int) (h : 0 ≤ i) : zd8 s i = some (hd (s.b.drop i.toNat)) := by
  obtain ⟨r, h1, h2⟩ := zgg s i
  rw [h1, h2, if_pos h, zoZ]

/-! ### White -/
inductive Wst where
  | out
  | start
  | ins
  | fin
def isWh (c : UInt8) : Bool := decide (c = 32) || decide (c = 9) || decide (c = 10) || decide (c = 13)
def wh : Wst → List UInt8 → List UInt8
  | _, [] => []
  | .out, c :: r => bif isWh c then wh .out r else bif decide (c = 45) && decide (hd r = 45) then wh .start r else c :: r
  | .start, _ :: r => wh .ins r
  | .ins, c :: r => bif decide (c = 10) then wh .out r else bif decide (c = 45) && decide (hd r = 45) then wh .fin r else wh .ins r
  | .fin, _ :: r => wh .out r
theorem zo7 {b : List UInt8} {n : Nat} (h : hd (b.drop n) = 45) : n < b.length := by
  rcases Nat.lt_or_ge n b.length with h2 | h2
  · exact h2
  · rw [List.drop_eq_nil_of_le h2] at h; cases h
theorem skip1 {b : List UInt8} {n : Nat} (h : n < b.length) : ∃ c, b.drop n = c :: b.drop (n + 1) := ⟨_, List.drop_eq_getElem_cons h⟩
theorem zoc (s : Str) (i : Int) (h0 : 0 ≤ i) (h1 : i ≤ s.b.length) (hl : s.b.length ≤ 1000000) : zes s i = some ((s.b.length : Int) - ((wh .out (s.b.drop i.toNat)).length : Int)) := by
  refine tx ?_
  unfold zes
  refine T.lp (fun k => i ≤ k ∧ k ≤ s.b.length ∧ wh .out (s.b.drop k.toNat) = wh .out (s.b.drop i.toNat)) (fun k => (s.b.length - k).toNat) ⟨Int.le_refl _, h1, rfl⟩ (by omega) fun L k ⟨k1, k2, k3⟩ hL => ?_
  rw [← k3] at hL ⊢
  refine T.br (fun hb => ?_) (fun hb => T.some ?_)
  rotate_left
  · have hb := zOF hb
    rw [List.drop_eq_nil_of_le (by omega)]
    simp only [wh, List.length_nil]; omega
  have hb := zOT hb
  refine T.get (by omega) hb fun y hy => ?_
  have e := dropc hy
  have e1 : (k + 1).toNat = k.toNat + 1 := by omega
  refine T.jp (fun q => q = (decide (y = 32) || decide (y = 9))) (fun J h => T.br (fun h2 => h _ (by rw [h2]; rfl)) fun h2 => T.get (by omega) hb fun y' hy' => h _ (by rw [hy] at hy'; cases hy'; rw [h2]; rfl)) fun q hq => ?_
  refine T.jp (fun q' => q' = (q || decide (y = 10))) (fun J h => T.br (fun h2 => h _ (by rw [h2]; rfl)) fun h2 => T.get (by omega) hb fun y' hy' => h _ (by rw [hy] at hy'; cases hy'; rw [h2]; rfl)) fun q' hq' => ?_
  refine T.jp (fun q2 => q2 = (q' || decide (y = 13))) (fun J h => T.br (fun h2 => h _ (by rw [h2]; rfl)) fun h2 => T.get (by omega) hb fun y' hy' => h _ (by rw [hy] at hy'; cases hy'; rw [h2]; rfl)) fun q2 hq2 => ?_
  have hw : q2 = isWh y := by rw [hq2, hq', hq]; rfl
  refine T.br (fun h2 => T.ck (by omega) ?_) fun h2 => ?_
  · refine hL _ ⟨by omega, by omega, ?_⟩ (by omega)
    rw [e1, e]; simp only [wh, ← hw, h2, cond_true]
  refine T.get (by omega) hb fun y' hy' => ?_
  rw [hy] at hy'; cases hy'
  refine T.jp (fun q => q = (decide (y = 45) && decide (hd (s.b.drop (k.toNat + 1)) = 45))) (fun J h => T.br (fun h3 => T.ck (by omega) (T.eq (zih s _ (by omega)) (h _ (by rw [h3, e1]; rfl)))) fun h3 => h _ (by rw [h3]; rfl)) fun q3 hq3 => ?_
  refine T.br (fun h3 => T.ck (by omega) ?_) (fun h3 => T.some ?_)
  rotate_left
  · rw [e]; simp only [wh, ← hw, h2, cond_false, ← hq3, h3, List.length_cons, List.length_drop]; omega
  have h45 : hd (s.b.drop (k.toNat + 1)) = 45 := by rw [hq3] at h3; simpa using (Bool.and_eq_true_iff.1 h3).2
  have hlt := zo7 h45
  obtain ⟨c, ec⟩ := skip1 hlt
  have e2 : (k + 2).toNat = k.toNat + 1 + 1 := by omega
  have hins : wh .out (s.b.drop k.toNat) = wh .ins (s.b.drop (k + 2).toNat) := by
    rw [e, e2]; simp only [wh, ← hw, h2, cond_false, ← hq3, h3, cond_true]; rw [ec]; simp only [wh]
  refine T.lp (fun j => k + 2 ≤ j ∧ j ≤ s.b.length ∧ wh .out (s.b.drop k.toNat) = wh .ins (s.b.drop j.toNat)) (fun j => (s.b.length - j).toNat) ⟨Int.le_refl _, by omega, hins⟩ (by omega) fun L2 j ⟨j1, j2, j3⟩ hL2 => ?_
  refine T.jp (fun q => (q = true → j < s.b.length ∧ ∀ y, s.b[j.toNat]? = some y → y ≠ 10) ∧ (q = false → wh .out (s.b.drop j.toNat) = wh .ins (s.b.drop j.toNat))) (fun J h => T.br (fun h4 => ?_) fun h4 => h _ ⟨(fun h => by cases h), fun _ => ?_⟩) fun q hq => ?_
  · have h4 := zOT h4
    refine T.get (by omega) h4 fun y2 hy2 => h _ ⟨fun h5 => ⟨h4, fun y3 hy3 => ?_⟩, fun h5 => ?_⟩
    · rw [hy2] at hy3; cases hy3; simpa using h5
    · have h6 : y2 = 10 := by simpa using h5
      subst h6
      rw [dropc hy2]
      simp [wh, isWh]
  · have h4 := zOF h4
    rw [List.drop_eq_nil_of_le (by omega)]; simp only [wh]
  refine T.br (fun h4 => ?_) (fun h4 => hL _ ⟨by omega, j2, by rw [hq.2 h4, j3]⟩ (by omega))
  obtain ⟨hj, hne⟩ := hq.1 h4
  refine T.get (by omega) hj fun y2 hy2 => ?_
  have hy10 := hne y2 hy2
  have f := dropc hy2
  have f1 : (j + 1).toNat = j.toNat + 1 := by omega
  refine T.jp (fun q => q = (decide (y2 = 45) && decide (hd (s.b.drop (j.toNat + 1)) = 45))) (fun J h => T.br (fun h3 => T.ck (by omega) (T.eq (zih s _ (by omega)) (h _ (by rw [h3, f1]; rfl)))) fun h3 => h _ (by rw [h3]; rfl)) fun q4 hq4 => ?_
  refine T.br (fun h5 => T.ck (by omega) ?_) (fun h5 => T.ck (by omega) (hL2 _ ⟨by omega, by omega, ?_⟩ (by omega)))
  · have h46 : hd (s.b.drop (j.toNat + 1)) = 45 := by rw [hq4] at h5; simpa using (Bool.and_eq_true_iff.1 h5).2
    have hlt2 := zo7 h46
    obtain ⟨c2, ec2⟩ := skip1 hlt2
    have f2 : (j + 2).toNat = j.toNat + 1 + 1 := by omega
    refine hL _ ⟨by omega, by omega, ?_⟩ (by omega)
    rw [j3, f, f2]; simp only [wh, zDF hy10, cond_false, ← hq4, h5, cond_true]; rw [ec2]; simp only [wh]
  · rw [j3, f, f1]; simp only [wh, zDF hy10, cond_false, ← hq4, h5]

/-! ### Names -/
def inName (c : UInt8) (r : List UInt8) : Bool := zaH c || isDigit c || (decide (c = 45) && !decide (hd r = 45))
def nm : List UInt8 → Nat
  | [] => 0
  | c :: r => bif inName c r then nm r + 1 else 0
theorem zme (c : UInt8) (r : List UInt8) : nm (c :: r) = bif inName c r then nm r + 1 else 0 := rfl
theorem zkD : ∀ b : List UInt8, nm b ≤ b.length
  | [] => Nat.le_refl _
  | c :: r => by
    have := zkD r
    unfold nm
    cases inName c r <;> simp <;> omega
def nmBad (b : List UInt8) : Bool := decide ((b.take (nm b)).getLast? = some 45) || decide (60 < nm b)
theorem zm6 {b : List UInt8} {n : Nat} {y : UInt8} (hn : 0 < n) (hy : b[n - 1]? = some y) : (b.take n).getLast? = some y := by
  have hlt := (List.getElem?_eq_some_iff.1 hy).1
  rw [List.getLast?_eq_getElem?, List.length_take, List.getElem?_take, Nat.min_eq_left (by omega), if_pos (by omega), hy]
theorem zov (s : Str) (i : Int) (h0 : 0 ≤ i) (h1 : i < s.b.length) (hl : s.b.length ≤ 1000000) (hc : zaH (hd (s.b.drop i.toNat)) = true) :
    zfa s i = some (bif nmBad (s.b.drop i.toNat) then -1 else i + nm (s.b.drop i.toNat)) := by
  refine tx ?_
  unfold zfa
  have hi0 : 0 < nm (s.b.drop i.toNat) := by
    obtain ⟨c, ec⟩ := skip1 (b := s.b) (n := i.toNat) (by omega)
    rw [ec] at hc ⊢
    unfold nm inName
    simp only [hd] at hc
    rw [hc]; simp
  refine T.lp (fun k => i ≤ k ∧ k ≤ s.b.length ∧ (nm (s.b.drop i.toNat) : Int) = k - i + nm (s.b.drop k.toNat)) (fun k => (s.b.length - k).toNat) ⟨Int.le_refl _, by omega, by omega⟩ (by omega) fun L k ⟨k1, k2, k3⟩ hL => ?_
  refine T.jp (fun q => (q = true → k < s.b.length ∧ (nm (s.b.drop i.toNat) : Int) = k + 1 - i + nm (s.b.drop (k + 1).toNat)) ∧ (q = false → (nm (s.b.drop i.toNat) : Int) = k - i)) (fun J h => ?_) fun q hq => ?_
  · refine T.br (fun hb => ?_) (fun hb => h _ ⟨(fun h => by cases h), fun _ => by
      have := zOF hb
      rw [List.drop_eq_nil_of_le (as := s.b) (i := k.toNat) (by omega)] at k3
      simpa [nm] using k3⟩)
    have hb := zOT hb
    refine T.get (by omega) hb fun y hy => ?_
    have e := dropc hy
    have e1 : (k + 1).toNat = k.toNat + 1 := by omega
    refine T.eq (ze0 y) ?_
    refine T.jp (fun q => q = (zaH y || isDigit y)) (fun J2 h2 => T.br (fun h3 => h2 _ (by rw [h3]; rfl)) fun h3 => T.get (by omega) hb fun y2 hy2 => T.eq (zdy y2) (h2 _ (by rw [hy] at hy2; cases hy2; rw [h3]; rfl))) fun q hq => ?_
    refine T.jp (fun q2 => q2 = inName y (s.b.drop (k.toNat + 1))) (fun J2 h2 => T.br (fun h3 => h2 _ (by unfold inName; rw [← hq, h3]; rfl)) fun h3 => T.get (by omega) hb fun y2 hy2 => ?_) fun q2 hq2 => ?_
    · rw [hy] at hy2; cases hy2
      refine T.jp (fun q3 => q3 = (decide (y = 45) && !decide (hd (s.b.drop (k.toNat + 1)) = 45))) (fun J3 h4 => T.br (fun h5 => T.ck (by omega) (T.eq (zih s _ (by omega)) (h4 _ (by rw [h5, e1]; rfl)))) fun h5 => h4 _ (by rw [h5]; rfl)) fun q3 hq3 => h2 _ ?_
      unfold inName; rw [← hq, h3, hq3]; rfl
    · rw [e, zme] at k3
      refine h _ ⟨fun h3 => ⟨hb, ?_⟩, fun h3 => ?_⟩
      · rw [← hq2, h3, cond_true] at k3
        rw [e1]; omega
      · rw [← hq2, h3, cond_false] at k3
        omega
  refine T.br (fun hb => T.ck (by have := hq.1 hb; omega) (hL _ ⟨by omega, by have := hq.1 hb; omega, (hq.1 hb).2⟩ (by have := hq.1 hb; omega))) fun hb => ?_
  have hn := hq.2 hb
  refine T.ck (by omega) (T.get (by omega) (by omega) fun y hy => ?_)
  have hlast : ((s.b.drop i.toNat).take (nm (s.b.drop i.toNat))).getLast? = some y := by
    refine zm6 hi0 ?_
    rw [List.getElem?_drop]
    have : i.toNat + (nm (s.b.drop i.toNat) - 1) = (k - 1).toNat := by omega
    rw [this, hy]
  refine T.jp (fun q => q = nmBad (s.b.drop i.toNat)) (fun J h => T.br (fun h3 => h _ ?_) fun h3 => T.ck (by omega) (h _ ?_)) fun q hq => ?_
  · unfold nmBad
    rw [hlast]
    have := zOT h3
    subst this; rfl
  · unfold nmBad
    rw [hlast]
    have := zOF h3
    have e : decide (some y = some (45 : UInt8)) = false := by simpa using this
    rw [e, Bool.false_or, decide_eq_decide]
    omega
  · rw [← hq]
    exact T.br (fun h3 => T.some (by rw [h3]; rfl)) fun h3 => T.some (by rw [h3, cond_false]; omega)
end Go.Proofs.Q


namespace Go.Proofs.Q
open Go.Sy
set_option linter.unusedVariables false

theorem seg {b : List UInt8} {i k : Nat} : (b.take k).drop i = (b.drop i).take (k - i) := by rw [List.drop_take]
theorem zof {b : List UInt8} {i n : Nat} {y : UInt8} (h : b[i + n]? = some y) : (b.drop i)[n]? = some y := by rw [List.getElem?_drop, h]
theorem zmJ {b : List UInt8} {n : Nat} {y : UInt8} (h : b[n]? = some y) : b.take (n + 1) = b.take n ++ [y] := by rw [List.take_add_one, h]; rfl

/-! ### Numbers -/
def dg : List UInt8 → Nat
  | [] => 0
  | c :: r => bif isDigit c then dg r + 1 else 0
theorem zl0 (c : UInt8) (r : List UInt8) : dg (c :: r) = bif isDigit c then dg r + 1 else 0 := rfl
theorem znO : ∀ b : List UInt8, dg b ≤ b.length
  | [] => Nat.le_refl _
  | c :: r => by
    have := znO r
    rw [zl0]
    cases isDigit c <;> simp <;> omega
def numBad (m : Bool) (d : List UInt8) : Bool :=
  decide (dg d < 1) || decide (19 < dg d) || (decide (1 < dg d) && decide (hd d = 48)) || (m && decide (hd d = 48)) || zaH (hd (d.drop (dg d))) ||
    decide (9223372036854775808 < uval (d.take (dg d))) || (!m && decide (uval (d.take (dg d)) = 9223372036854775808))
def numLen (b : List UInt8) : Option Nat :=
  bif decide (hd b = 45) then bif numBad true (b.drop 1) then none else some (dg (b.drop 1) + 1)
  else bif numBad false b then none else some (dg b)
theorem zmo (s : Str) (i : Int) (h0 : 0 ≤ i) (h1 : i < s.b.length) (hl : s.b.length ≤ 1000000) :
    zdM s i = some (match numLen (s.b.drop i.toNat) with
      | none => -1
      | some n => i + (n : Int)) := by
  refine tx ?_
  unfold zdM
  refine T.get h0 h1 fun y1 hy1 => ?_
  have hd1 : hd (s.b.drop i.toNat) = y1 := by rw [dropc hy1]; rfl
  refine T.jp (fun f => i ≤ f ∧ f ≤ i + 1 ∧ numLen (s.b.drop i.toNat) = (bif numBad (decide (y1 = 45)) (s.b.drop f.toNat) then none else some (dg (s.b.drop f.toNat) + (f - i).toNat))) (fun J h => T.br (fun hb => T.ck (by omega) (h _ ⟨by omega, by omega, ?_⟩)) fun hb => h _ ⟨by omega, by omega, ?_⟩) fun f ⟨f1, f2, f3⟩ => ?_
  · have e1 : (i + 1).toNat = i.toNat + 1 := by omega
    have e2 : (i + 1 - i).toNat = 1 := by omega
    unfold numLen
    rw [hd1, hb, cond_true, e1, e2, List.drop_drop]
  · have e2 : (i - i).toNat = 0 := by omega
    unfold numLen
    rw [hd1, hb, cond_false, e2, Nat.add_zero]
  have hfl : f ≤ s.b.length := by omega
  have hgoal : ∀ k : Int, (dg (s.b.drop f.toNat) : Int) = k - f → (match numLen (s.b.drop i.toNat) with
      | none => -1
      | some n => i + (n : Int)) = bif numBad (decide (y1 = 45)) (s.b.drop f.toNat) then -1 else k := by
    intro k hk
    rw [f3]
    cases numBad (decide (y1 = 45)) (s.b.drop f.toNat) with
    | true => rfl
    | false =>
      show i + ((dg (s.b.drop f.toNat) + (f - i).toNat : Nat) : Int) = k
      omega
  refine T.lp (ι := Int × UInt64) (fun q => f ≤ q.1 ∧ q.1 ≤ s.b.length ∧ (dg (s.b.drop f.toNat) : Int) = q.1 - f + dg (s.b.drop q.1.toNat) ∧ (q.1 - f ≤ 19 → q.2 = uval ((s.b.drop f.toNat).take (q.1.toNat - f.toNat)))) (fun q => (s.b.length - q.1).toNat)
    ⟨Int.le_refl _, hfl, by dsimp only; omega, fun _ => by rw [Nat.sub_self]; rfl⟩ (by simp only; omega) fun L q hq hL => ?_
  obtain ⟨k, v⟩ := q
  obtain ⟨hq1, hq2, hq3, hq4⟩ := hq
  simp only at hq1 hq2 hq3 hq4 ⊢
  refine T.jp (fun b => (b = true → k < s.b.length ∧ (dg (s.b.drop f.toNat) : Int) = k + 1 - f + dg (s.b.drop (k + 1).toNat)) ∧ (b = false → (dg (s.b.drop f.toNat) : Int) = k - f)) (fun J h => ?_) fun b hb => ?_
  · refine T.br (fun h2 => ?_) fun h2 => h _ ⟨(fun h => by cases h), fun _ => ?_⟩
    · have h2 := zOT h2
      have ek : (k + 1).toNat = k.toNat + 1 := by omega
      refine T.get (by omega) h2 fun y hy => T.eq (zdy y) (h _ ?_)
      rw [dropc hy, zl0] at hq3
      rw [ek]
      refine ⟨fun hd => ⟨h2, ?_⟩, fun hd => ?_⟩
      · rw [hd, cond_true] at hq3; omega
      · rw [hd, cond_false] at hq3; omega
    · have h2 := zOF h2
      rw [List.drop_eq_nil_of_le (as := s.b) (i := k.toNat) (by omega)] at hq3
      simpa [dg] using hq3
  refine T.br (fun h2 => ?_) fun h2 => ?_
  · obtain ⟨hk, hd⟩ := hb.1 h2
    obtain ⟨y, hy⟩ : ∃ y, s.b[k.toNat]? = some y := ⟨_, List.getElem?_eq_getElem (by omega)⟩
    have hsn := zmJ (b := s.b.drop f.toNat) (n := k.toNat - f.toNat) (y := y) (zof (by rw [show f.toNat + (k.toNat - f.toNat) = k.toNat by omega, hy]))
    have hk1 : (k + 1).toNat - f.toNat = k.toNat - f.toNat + 1 := by omega
    refine T.ck (by omega) (T.jp (fun u => k - f < 19 → u = 10 * v + (y - 48).toUInt64) (fun J h => T.br (fun _ => ?_) fun h3 => h _ fun h4 => by have := zOF h3; omega) fun u hu => T.ck (by omega) (hL _ ?_ (by simp only; omega)))
    · exact T.get (by omega) hk fun y' hy' => h _ fun _ => by rw [hy] at hy'; cases hy'; rfl
    · refine ⟨by simp only; omega, by simp only; omega, hd, fun h19 => ?_⟩
      simp only at h19 ⊢
      rw [hk1, hsn, zgY, hu (by omega), hq4 (by omega)]
  have hn := hb.2 h2
  rw [hgoal k hn]
  refine T.ck (by omega) ?_
  have hdn : dg (s.b.drop f.toNat) = k.toNat - f.toNat := by omega
  have hyf : 1 ≤ k - f → ∀ y, s.b[f.toNat]? = some y → hd (s.b.drop f.toNat) = y := fun _ y hy => by rw [dropc hy]; rfl
  refine T.jp (fun b => b = (decide (dg (s.b.drop f.toNat) < 1) || decide (19 < dg (s.b.drop f.toNat)))) (fun J h => T.br (fun h3 => h _ ?_) fun h3 => h _ ?_) fun b1 hb1 => ?_
  · have := zOT h3; rw [zDT (by omega)]; rfl
  · have := zOF h3; rw [zDF (show ¬ dg (s.b.drop f.toNat) < 1 by omega), Bool.false_or, decide_eq_decide]; omega
  refine T.jp (fun b => b = (b1 || (decide (1 < dg (s.b.drop f.toNat)) && decide (hd (s.b.drop f.toNat) = 48)))) (fun J h => T.br (fun h3 => h _ (by rw [h3]; rfl)) fun h3 => ?_) fun b2 hb2 => ?_
  · refine T.jp (fun b => b = (decide (1 < dg (s.b.drop f.toNat)) && decide (hd (s.b.drop f.toNat) = 48))) (fun J3 h4 => T.br (fun h5 => ?_) fun h5 => h4 _ ?_) fun b hb => h _ (by rw [h3, hb]; rfl)
    · have h5 := zOT h5
      exact T.get (by omega) (by omega) fun y hy => h4 _ (by rw [zDT (show 1 < dg (s.b.drop f.toNat) by omega), hyf (by omega) y hy]; rfl)
    · have h5 := zOF h5
      rw [zDF (show ¬ 1 < dg (s.b.drop f.toNat) by omega)]; rfl
  refine T.jp (fun b => b = (b2 || (decide (y1 = 45) && decide (hd (s.b.drop f.toNat) = 48)))) (fun J h => T.br (fun h3 => h _ (by rw [h3]; rfl)) fun h3 => ?_) fun b3 hb3 => ?_
  · have hge : 1 ≤ k - f := by
      have e1 := (Bool.or_eq_false_iff.1 (hb2.symm.trans h3)).1
      have := zOF (Bool.or_eq_false_iff.1 (hb1.symm.trans e1)).1
      omega
    refine T.jp (fun b => b = (decide (y1 = 45) && decide (hd (s.b.drop f.toNat) = 48))) (fun J3 h4 => T.br (fun h5 => ?_) fun h5 => h4 _ (by rw [h5]; rfl)) fun b hb => h _ (by rw [h3, hb]; rfl)
    exact T.get (by omega) (by omega) fun y hy => h4 _ (by rw [h5, hyf hge y hy]; rfl)
  have hat : zd8 s k = some (hd ((s.b.drop f.toNat).drop (dg (s.b.drop f.toNat)))) := by
    rw [zih s k (by omega), List.drop_drop, hdn]
    congr 3; omega
  refine T.jp (fun b => b = (b3 || zaH (hd ((s.b.drop f.toNat).drop (dg (s.b.drop f.toNat)))))) (fun J h => T.br (fun h3 => h _ (by rw [h3]; rfl)) fun h3 => T.eq hat (T.eq (ze0 _) (h _ (by rw [h3]; rfl)))) fun b4 hb4 => ?_
  have hv : b4 = false → v = uval ((s.b.drop f.toNat).take (dg (s.b.drop f.toNat))) := fun h => by
    have e3 := (Bool.or_eq_false_iff.1 (hb4.symm.trans h)).1
    have e2 := (Bool.or_eq_false_iff.1 (hb3.symm.trans e3)).1
    have e1 := (Bool.or_eq_false_iff.1 (hb2.symm.trans e2)).1
    have := zOF (Bool.or_eq_false_iff.1 (hb1.symm.trans e1)).2
    rw [hdn]; exact hq4 (by omega)
  refine T.jp (fun b => b = (b4 || decide (9223372036854775808 < uval ((s.b.drop f.toNat).take (dg (s.b.drop f.toNat)))))) (fun J h => T.br (fun h3 => h _ (by rw [h3]; rfl)) fun h3 => h _ (by rw [h3, hv h3]; rfl)) fun b5 hb5 => ?_
  refine T.jp (fun b => b = (b5 || (!decide (y1 = 45) && decide (uval ((s.b.drop f.toNat).take (dg (s.b.drop f.toNat))) = 9223372036854775808)))) (fun J h => T.br (fun h3 => h _ (by rw [h3]; rfl)) fun h3 => ?_) fun b6 hb6 => ?_
  · have e4 := (Bool.or_eq_false_iff.1 (hb5.symm.trans h3)).1
    refine T.jp (fun b => b = (!decide (y1 = 45) && decide (uval ((s.b.drop f.toNat).take (dg (s.b.drop f.toNat))) = 9223372036854775808))) (fun J3 h4 => T.br (fun h5 => h4 _ (by rw [h5, hv e4]; rfl)) fun h5 => h4 _ (by rw [h5]; rfl)) fun b hb => h _ (by rw [h3, hb]; rfl)
  have hall : b6 = numBad (decide (y1 = 45)) (s.b.drop f.toNat) := by
    rw [hb6, hb5, hb4, hb3, hb2, hb1]; rfl
  rw [← hall]
  exact T.br (fun h3 => T.some (by rw [h3]; rfl)) fun h3 => T.some (by rw [h3]; rfl)

/-! ### Hexes -/
def isHex (c : UInt8) : Bool := isDigit c || (decide (65 ≤ c) && decide (c ≤ 70))
def hx : List UInt8 → Nat
  | [] => 0
  | c :: r => bif isHex c then hx r + 1 else 0
theorem zoq (c : UInt8) (r : List UInt8) : hx (c :: r) = bif isHex c then hx r + 1 else 0 := rfl
def hexBad (r : List UInt8) : Bool := !decide (hx r % 2 = 0) || !decide (hd (r.drop (hx r)) = 39) || !decide (hd (r.drop (hx r + 1)) = 72)
theorem znB {b : List UInt8} {n : Nat} (h : hd (b.drop n) ≠ 0) : n < b.length := by
  rcases Nat.lt_or_ge n b.length with h2 | h2
  · exact h2
  · rw [List.drop_eq_nil_of_le h2] at h; exact absurd rfl h
theorem zpr (s : Str) (i : Int) (h0 : 0 ≤ i) (h1 : i < s.b.length) (hl : s.b.length ≤ 1000000) :
    zge s i = some (bif hexBad (s.b.drop (i.toNat + 1)) then (-1, ⟨[]⟩) else (i + 1 + (hx (s.b.drop (i.toNat + 1)) : Int) + 2, ⟨(s.b.drop (i.toNat + 1)).take (hx (s.b.drop (i.toNat + 1)))⟩)) := by
  refine tx ?_
  unfold zge
  have e0 : (i + 1).toNat = i.toNat + 1 := by omega
  refine T.ck (by omega) (T.lp (fun (k : Int) => i + 1 ≤ k ∧ k ≤ (s.b.length : Int) ∧ (hx (s.b.drop (i.toNat + 1)) : Int) = k - (i + 1) + hx (s.b.drop k.toNat)) (fun (k : Int) => ((s.b.length : Int) - k).toNat) ⟨Int.le_refl _, by omega, by rw [e0]; omega⟩ (by omega) fun L k ⟨k1, k2, k3⟩ hL => ?_)
  refine T.jp (fun b => (b = true → k < s.b.length ∧ (hx (s.b.drop (i.toNat + 1)) : Int) = k + 1 - (i + 1) + hx (s.b.drop (k + 1).toNat)) ∧ (b = false → (hx (s.b.drop (i.toNat + 1)) : Int) = k - (i + 1))) (fun J h => T.br (fun h2 => ?_) fun h2 => h _ ⟨(fun h => by cases h), fun _ => ?_⟩) fun b hb => ?_
  · have h2 := zOT h2
    refine T.get (by omega) h2 fun y hy => T.eq (zdy y) ?_
    have ek : (k + 1).toNat = k.toNat + 1 := by omega
    refine T.jp (fun q => q = isHex y) (fun J2 h3 => T.br (fun h4 => h3 _ (by unfold isHex; rw [h4]; rfl)) fun h4 => T.get (by omega) h2 fun y' hy' => ?_) fun q hq => h _ ?_
    · rw [hy] at hy'; cases hy'
      refine T.jp (fun q => q = (decide (65 ≤ y) && decide (y ≤ 70))) (fun J4 h5 => T.br (fun h6 => T.get (by omega) h2 fun y' hy' => h5 _ (by rw [hy] at hy'; cases hy'; rw [h6]; rfl)) fun h6 => h5 _ (by rw [h6]; rfl)) fun q hq => h3 _ (by unfold isHex; rw [h4, hq]; rfl)
    · subst hq
      rw [dropc hy, zoq] at k3
      rw [ek]
      refine ⟨fun hd => ⟨h2, ?_⟩, fun hd => ?_⟩
      · rw [hd, cond_true] at k3; omega
      · rw [hd, cond_false] at k3; omega
  · have h2 := zOF h2
    rw [List.drop_eq_nil_of_le (as := s.b) (i := k.toNat) (by omega)] at k3
    simpa [hx] using k3
  refine T.br (fun h2 => T.ck (by have := hb.1 h2; omega) (hL _ ⟨by have := hb.1 h2; omega, by have := hb.1 h2; omega, (hb.1 h2).2⟩ (by have := hb.1 h2; omega))) fun h2 => ?_
  have hn := hb.2 h2
  have hdk : (s.b.drop (i.toNat + 1)).drop (hx (s.b.drop (i.toNat + 1))) = s.b.drop k.toNat := by rw [List.drop_drop]; congr 1; omega
  have hdk1 : (s.b.drop (i.toNat + 1)).drop (hx (s.b.drop (i.toNat + 1)) + 1) = s.b.drop (k + 1).toNat := by rw [List.drop_drop]; congr 1; omega
  refine T.ck (by omega) (T.asr rfl ?_)
  have hmod : decide ((k - (i + 1)).tmod 2 = 0) = decide (hx (s.b.drop (i.toNat + 1)) % 2 = 0) := by
    rw [decide_eq_decide, Int.tmod_eq_emod_of_nonneg (by omega)]
    omega
  refine T.jp (fun b => b = (!decide (hx (s.b.drop (i.toNat + 1)) % 2 = 0) || !decide (hd (s.b.drop k.toNat) = 39))) (fun J h => T.br (fun h3 => h _ (by rw [← hmod, h3]; rfl)) fun h3 => T.eq (zih s k (by omega)) (h _ (by rw [← hmod, h3]; rfl))) fun b1 hb1 => ?_
  refine T.jp (fun b => b = hexBad (s.b.drop (i.toNat + 1))) (fun J h => T.br (fun h3 => h _ ?_) fun h3 => T.ck (by omega) (T.eq (zih s (k + 1) (by omega)) (h _ ?_))) fun b2 hb2 => ?_
  · unfold hexBad; rw [hdk, ← hb1, h3]; rfl
  · unfold hexBad; rw [hdk, hdk1, ← hb1, h3]; rfl
  rw [← hb2]
  refine T.br (fun h3 => T.some (by rw [h3]; rfl)) fun h3 => ?_
  have hlt : k + 1 < s.b.length := by
    rw [h3] at hb2
    unfold hexBad at hb2
    have := (Bool.or_eq_false_iff.1 hb2.symm).2
    have h72 : hd (s.b.drop (k + 1).toNat) = 72 := by rw [hdk1] at this; simpa using this
    have := znB (b := s.b) (n := (k + 1).toNat) (by rw [h72]; decide)
    omega
  refine T.ck (by omega) (T.asd (by omega) (T.some ?_))
  rw [h3, cond_false, seg, e0]
  have e5 : k.toNat - (i.toNat + 1) = hx (s.b.drop (i.toNat + 1)) := by omega
  rw [e5, hn]
  have e6 : i + 1 + (k - (i + 1)) + 2 = k + 2 := by omega
  rw [e6]

/-! ### Strings -/
def qd : Bool → List UInt8 → List UInt8 → Option (List UInt8 × List UInt8)
  | _, [], _ => none
  | true, _ :: r, acc => qd false r (acc ++ [34])
  | false, c :: r, acc => bif decide (c = 34) then bif decide (hd r = 34) then qd true r acc else bif Lib.validD acc then some (acc, r) else none else qd false r (acc ++ [c])
theorem zmD (s : Str) (i : Int) (h0 : 0 ≤ i) (h1 : i < s.b.length) (hl : s.b.length ≤ 1000000) :
    zdE s i = some (match qd false (s.b.drop (i.toNat + 1)) [] with
      | none => (-1, ⟨[]⟩)
      | some (t, r) => ((s.b.length : Int) - (r.length : Int), ⟨t⟩)) := by
  refine tx ?_
  unfold zdE
  have e0 : (i + 1).toNat = i.toNat + 1 := by omega
  refine T.ck (by omega) (T.lp (ι := Int × Str) (fun q => i + 1 ≤ q.1 ∧ q.1 ≤ s.b.length + 1 ∧ (q.2.b.length : Int) < q.1 ∧ qd false (s.b.drop (i.toNat + 1)) [] = qd false (s.b.drop q.1.toNat) q.2.b) (fun q => (s.b.length + 1 - q.1).toNat) ⟨Int.le_refl _, by dsimp only; omega, by dsimp only; simp only [List.length_nil]; omega, by dsimp only; rw [e0]⟩ (by dsimp only; omega) fun L q hq hL => ?_)
  obtain ⟨k, o⟩ := q
  obtain ⟨hq1, hq2, hq3, hq4⟩ := hq
  simp only at hq1 hq2 hq3 hq4 ⊢
  rw [hq4] at hL ⊢
  refine T.br (fun h2 => ?_) fun h2 => T.some ?_
  rotate_left
  · have h2 := zOF h2
    rw [List.drop_eq_nil_of_le (by omega)]; simp only [qd]
  have h2 := zOT h2
  have ek : (k + 1).toNat = k.toNat + 1 := by omega
  refine T.jp (fun (q : Int × Str) => k ≤ q.1 ∧ q.1 < (s.b.length : Int) ∧ (q.2.b.length : Int) < q.1 + 1 ∧ qd false (s.b.drop k.toNat) o.b = qd false (s.b.drop (q.1 + 1).toNat) q.2.b) (fun J h => ?_) fun q hq => ?_
  · refine T.get (by omega) h2 fun y hy => T.br (fun h3 => ?_) fun h3 => ?_
    · have h34 : decide (y = 34) = false := by simpa using h3
      have ey : (s.b.take (k + 1).toNat).drop k.toNat = [y] := by
        rw [seg, ek, dropc hy, show k.toNat + 1 - k.toNat = 1 by omega]; rfl
      refine T.ck (by omega) (T.asd (by omega) (T.abl ?_ (h _ ⟨Int.le_refl _, h2, ?_, ?_⟩)))
      · simp only [List.length_drop, List.length_take]; omega
      · simp only [List.length_append, List.length_drop, List.length_take]; omega
      · dsimp only
        rw [ey, ek]
        conv => lhs; rw [dropc hy]
        simp only [qd, h34, cond_false]
    · have h34 : decide (y = 34) = true := by simpa using h3
      refine T.ck (by omega) (T.eq (zih s (k + 1) (by omega)) (T.br (fun h4 => ?_) fun h4 => ?_))
      · have hn : decide (hd (s.b.drop (k.toNat + 1)) = 34) = false := by rw [ek] at h4; simpa using h4
        refine T.eq rfl (T.br (fun h5 => T.some ?_) fun h5 => T.ck (by omega) (T.some ?_))
        · have h5 : Lib.validD o.b = false := by simpa using h5
          conv => rhs; rw [dropc hy]
          simp only [qd, h34, cond_true, hn, cond_false, h5]
        · have h5 : Lib.validD o.b = true := by simpa using h5
          conv => rhs; rw [dropc hy]
          simp only [qd, h34, cond_true, hn, cond_false, h5, List.length_drop]
          congr 1; omega
      · have hn : hd (s.b.drop (k.toNat + 1)) = 34 := by rw [ek] at h4; simpa using h4
        have hlt := znB (b := s.b) (n := k.toNat + 1) (by rw [hn]; decide)
        obtain ⟨c, ec⟩ := skip1 hlt
        refine T.abl ?_ (T.ck (by omega) (h _ ⟨by dsimp only; omega, by dsimp only; omega, ?_, ?_⟩))
        · simp only [List.length_cons, List.length_nil]; omega
        · simp only [List.length_append, List.length_cons, List.length_nil]; omega
        · dsimp only
          rw [show (k + 1 + 1).toNat = k.toNat + 1 + 1 by omega]
          conv => lhs; rw [dropc hy]
          simp only [qd, h34, cond_true, zDT hn]
          rw [ec]; simp only [qd]
  · exact T.ck (by omega) (hL _ ⟨by dsimp only; omega, by dsimp only; omega, hq.2.2.1, hq.2.2.2⟩ (by dsimp only; omega))
end Go.Proofs.Q

