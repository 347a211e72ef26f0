/- Models of the functions, printed by mill.py. -/
import Derived.Test.YtnnijoepfgnlfaaDoorOgA
import Derived.Test.YtnnijoepfgnlfaaDoorOgB
import Derived.KernelRfl
set_option linter.unusedVariables false
set_option linter.unusedSimpArgs false

namespace Go.Proofs.Q
open Go.Sy
set_option linter.unusedVariables false

def kidsT (t : GTyp) : List Int := t.fields.map (fun f => f.ty) ++ (if t.kind = 10 then [t.of] else [])
structure TypOk (t : GTyp) : Prop where
  tags : t.kind ≠ 9 → t.tags ≠ []
  tlen : t.tags.length ≤ 100000
  root0 : 0 ≤ t.root
  rootF : t.kind = 7 ∨ t.kind = 8 ∨ t.kind = 9 → t.root ≤ t.fields.length
  rootI : t.kind = 3 → t.root ≤ t.items.length
  fields : ¬ (t.kind = 7 ∨ t.kind = 8 ∨ t.kind = 9) → t.fields = []
  items : t.kind ≠ 3 → t.items = []
  ilen : t.items.length ≤ 8001
  nums : ∀ it ∈ t.items, I64 it.number
  dflt : ∀ f ∈ t.fields, DOk f.dflt
  rootZ : t.kind ≠ 3 → ¬ (t.kind = 7 ∨ t.kind = 8 ∨ t.kind = 9) → t.root = 0
def SubT : Nat → List GTyp → Nat → Nat → Prop
  | 0, _, _, _ => False
  | h + 1, l, i, j => ∃ t, l[i]? = some t ∧ TypOk t ∧ Kids (SubT h l) (kidsT t) (i + 1) j
theorem SubT.lt : ∀ {h l i j}, SubT h l i j → i < j := by
  intro h
  induction h with
  | zero => intro l i j h; exact h.elim
  | succ h ih => intro l i j ⟨n, _, _, h2⟩; exact Kids.le (fun x y h => Nat.le_of_lt (ih h)) h2
theorem SubT.mono : ∀ {h l l' i j}, (∀ k, i ≤ k → k < j → l'[k]? = l[k]?) → SubT h l i j → SubT h l' i j := by
  intro h
  induction h with
  | zero => intro l l' i j _ h; exact h
  | succ h ih =>
    intro l l' i j hl hs
    have hlt := hs.lt
    obtain ⟨n, h1, h0, h2⟩ := hs
    refine ⟨n, by rw [hl i (Nat.le_refl _) hlt]; exact h1, h0, Kids.mono (fun x y h => Nat.le_of_lt h.lt) (fun x y hx hy hs => ih (fun k h3 h4 => hl k (by omega) (by omega)) hs) h2⟩
theorem KidsT.monoL {h l l' r a b} (hl : ∀ k, a ≤ k → k < b → l'[k]? = l[k]?) (hk : Kids (SubT h l) r a b) : Kids (SubT h l') r a b :=
  Kids.mono (fun x y h => Nat.le_of_lt h.lt) (fun x y hx hy hs => hs.mono fun k h3 h4 => hl k (by omega) (by omega)) hk
theorem SubT.up : ∀ {h l i j}, SubT h l i j → SubT (h + 1) l i j := by
  intro h
  induction h with
  | zero => intro l i j h; exact h.elim
  | succ h ih =>
    intro l i j ⟨n, h1, h0, h2⟩
    exact ⟨n, h1, h0, Kids.mono (fun x y h => Nat.le_of_lt h.lt) (fun x y _ _ hs => ih hs) h2⟩
theorem SubT.set {h l i j t t'} (hs : SubT h l i j) (ht : l[i]? = some t) (ok : TypOk t') (hk : kidsT t' = kidsT t) : SubT h (l.set i t') i j := by
  cases h with
  | zero => exact hs
  | succ h =>
    obtain ⟨n, h1, h0, h2⟩ := hs
    rw [ht] at h1; cases h1
    have hlt := (List.getElem?_eq_some_iff.1 ht).1
    refine ⟨t', by rw [List.getElem?_set_self hlt], ok, ?_⟩
    rw [hk]
    exact KidsT.monoL (fun k h3 h4 => List.getElem?_set_ne (by omega)) h2
theorem Kids.mem3 {S : Nat → Nat → Prop} (hS : ∀ x y, S x y → x ≤ y) {k : Int} : ∀ {r a b}, Kids S r a b → k ∈ r → ∃ (c d : Nat), k = (c : Int) ∧ S c d ∧ a ≤ c ∧ d ≤ b := by
  intro r
  induction r with
  | nil => intro a b _ h; cases h
  | cons x r ih =>
    intro a b ⟨c, h0, h1, h2⟩ hm
    have h3 := Kids.le hS h2
    rcases List.mem_cons.1 hm with e | e
    · exact ⟨a, c, e.trans h0, h1, Nat.le_refl _, h3⟩
    · obtain ⟨c', d', k1, k2, k3, k4⟩ := ih h2 e
      have := hS _ _ h1
      exact ⟨c', d', k1, k2, by omega, k4⟩
theorem SubT.le' {h l} : ∀ x y, SubT h l x y → x ≤ y := fun x y h => Nat.le_of_lt h.lt
theorem zmK {t : GTyp} (f : GFld) (hf : f ∈ t.fields) : f.ty ∈ kidsT t := List.mem_append_left _ (List.mem_map.2 ⟨f, hf, rfl⟩)
theorem SubT.inb : ∀ {h l i j}, SubT h l i j → j ≤ l.length := by
  intro h
  induction h with
  | zero => intro l i j h; exact h.elim
  | succ h ih =>
    intro l i j ⟨t, h1, h0, h2⟩
    have hi := (List.getElem?_eq_some_iff.1 h1).1
    have : ∀ (r : List Int) (a b : Nat), Kids (SubT h l) r a b → a ≤ l.length → b ≤ l.length := by
      intro r
      induction r with
      | nil => intro a b h2 ha; cases h2; exact ha
      | cons x r ih2 => intro a b ⟨c, k1, k2, k3⟩ ha; exact ih2 c b k3 (ih k2)
    exact this _ _ _ h2 (by omega)

/-! ### By which tags they begin -/
def bgs : Nat → List GTyp → Int → List Tag
  | 0, _, _ => []
  | h + 1, l, i => match (if 0 ≤ i then l[i.toNat]? else none) with
    | none => []
    | some t => if 0 < t.tags.length then t.tags.take 1 else t.fields.flatMap fun f => bgs h l f.ty
def wld : Nat → List GTyp → Int → Bool
  | 0, _, _ => false
  | h + 1, l, i => match (if 0 ≤ i then l[i.toNat]? else none) with
    | none => false
    | some t => if t.kind ≠ 9 ∨ 0 < t.tags.length then false else t.more || t.fields.any fun f => wld h l f.ty
theorem zlP {l : List GTyp} {h i : Nat} {t : GTyp} (e : l[i]? = some t) : bgs (h + 1) l (i : Int) = if 0 < t.tags.length then t.tags.take 1 else t.fields.flatMap fun f => bgs h l f.ty := by
  conv => lhs; unfold bgs
  rw [if_pos (by omega), Int.toNat_natCast, e]
theorem zoS {l : List GTyp} {h i : Nat} {t : GTyp} (e : l[i]? = some t) : wld (h + 1) l (i : Int) = if t.kind ≠ 9 ∨ 0 < t.tags.length then false else t.more || t.fields.any fun f => wld h l f.ty := by
  conv => lhs; unfold wld
  rw [if_pos (by omega), Int.toNat_natCast, e]
theorem zjE {h : Nat} {l : List GTyp} (F : Int → List Tag) (hF : ∀ x y, SubT h l x y → (F (x : Int)).length ≤ y - x) : ∀ {r : List Int} {a b : Nat}, Kids (SubT h l) r a b → (r.flatMap F).length ≤ b - a := by
  intro r
  induction r with
  | nil => intro a b _; simp
  | cons k r ih =>
    intro a b ⟨c, h0, h1, h2⟩
    have e1 := hF _ _ h1
    have e2 := ih h2
    have e3 := h1.lt
    have e4 := Kids.le SubT.le' h2
    rw [List.flatMap_cons, List.length_append, h0]
    omega
theorem Kids.app {S : Nat → Nat → Prop} {ys : List Int} : ∀ {xs : List Int} {a b : Nat}, Kids S (xs ++ ys) a b → ∃ c, Kids S xs a c ∧ Kids S ys c b := by
  intro xs
  induction xs with
  | nil => intro a b h; exact ⟨a, rfl, h⟩
  | cons x xs ih =>
    intro a b ⟨c, h0, h1, h2⟩
    obtain ⟨d, h3, h4⟩ := ih h2
    exact ⟨d, ⟨c, h0, h1, h3⟩, h4⟩
theorem zmx : ∀ {h l i j}, SubT h l i j → (bgs h l (i : Int)).length ≤ j - i := by
  intro h
  induction h with
  | zero => intro l i j h; exact h.elim
  | succ h ih =>
    intro l i j hs
    have hlt := hs.lt
    obtain ⟨t, h1, h0, h2⟩ := hs
    rw [zlP h1]
    split
    · rw [List.length_take]; omega
    · unfold kidsT at h2
      obtain ⟨c, h3, h4⟩ := Kids.app h2
      have := zjE (bgs h l) (fun x y hs => ih hs) h3
      rw [List.flatMap_map] at this
      have e4 := Kids.le SubT.le' h4
      have e3 := Kids.le SubT.le' h3
      omega
theorem znD {α β : Type} {l : List α} {f : α → List β} {k : Nat} {y : α} (h : l[k]? = some y) : (l.take (k + 1)).flatMap f = (l.take k).flatMap f ++ f y := by
  rw [List.take_add_one, h]
  simp
theorem zkv {α β : Type} {l : List α} {f : α → List β} {k : Nat} : ((l.take k).flatMap f).length ≤ (l.flatMap f).length := by
  conv => rhs; rw [← List.take_append_drop k l]
  rw [List.flatMap_append, List.length_append]
  omega
theorem zlB : ∀ {h n l i j}, SubT h l i j → h ≤ n → l.length ≤ 1000 → zeQ n l (i : Int) = some (bgs h l (i : Int)) := by
  intro h
  induction h with
  | zero => intro n l i j h; exact h.elim
  | succ h ih =>
    intro n l i j hs hn hl
    obtain ⟨n, rfl⟩ : ∃ n', n = n' + 1 := ⟨n - 1, by omega⟩
    have hjl := hs.inb
    have hbl := zmx hs
    have hlt := hs.lt
    obtain ⟨t, h1, h0, h2⟩ := hs
    have hti : (i : Int).toNat = i := Int.toNat_natCast i
    have hget : ∀ {β : Type} {R : β → Prop} {K : GTyp → Option β}, T R (K t) → T R (asr (decide (0 ≤ (i : Int) ∧ (i : Int) < ((l.length : Nat) : Int))) (cal (l[(i : Int).toNat]?) K)) := fun h => T.asd ⟨by omega, by omega⟩ (by rw [hti]; exact T.eq h1 h)
    refine T.eqs ?_
    show T _ (zdE (zeQ n) l (i : Int))
    unfold zdE
    rw [zlP h1] at hbl ⊢
    refine hget (T.br (fun hb => hget (T.asd ⟨Int.le_refl _, by omega, by have := zOT hb; omega⟩ (T.some ?_))) fun hb => ?_)
    · have hb := zOT hb
      rw [if_pos (by omega)]; rfl
    have hb := zOF hb
    rw [if_neg (by omega)] at hbl ⊢
    have hfl : ∀ (k : Nat), (((t.fields.take k).flatMap fun f => bgs h l f.ty)).length ≤ 1000 := fun k => by
      have := zkv (l := t.fields) (f := fun f => bgs h l f.ty) (k := k)
      omega
    have hfc : t.fields.length ≤ 1000 := by
      unfold kidsT at h2
      obtain ⟨c, h3, h4⟩ := Kids.app h2
      have e : ∀ (r : List Int) (a b : Nat), Kids (SubT h l) r a b → r.length ≤ b - a := by
        intro r
        induction r with
        | nil => intro a b _; exact Nat.zero_le _
        | cons x r ih2 =>
          intro a b ⟨c, k0, k1, k2⟩
          have := ih2 _ _ k2
          have := k1.lt
          have := Kids.le SubT.le' k2
          simp only [List.length_cons]; omega
      have := e _ _ _ h3
      rw [List.length_map] at this
      have := Kids.le SubT.le' h4
      omega
    refine T.lp (ι := List Tag × Int) (fun q => 0 ≤ q.2 ∧ q.2 ≤ t.fields.length ∧ q.1 = (t.fields.take q.2.toNat).flatMap fun f => bgs h l f.ty) (fun q => ((t.fields.length : Int) - q.2).toNat) ⟨Int.le_refl _, by dsimp only; omega, rfl⟩ (by dsimp only; omega) fun L q ⟨q1, q2, q3⟩ hL => ?_
    obtain ⟨o, k⟩ := q
    dsimp only at q1 q2 q3 hL ⊢
    refine hget (T.br (fun hb2 => ?_) fun hb2 => T.some ?_)
    · have hb2 := zOT hb2
      refine hget (T.get q1 hb2 fun f hf => ?_)
      obtain ⟨c, d, e1, e2, e3, e4⟩ := Kids.mem3 SubT.le' h2 (zmK f (List.mem_of_getElem? hf))
      rw [e1]
      have hk1 : (k + 1).toNat = k.toNat + 1 := by omega
      have hnx := znD (f := fun f : GFld => bgs h l f.ty) hf
      have hle := hfl (k.toNat + 1)
      rw [hnx, List.length_append, e1] at hle
      have hle2 := hfl k.toNat
      refine T.eq (ih e2 (by omega) hl) (T.abl (by rw [q3]; omega) (T.ck (by omega) (hL _ ⟨by dsimp only; omega, by dsimp only; omega, ?_⟩ (by dsimp only; omega))))
      dsimp only
      rw [hk1, hnx, q3, e1]
    · have hb2 := zOF hb2
      rw [q3, List.take_of_length_le (by omega)]
theorem znr : ∀ {h n l i j}, SubT h l i j → h ≤ n → l.length ≤ 1000 → zgh n l (i : Int) = some (wld h l (i : Int)) := by
  intro h
  induction h with
  | zero => intro n l i j h; exact h.elim
  | succ h ih =>
    intro n l i j hs hn hl
    obtain ⟨n, rfl⟩ : ∃ n', n = n' + 1 := ⟨n - 1, by omega⟩
    have hjl := hs.inb
    have hlt := hs.lt
    obtain ⟨t, h1, h0, h2⟩ := hs
    have hti : (i : Int).toNat = i := Int.toNat_natCast i
    have hget : ∀ {β : Type} {R : β → Prop} {K : GTyp → Option β}, T R (K t) → T R (asr (decide (0 ≤ (i : Int) ∧ (i : Int) < ((l.length : Nat) : Int))) (cal (l[(i : Int).toNat]?) K)) := fun h => T.asd ⟨by omega, by omega⟩ (by rw [hti]; exact T.eq h1 h)
    refine T.eqs ?_
    show T _ (zeG (zgh n) l (i : Int))
    unfold zeG
    rw [zoS h1]
    have hfc : t.fields.length ≤ 1000 := by
      unfold kidsT at h2
      obtain ⟨c, h3, h4⟩ := Kids.app h2
      have e : ∀ (r : List Int) (a b : Nat), Kids (SubT h l) r a b → r.length ≤ b - a := by
        intro r
        induction r with
        | nil => intro a b _; exact Nat.zero_le _
        | cons x r ih2 =>
          intro a b ⟨c, k0, k1, k2⟩
          have := ih2 _ _ k2
          have := k1.lt
          have := Kids.le SubT.le' k2
          simp only [List.length_cons]; omega
      have := e _ _ _ h3
      rw [List.length_map] at this
      have := Kids.le SubT.le' h4
      omega
    refine hget (T.jp (fun b => b = decide (t.kind ≠ 9 ∨ 0 < t.tags.length)) (fun J hJ => T.br (fun hb => hJ _ ?_) fun hb => hget (hJ _ ?_)) fun b hb => ?_)
    · have : ¬ t.kind = 9 := by simpa using hb
      rw [zDT (.inl this)]
    · have : t.kind = 9 := by simpa using hb
      rw [decide_eq_decide]; omega
    subst hb
    refine T.br (fun hb => T.some ?_) fun hb => hget ?_
    · rw [if_pos (zOT hb)]
    rw [if_neg (zOF hb)]
    refine T.lp (ι := Bool × Int) (fun q => 0 ≤ q.2 ∧ q.2 ≤ t.fields.length ∧ q.1 = (t.more || (t.fields.take q.2.toNat).any fun f => wld h l f.ty)) (fun q => ((t.fields.length : Int) - q.2).toNat) ⟨Int.le_refl _, by dsimp only; omega, by simp⟩ (by dsimp only; omega) fun L q ⟨q1, q2, q3⟩ hL => ?_
    obtain ⟨o, k⟩ := q
    dsimp only at q1 q2 q3 hL ⊢
    refine hget (T.br (fun hb2 => ?_) fun hb2 => T.some ?_)
    · have hb2 := zOT hb2
      have hk1 : (k + 1).toNat = k.toNat + 1 := by omega
      obtain ⟨f, hf⟩ : ∃ f, t.fields[k.toNat]? = some f := ⟨_, List.getElem?_eq_getElem (by omega)⟩
      have hnx : (t.fields.take (k.toNat + 1)).any (fun f => wld h l f.ty) = ((t.fields.take k.toNat).any (fun f => wld h l f.ty) || wld h l f.ty) := by
        rw [List.take_add_one, hf]; simp
      refine T.jp (fun b => b = (o || wld h l f.ty)) (fun J hJ => T.br (fun hb => hJ _ (by rw [hb]; rfl)) fun hb => hget (T.get q1 hb2 fun f' hf' => ?_)) fun b hb => T.ck (by omega) (hL _ ⟨by dsimp only; omega, by dsimp only; omega, by dsimp only; rw [hk1, hnx, hb, q3, Bool.or_assoc]⟩ (by dsimp only; omega))
      rw [hf] at hf'; cases hf'
      obtain ⟨c, d, e1, e2, e3, e4⟩ := Kids.mem3 SubT.le' h2 (zmK f (List.mem_of_getElem? hf))
      rw [e1] at hJ ⊢
      exact T.eq (ih e2 (by omega) hl) (hJ _ (by rw [hb]; rfl))
    · have hb2 := zOF hb2
      rw [q3, List.take_of_length_le (by omega)]

/-! ### Told apart -/
theorem zm8 (l : List Tag) (x : Tag) (hl : l.length ≤ 1000000) : zdx l x = some (decide (x ∈ l)) := by
  refine T.eqs ?_
  unfold zdx
  refine T.lp (fun (k : Int) => 0 ≤ k ∧ k ≤ (l.length : Int) ∧ x ∉ l.take k.toNat) (fun (k : Int) => ((l.length : Int) - k).toNat) ⟨Int.le_refl _, by omega, by simp⟩ (by omega) fun L k hk hL => ?_
  refine T.br (fun h2 => ?_) fun h2 => T.some ?_
  · have h2 := zOT h2
    refine T.get hk.1 h2 fun y hy => T.br (fun h3 => T.some ?_) fun h3 => T.ck (by omega) (hL _ ⟨by omega, by omega, ?_⟩ (by omega))
    · have h3 := zOT h3
      subst h3
      exact (zDT (List.mem_of_getElem? hy)).symm
    · have h3 := zOF h3
      have e : (k + 1).toNat = k.toNat + 1 := by omega
      rw [e, List.take_add_one, hy]
      simp only [Option.toList_some, List.mem_append, List.mem_singleton, not_or]
      exact ⟨hk.2.2, fun h => h3 h.symm⟩
  · have h2 := zOF h2
    have h4 := hk.2.2
    rw [List.take_of_length_le (by omega)] at h4
    exact (zDF h4).symm
theorem zi1 {α : Type} {l : List (List α)} {k : Nat} {y : List α} (h : l[k]? = some y) : (l.take (k + 1)).flatten = (l.take k).flatten ++ y := by
  rw [List.take_add_one, h]; simp
theorem zpH {α : Type} (l : List (List α)) (k : Nat) : ((l.take k).flatten).length ≤ l.flatten.length := by
  conv => rhs; rw [← List.take_append_drop k l]
  rw [List.flatten_append, List.length_append]
  omega
theorem zj6 (s : List (List Tag)) (h1 : s.length ≤ 10000) (h2 : s.flatten.length ≤ 100000) : zdA s = some (decide s.flatten.Nodup) := by
  refine T.eqs ?_
  unfold zdA
  refine T.lp (ι := List Tag × Int) (fun q => 0 ≤ q.2 ∧ q.2 ≤ s.length ∧ q.1 = (s.take q.2.toNat).flatten ∧ q.1.Nodup) (fun q => ((s.length : Int) - q.2).toNat) ⟨Int.le_refl _, by dsimp only; omega, rfl, List.nodup_nil⟩ (by dsimp only; omega) fun L q ⟨q1, q2, q3, q4⟩ hL => ?_
  obtain ⟨o, k⟩ := q
  dsimp only at q1 q2 q3 q4 hL ⊢
  refine T.br (fun hb => ?_) fun hb => T.some ?_
  · have hb := zOT hb
    obtain ⟨y, hy⟩ : ∃ y, s[k.toNat]? = some y := ⟨_, List.getElem?_eq_getElem (by omega)⟩
    have hk1 : (k + 1).toNat = k.toNat + 1 := by omega
    have hnx := zi1 hy
    have hle := zpH s (k.toNat + 1)
    rw [hnx, List.length_append] at hle
    have hget : ∀ {β : Type} {R : β → Prop} {K : List Tag → Option β}, T R (K y) → T R (cal (getI s k) K) := fun h => T.get q1 hb fun y' hy' => by rw [hy] at hy'; cases hy'; exact h
    have hpre : ∀ n : Nat, n ≤ y.length → ¬ ((s.take k.toNat).flatten ++ y.take n).Nodup → ¬ s.flatten.Nodup := fun n hn hno h => hno (by
      have e : s.flatten = ((s.take k.toNat).flatten ++ y.take n) ++ (y.drop n ++ (s.drop (k.toNat + 1)).flatten) := by
        conv => lhs; rw [← List.take_append_drop (k.toNat + 1) s]
        rw [List.flatten_append, hnx]
        conv => lhs; rw [← List.take_append_drop n y]
        simp only [List.append_assoc]
      rw [e] at h
      exact (List.nodup_append.1 h).1)
    refine T.lp (ι := List Tag × Int) (fun p => 0 ≤ p.2 ∧ p.2 ≤ y.length ∧ p.1 = (s.take k.toNat).flatten ++ y.take p.2.toNat ∧ p.1.Nodup) (fun p => ((y.length : Int) - p.2).toNat) ⟨Int.le_refl _, by dsimp only; omega, by dsimp only; rw [q3]; simp, q4⟩ (by dsimp only; omega) fun L2 p ⟨p1, p2, p3, p4⟩ hL2 => ?_
    obtain ⟨o2, i⟩ := p
    dsimp only at p1 p2 p3 p4 hL2 ⊢
    have hi1 : (i + 1).toNat = i.toNat + 1 := by omega
    refine hget (T.br (fun hb2 => ?_) fun hb2 => T.ck (by omega) (hL _ ⟨by dsimp only; omega, by dsimp only; omega, ?_, p4⟩ (by dsimp only; omega)))
    · have hb2 := zOT hb2
      obtain ⟨z, hz⟩ : ∃ z, y[i.toNat]? = some z := ⟨_, List.getElem?_eq_getElem (by omega)⟩
      have hget2 : ∀ {β : Type} {R : β → Prop} {K : Tag → Option β}, T R (K z) → T R (cal (getI y i) K) := fun h => T.get p1 hb2 fun z' hz' => by rw [hz] at hz'; cases hz'; exact h
      have hz2 : y.take (i.toNat + 1) = y.take i.toNat ++ [z] := by rw [List.take_add_one, hz]; rfl
      have hol : o2.length ≤ 100000 := by rw [p3, List.length_append, List.length_take]; omega
      refine hget (hget2 (T.eq (zm8 _ _ (by omega)) (T.br (fun hm => T.some ?_) fun hm => hget (hget2 (T.abl (by simp only [List.length_singleton]; omega) (T.ck (by omega) (hL2 _ ⟨by dsimp only; omega, by dsimp only; omega, ?_, ?_⟩ (by dsimp only; omega))))))))
      · have hm := zOT hm
        symm
        refine zDF (hpre (i.toNat + 1) (by omega) ?_)
        rw [hz2, ← List.append_assoc, ← p3]
        intro hnd
        have := (List.nodup_append.1 hnd).2.2 z hm z (List.mem_singleton.2 rfl)
        exact this rfl
      · dsimp only; rw [hi1, hz2, p3, List.append_assoc]
      · have hm := zOF hm
        dsimp only
        rw [List.nodup_append]
        refine ⟨p4, by simp, fun a ha b hb e => ?_⟩
        rw [List.mem_singleton.1 hb] at e
        exact hm (e ▸ ha)
    · have hb2 := zOF hb2
      dsimp only
      rw [hk1, hnx, p3, List.take_of_length_le (show y.length ≤ i.toNat by omega)]
  · have hb := zOF hb
    rw [q3, List.take_of_length_le (by omega)] at q4
    exact (zDT q4).symm

theorem zhn {h : Nat} {l : List GTyp} : ∀ {r : List Int} {a b : Nat}, Kids (SubT h l) r a b → r.length ≤ b - a := by
  intro r
  induction r with
  | nil => intro a b _; exact Nat.zero_le _
  | cons x r ih =>
    intro a b ⟨c, k0, k1, k2⟩
    have := ih k2
    have := k1.lt
    have := Kids.le SubT.le' k2
    simp only [List.length_cons]; omega
def tld (h : Nat) (l : List GTyp) (fs : List GFld) (o : Bool) : Bool := !(fs.any fun f => wld h l f.ty && (o || decide (1 < fs.length))) && decide (fs.flatMap fun f => bgs h l f.ty).Nodup
theorem zik {h a b : Nat} {x : GMk} {fs : List GFld} {o : Bool} (hk : Kids (SubT h x.l) (fs.map fun f => f.ty) a b) (hh : h ≤ 1000) (hl : x.l.length ≤ 1000) (hb : b ≤ x.l.length) : zbv x fs o = some (tld h x.l fs o, x) := by
  refine T.eqs ?_
  unfold zbv
  have hfl := zhn hk
  rw [List.length_map] at hfl
  have hflat := zjE (bgs h x.l) (fun x y hs => zmx hs) hk
  rw [List.flatMap_map] at hflat
  have hfu : h ≤ fuel := by unfold fuel; omega
  have hsub : ∀ f ∈ fs, ∃ c d : Nat, f.ty = (c : Int) ∧ SubT h x.l c d := fun f hf => by
    obtain ⟨c, d, e1, e2, _⟩ := Kids.mem3 SubT.le' hk (List.mem_map.2 ⟨f, hf, rfl⟩)
    exact ⟨c, d, e1, e2⟩
  refine T.lp (ι := List (List Tag) × Int) (fun q => 0 ≤ q.2 ∧ q.2 ≤ fs.length ∧ q.1 = (fs.take q.2.toNat).map (fun f => bgs h x.l f.ty) ∧ (fs.take q.2.toNat).any (fun f => wld h x.l f.ty && (o || decide (1 < fs.length))) = false) (fun q => ((fs.length : Int) - q.2).toNat) ⟨Int.le_refl _, by dsimp only; omega, rfl, rfl⟩ (by dsimp only; omega) fun L q ⟨q1, q2, q3, q4⟩ hL => ?_
  obtain ⟨s, k⟩ := q
  dsimp only at q1 q2 q3 q4 hL ⊢
  refine T.br (fun hb1 => ?_) fun hb1 => ?_
  · have hb1 := zOT hb1
    have hk1 : (k + 1).toNat = k.toNat + 1 := by omega
    refine T.get q1 hb1 fun f hf => ?_
    obtain ⟨c, d, e1, e2⟩ := hsub f (List.mem_of_getElem? hf)
    have htk : fs.take (k.toNat + 1) = fs.take k.toNat ++ [f] := by rw [List.take_add_one, hf]; rfl
    rw [e1]
    refine T.eq (znr e2 hfu hl) (T.jp (fun q => q = (wld h x.l f.ty && (o || decide (1 < fs.length)))) (fun J hJ => T.br (fun h2 => T.jp (fun q => q = (o || decide (1 < fs.length))) (fun J2 hJ2 => T.br (fun h3 => hJ2 _ (by rw [h3]; rfl)) fun h3 => hJ2 _ (by rw [h3, Bool.false_or, decide_eq_decide]; omega)) fun q hq => hJ _ (by rw [e1, h2, hq]; rfl)) fun h2 => hJ _ (by rw [e1, h2]; rfl)) fun q hq => ?_)
    refine T.br (fun h2 => T.some ?_) fun h2 => T.get q1 hb1 fun f' hf' => ?_
    · have : (fs.any fun f => wld h x.l f.ty && (o || decide (1 < fs.length))) = true := List.any_eq_true.2 ⟨f, List.mem_of_getElem? hf, by rw [← hq]; exact h2⟩
      unfold tld
      rw [this]; rfl
    · rw [hf] at hf'; cases hf'
      rw [e1]
      refine T.eq (zlB e2 hfu hl) (T.abl (by rw [q3, List.length_map, List.length_take, List.length_singleton]; omega) (T.ck (by omega) (hL _ ⟨by dsimp only; omega, by dsimp only; omega, ?_, ?_⟩ (by dsimp only; omega))))
      · dsimp only; rw [hk1, htk, q3, List.map_append, List.map_singleton, e1]
      · dsimp only; rw [hk1, htk, List.any_append, q4, List.any_cons, ← hq, h2]; rfl
  · have hb1 := zOF hb1
    rw [List.take_of_length_le (by omega)] at q3 q4
    have hfe : s.flatten = fs.flatMap fun f => bgs h x.l f.ty := by rw [q3]; rfl
    refine T.eq (zj6 s (by rw [q3, List.length_map]; omega) (by rw [hfe]; omega)) (T.some ?_)
    unfold tld
    rw [q4, hfe]; rfl

def lse (t : GTyp) : List Bool := t.fields.mapIdx fun k f => f.optional || f.has || decide (t.root ≤ (k : Int))
theorem zia (t : GTyp) : (lse t).length = t.fields.length := by unfold lse; rw [List.length_mapIdx]
theorem zo7 {t : GTyp} {k : Nat} {f : GFld} (h : t.fields[k]? = some f) : (lse t)[k]? = some (f.optional || f.has || decide (t.root ≤ (k : Int))) := by
  unfold lse; rw [List.getElem?_mapIdx, h]; rfl
theorem ziZ (t : GTyp) (hl : t.fields.length ≤ 1000) : zex t = some (lse t) := by
  refine T.eqs ?_
  unfold zex
  have hll := zia t
  refine T.lp (ι := List Bool × Int) (fun q => 0 ≤ q.2 ∧ q.2 ≤ t.fields.length ∧ q.1 = (lse t).take q.2.toNat) (fun q => ((t.fields.length : Int) - q.2).toNat) ⟨Int.le_refl _, by dsimp only; omega, rfl⟩ (by dsimp only; omega) fun L q ⟨q1, q2, q3⟩ hL => ?_
  obtain ⟨s, k⟩ := q
  dsimp only at q1 q2 q3 hL ⊢
  refine T.br (fun hb => ?_) fun hb => T.some ?_
  · have hb := zOT hb
    refine T.get q1 hb fun f hf => ?_
    refine T.jp (fun q => q = (f.optional || f.has)) (fun J h => T.br (fun h2 => h _ (by rw [h2]; rfl)) fun h2 => T.get q1 hb fun f' hf' => h _ (by rw [hf] at hf'; cases hf'; rw [h2]; rfl)) fun q hq => ?_
    refine T.jp (fun q' => q' = (f.optional || f.has || decide (t.root ≤ k))) (fun J h => T.br (fun h2 => h _ (by rw [← hq, h2]; rfl)) fun h2 => h _ (by rw [← hq, h2]; rfl)) fun q' hq' => ?_
    have hk1 : (k + 1).toNat = k.toNat + 1 := by omega
    have hkk : ((k.toNat : Nat) : Int) = k := by omega
    have := zo7 hf
    rw [hkk] at this
    refine T.abl (by rw [q3, List.length_take, List.length_singleton]; omega) (T.ck (by omega) (hL _ ⟨by dsimp only; omega, by dsimp only; omega, ?_⟩ (by dsimp only; omega)))
    dsimp only
    rw [hk1, List.take_add_one, this, q3, hq']; rfl
  · have hb := zOF hb
    rw [q3, List.take_of_length_le (by omega)]
def lst (t : GTyp) : Nat → Nat
  | 0 => 0
  | k + 1 => if (lse t)[k]? = some true then lst t k else k + 1
theorem zl4 (t : GTyp) : ∀ k, lst t k ≤ k
  | 0 => Nat.le_refl _
  | k + 1 => by
    unfold lst
    split
    · exact Nat.le_trans (zl4 t k) (Nat.le_succ k)
    · exact Nat.le_refl _
theorem zmL (t : GTyp) (hl : t.fields.length ≤ 1000) (h0 : 0 ≤ t.root) (h1 : t.root ≤ t.fields.length) : zgj t = some ((lst t t.root.toNat : Nat) : Int) := by
  refine T.eqs ?_
  unfold zgj
  have hll := zia t
  refine T.eq (ziZ t hl) (T.lp (fun (k : Int) => 0 ≤ k ∧ k ≤ t.root ∧ lst t t.root.toNat = lst t k.toNat) (fun (k : Int) => k.toNat) ⟨h0, Int.le_refl _, rfl⟩ (by omega) fun L k ⟨k1, k2, k3⟩ hL => ?_)
  refine T.jp (fun q => (q = true → 0 < k ∧ lst t k.toNat = lst t (k - 1).toNat) ∧ (q = false → lst t k.toNat = k.toNat)) (fun J h => T.br (fun hb => ?_) fun hb => h _ ⟨(fun h => by cases h), fun _ => ?_⟩) fun q hq => ?_
  · have hb := zOT hb
    have e : k.toNat = (k - 1).toNat + 1 := by omega
    refine T.ck (by omega) (T.get (by omega) (by omega) fun y hy => h _ ?_)
    rw [e]
    refine ⟨fun hy1 => ⟨hb, ?_⟩, fun hy1 => ?_⟩
    · rw [lst, if_pos (by rw [hy, hy1])]
    · rw [lst, if_neg (by rw [hy, hy1]; simp)]
  · have hb := zOF hb
    have e : k.toNat = 0 := by omega
    rw [e]; rfl
  · refine T.br (fun h2 => T.ck (by have := (hq.1 h2).1; omega) (hL _ ⟨by have := (hq.1 h2).1; omega, by omega, by rw [k3, (hq.1 h2).2]⟩ (by have := (hq.1 h2).1; omega))) fun h2 => T.some ?_
    rw [k3, hq.2 h2]; omega
theorem KidsT.sub {h : Nat} {l : List GTyp} : ∀ {r a b} (n m : Nat), Kids (SubT h l) r a b → ∃ c d, Kids (SubT h l) ((r.take n).drop m) c d ∧ d ≤ b := by
  intro r a b n m hk
  have h1 : r = (r.take n).take m ++ ((r.take n).drop m ++ r.drop n) := by
    rw [← List.append_assoc, List.take_append_drop, List.take_append_drop]
  rw [h1] at hk
  obtain ⟨c, _, h3⟩ := Kids.app hk
  obtain ⟨d, h4, h5⟩ := Kids.app h3
  exact ⟨c, d, h4, Kids.le SubT.le' h5⟩
theorem zmW {h a b : Nat} {x : GMk} {t : GTyp} (hk : Kids (SubT h x.l) (t.fields.map fun f => f.ty) a b) (hh : h ≤ 1000) (hl : x.l.length ≤ 1000) (hb : b ≤ x.l.length) (r0 : 0 ≤ t.root) (r1 : t.kind = 7 → t.root ≤ t.fields.length) : T (fun r => r.2 = x) (zbl x t) := by
  unfold zbl
  have hfl := zhn hk
  rw [List.length_map] at hfl
  have hfl1 : t.fields.length ≤ 1000 := by omega
  have hll := zia t
  refine T.br (fun _ => T.eq (zik hk hh hl hb) (T.some rfl)) fun hk7 => ?_
  have hk7 : t.kind = 7 := by simpa using hk7
  have hsub : ∀ (n m : Nat) (o : Bool), zbv x ((t.fields.take n).drop m) o = some (tld h x.l ((t.fields.take n).drop m) o, x) := fun n m o => by
    obtain ⟨c, d, k1, k2⟩ := KidsT.sub n m hk
    rw [← List.map_take, ← List.map_drop] at k1
    exact zik k1 hh hl (by omega)
  refine T.eq (ziZ t hfl1) (T.lp (ι := Int × GMk) (fun q => 0 ≤ q.1 ∧ q.1 ≤ t.fields.length ∧ q.2 = x) (fun q => ((t.fields.length : Int) - q.1).toNat) ⟨Int.le_refl _, by dsimp only; omega, rfl⟩ (by dsimp only; omega) fun L q ⟨q1, q2, q3⟩ hL => ?_)
  obtain ⟨k, y⟩ := q
  dsimp only at q1 q2 q3 hL ⊢
  subst q3
  refine T.br (fun hb1 => ?_) fun hb1 => ?_
  · have hb1 := zOT hb1
    refine T.jp (ι := GMk) (fun z => z = y) (fun J hJ => T.get q1 (by omega) fun c hc => T.br (fun _ => hJ _ rfl) fun _ => T.ck (by omega) ?_) fun z hz => T.ck (by omega) (hL _ ⟨by dsimp only; omega, by dsimp only; omega, hz⟩ (by dsimp only; omega))
    refine T.lp (fun (e : Int) => k + 1 ≤ e ∧ e ≤ t.fields.length) (fun (e : Int) => ((t.fields.length : Int) - e).toNat) ⟨Int.le_refl _, by omega⟩ (by omega) fun L2 e ⟨e1, e2⟩ hL2 => ?_
    refine T.jp (fun q => q = true → e < t.fields.length) (fun J2 h2 => T.br (fun h3 => T.get (by omega) (by have := zOT h3; omega) fun _ _ => h2 _ fun _ => zOT h3) fun _ => h2 _ fun h => by cases h) fun q hq => ?_
    refine T.br (fun h3 => T.ck (by have := hq h3; omega) (hL2 _ (by have := hq h3; omega) (by have := hq h3; omega))) fun _ => T.ck (by omega) (T.asd (by omega) (T.eq (hsub _ _ _) (T.br (fun _ => T.some rfl) fun _ => hJ _ rfl)))
  · refine T.jp (ι := Bool × GMk) (fun z => z.2 = y) (fun J hJ => T.br (fun _ => hJ _ rfl) fun _ => T.eq (zmL t hfl1 r0 (r1 hk7)) ?_) fun z hz => T.some hz
    have := zl4 t t.root.toNat
    have := r1 hk7
    exact T.asd ⟨by omega, by omega, Int.le_refl _⟩ (T.eq (hsub _ _ _) (hJ _ rfl))
end Go.Proofs.Q


namespace Go.Proofs.Q
open Go.Sy
set_option linter.unusedVariables false

def fl (x : GMk) (e : Int) : GMk := if x.e = 0 then GMk.mk x.m x.l e else x
theorem fail10 (x : GMk) (e : Int) : zaF x e = some (fl x e) := zhF x e
theorem zqs (x : GMk) (e : Int) : (fl x e).m = x.m := by unfold fl; split <;> rfl
theorem zqw (x : GMk) (e : Int) : (fl x e).l = x.l := by unfold fl; split <;> rfl
theorem zox {x : GMk} {e : Int} (h : e ≠ 0) : (fl x e).e ≠ 0 := by
  unfold fl
  split
  · exact h
  · assumption
structure Sm (x y : GMk) : Prop where
  m : y.m = x.m
  l : y.l = x.l
  e : y.e = 0 → x.e = 0
theorem Sm.refl (x : GMk) : Sm x x := ⟨rfl, rfl, fun h => h⟩
theorem Sm.trans {x y z : GMk} (h : Sm x y) (k : Sm y z) : Sm x z := ⟨k.m.trans h.m, k.l.trans h.l, fun e => h.e (k.e e)⟩
theorem Sm.fl {x : GMk} {e : Int} (h : e ≠ 0) : Sm x (fl x e) := ⟨zqs x e, zqw x e, fun k => absurd k (zox h)⟩
theorem zi3 {x : GMk} {i : Nat} {t : GTyp} (v : Val) (ht : x.l[i]? = some t) (hv : DOk v) (r0 : 0 ≤ t.root) (r1 : t.kind = 3 → t.root ≤ t.items.length) (hi : t.items.length ≤ 8001) :
    T (fun r => Sm x r.2 ∧ DOk r.1) (zb1 x (i : Int) v) := by
  unfold zb1
  have hlt := (List.getElem?_eq_some_iff.1 ht).1
  have hti : (i : Int).toNat = i := Int.toNat_natCast i
  refine T.asd ⟨by omega, by omega⟩ ?_
  rw [hti]
  refine T.eq ht (T.jp (ι := Bool × Val) (fun q => DOk q.2) (fun J k => ?_) fun q hq => T.jp (ι := GMk) (fun y => Sm x y) (fun J k => T.br (fun _ => T.eq (fail10 _ _) (k _ (Sm.fl (by decide)))) fun _ => k _ (Sm.refl x)) fun y hy => T.some ⟨hy, hq⟩)
  refine T.jp (fun _ => True) (fun J1 k1 => T.br (fun _ => k1 _ trivial) fun _ => k1 _ trivial) fun b1 _ => T.br (fun _ => k _ hv) fun _ => ?_
  refine T.br (fun _ => T.jp (fun _ => True) (fun J1 k1 => T.br (fun _ => T.cal (ziV _ _) fun _ _ _ => k1 _ trivial) fun _ => k1 _ trivial) fun b2 _ => k _ hv) fun _ => ?_
  refine T.jp (fun _ => True) (fun J1 k1 => T.br (fun _ => k1 _ trivial) fun _ => k1 _ trivial) fun b3 _ => T.br (fun _ => ?_) fun _ => ?_
  · refine T.jp (fun _ => True) (fun J1 k1 => T.br (fun _ => T.cal (ziV _ _) fun _ _ _ => k1 _ trivial) fun _ => k1 _ trivial) fun b4 _ => ?_
    refine T.jp (fun _ => True) (fun J1 k1 => T.br (fun _ => T.jp (fun _ => True) (fun J2 k2 => T.br (fun _ => k2 _ trivial) fun _ => T.cal (znT _ (by have := hv.1; omega)) fun _ _ _ => k2 _ trivial) fun b5 _ => k1 _ trivial) fun _ => k1 _ trivial) fun b6 _ => k _ hv
  · refine T.br (fun h3 => T.br (fun _ => ?_) fun _ => k _ hv) fun _ => k _ hv
    have h3 := zOT h3
    have r2 := r1 h3
    refine T.lp (ι := Bool × Int × Val) (fun q => 0 ≤ q.2.1 ∧ q.2.1 ≤ t.root ∧ DOk q.2.2) (fun q => (t.root - q.2.1).toNat) ⟨Int.le_refl _, r0, hv⟩ (by dsimp only; omega) fun L q ⟨q1, q2, q3⟩ hL => ?_
    obtain ⟨b, j, w⟩ := q
    dsimp only at q1 q2 q3 hL ⊢
    refine T.jp (fun b' => b' = true → j < t.root) (fun J1 k1 => T.br (fun h4 => k1 _ fun _ => zOT h4) fun _ => k1 _ fun h => by cases h) fun b' hb' => T.br (fun h5 => ?_) fun _ => k _ q3
    have h5 := hb' h5
    refine T.jp (ι := Bool × Val) (fun p => DOk p.2) (fun J2 k2 => T.get q1 (by omega) fun y _ => T.br (fun _ => T.get q1 (by omega) fun y2 _ => k2 _ ⟨Nat.zero_le _, rfl, rfl, zOT rfl, zOT rfl, rfl⟩) fun _ => k2 _ q3) fun p hp => T.ck (by omega) (hL _ ⟨by dsimp only; omega, by dsimp only; omega, hp⟩ (by dsimp only; omega))
theorem zi7 {x : GMk} {i : Nat} (hi : i < x.l.length) : T (fun r => r.2 = x) (zbM x (i : Int)) := by
  unfold zbM
  have hti : (i : Int).toNat = i := Int.toNat_natCast i
  refine T.asd ⟨by omega, by omega⟩ ?_
  rw [hti]
  exact T.eq (List.getElem?_eq_getElem hi) (T.br (fun _ => T.some rfl) fun _ => T.some rfl)
theorem zmX (tags : List Tag) (n mode : Int) (hl : tags.length ≤ 1000000) : T (fun r => r.2 = 0 → r.1 ≠ [] ∧ r.1.length ≤ tags.length + 1) (zeI tags n mode) := by
  unfold zeI
  refine T.jp (fun _ => True) (fun J k => T.br (fun _ => k _ trivial) fun _ => k _ trivial) fun b1 _ => ?_
  refine T.jp (fun b => b = false → (mode = 1 → 0 < tags.length)) (fun J k => T.br (fun _ => k _ fun h => by cases h) fun _ => ?_) fun b2 hb2 => T.br (fun _ => T.some fun h => by cases h) fun h2 => ?_
  · refine T.jp (fun b => b = false → (mode = 1 → 0 < tags.length)) (fun J2 k2 => T.br (fun _ => k2 _ fun h _ => ?_) fun h => k2 _ fun _ hm => absurd hm (zOF h)) fun b hb => k _ hb
    have := zOF h
    omega
  · have h2 := hb2 h2
    rw [tkl]
    refine T.br (fun h3 => T.asd ⟨by omega, by have := h2 (zOT h3); omega, Int.le_refl _⟩ (T.abl (by rw [List.length_drop, List.length_singleton]; omega) (T.some fun _ => ⟨by simp, by dsimp only; rw [List.length_append, List.length_drop, List.length_singleton]; omega⟩))) fun h3 => T.abl (by rw [List.length_singleton]; omega) (T.some fun _ => ⟨by simp, by dsimp only; rw [List.length_append, List.length_singleton]; omega⟩)
def Wp1 (x y : GMk) (i : Nat) : Prop := y.m = x.m ∧ y.l.length = x.l.length ∧ (y.e = 0 → x.e = 0 ∧ ∀ t, x.l[i]? = some t → ∃ tg : List Tag, y.l = x.l.set i { t with tags := tg } ∧ tg ≠ [] ∧ tg.length ≤ t.tags.length + 1)
theorem ziK {x : GMk} {i : Nat} {t : GTyp} (n mode : Int) (ht : x.e = 0 → x.l[i]? = some t ∧ t.tags.length ≤ 100000) : T (fun y => Wp1 x y i) (zbR x (i : Int) n mode) := by
  unfold zbR
  refine T.br (fun he => T.some ⟨rfl, rfl, fun h => absurd h (by simpa using he)⟩) fun he => ?_
  have he : x.e = 0 := by simpa using he
  obtain ⟨h1, h2⟩ := ht he
  have hlt := (List.getElem?_eq_some_iff.1 h1).1
  have hti : (i : Int).toNat = i := Int.toNat_natCast i
  refine T.asd ⟨by omega, by omega⟩ ?_
  rw [hti]
  refine T.eq h1 (T.cal (zmX _ _ _ (by omega)) fun r _ hr => T.br (fun hr2 => T.eq (fail10 _ _) (T.some ⟨zqs _ _, by rw [zqw], fun h => absurd h (zox (by simpa using hr2))⟩)) fun hr2 => ?_)
  have hr2 : r.2 = 0 := by simpa using hr2
  obtain ⟨h3, h4⟩ := hr hr2
  refine T.asd ⟨by omega, by omega⟩ (T.eq h1 (T.some ⟨rfl, by dsimp only; rw [List.length_set], fun _ => ⟨he, fun t' ht' => ?_⟩⟩))
  rw [h1] at ht'; cases ht'
  exact ⟨r.1, rfl, h3, h4⟩
theorem TypOk.tag {t : GTyp} (h : TypOk t) {tg : List Tag} (h1 : tg ≠ []) (h2 : tg.length ≤ 100000) : TypOk { t with tags := tg } :=
  ⟨fun _ => h1, h2, h.root0, h.rootF, h.rootI, h.fields, h.items, h.ilen, h.nums, h.dflt, h.rootZ⟩
end Go.Proofs.Q


namespace Go.Proofs.Q
open Go.Sy
set_option linter.unusedVariables false

def Dn (m : GMod) (a : Int) (k j : Nat) : Prop := ∀ (p : Nat) (n : GNode), k ≤ p → p < j → m.nodes[p]? = some n → n.kind = 11 → 0 ≤ fnd m.names n.name ∧ Ed (gr m) a (fnd m.names n.name)
structure Env (m : GMod) (rk : Int → Nat) : Prop where
  wf : WF m
  rk40 : ∀ i, rk i ≤ 40
  ed : ∀ i j, Ed (gr m) i j → rk j < rk i
  root : ∀ b : Int, 0 ≤ b → b < m.names.length → ∃ c d : Nat, m.types[b.toNat]? = some (c : Int) ∧ Sub 17 m.nodes c d ∧ d ≤ m.nodes.length ∧ Dn m b c d
structure Gk (x y : GMk) : Prop where
  m : y.m = x.m
  le : x.l.length ≤ y.l.length
  lim : y.l.length ≤ 300
  e : y.e = 0 → x.e = 0
  pre : y.e = 0 → ∀ k, k < x.l.length → y.l[k]? = x.l[k]?
theorem Gk.refl {x : GMk} (h : x.l.length ≤ 300) : Gk x x := ⟨rfl, Nat.le_refl _, h, fun e => e, fun _ _ _ => rfl⟩
theorem Gk.sm {x y : GMk} (h : Sm x y) (k : x.l.length ≤ 300) : Gk x y := ⟨h.m, by rw [h.l]; exact Nat.le_refl _, by rw [h.l]; exact k, h.e, fun _ _ _ => by rw [h.l]⟩
theorem Gk.trans {x y z : GMk} (h : Gk x y) (k : Gk y z) : Gk x z :=
  ⟨k.m.trans h.m, Nat.le_trans h.le k.le, k.lim, fun e => h.e (k.e e), fun e p hp => (k.pre e p (Nat.lt_of_lt_of_le hp h.le)).trans (h.pre (k.e e) p hp)⟩
theorem Gk.wp {x y : GMk} {i : Nat} (h : Wp1 x y i) (hl : x.l.length ≤ 300) (hi : i < x.l.length) : y.m = x.m ∧ y.l.length = x.l.length := ⟨h.1, h.2.1⟩

def NodeS (m : GMod) (rk : Int → Nat) (f : GMk → Int → Int → Option (Int × GMk)) (N : Nat) : Prop :=
  ∀ (x : GMk) (k j h : Nat) (a d : Int), x.m = m → x.l.length ≤ 300 → Sub h m.nodes k j → j ≤ m.nodes.length → Dn m a k j → rk a * 301 + (j - k) ≤ N → 0 ≤ d → d ≤ 17 →
  T (fun r => Gk x r.2 ∧ (r.2.e = 0 → r.1 = (x.l.length : Int) ∧ SubT (17 - d).toNat r.2.l x.l.length r.2.l.length ∧ ∃ t, r.2.l[x.l.length]? = some t ∧ t.tags.length ≤ N + 1)) (f x (k : Int) d)
def MadeS (m : GMod) (rk : Int → Nat) (f : GMk → GNode → Int → Option (Int × GMk)) (N : Nat) : Prop :=
  ∀ (x : GMk) (n : GNode) (k j h : Nat) (a d : Int), x.m = m → x.l.length ≤ 300 → m.nodes[k]? = some n → n.kind ≠ 11 → Sub h m.nodes k j → j ≤ m.nodes.length → Dn m a k j → rk a * 301 + (j - k) ≤ N → 0 ≤ d → d ≤ 17 →
  T (fun r => Gk x r.2 ∧ (r.2.e = 0 → r.1 = (x.l.length : Int) ∧ SubT (17 - d).toNat r.2.l x.l.length r.2.l.length ∧ ∃ t, r.2.l[x.l.length]? = some t ∧ t.tags.length ≤ 1)) (f x n d)
def FieldsT (m : GMod) (rk : Int → Nat) (f : GMk → Int → GNode → Int → Option GMk) (N : Nat) : Prop :=
  ∀ (x : GMk) (n : GNode) (k j h : Nat) (a d : Int) (l0 : List GTyp) (t : GTyp), x.m = m → x.l = l0 ++ [t] → x.l.length ≤ 300 → m.nodes[k]? = some n → Kids (Sub h m.nodes) (n.fields.map fun f => f.ty) (k + 1) j → j ≤ m.nodes.length → Dn m a k j → rk a * 301 + (j - k) ≤ N → 0 ≤ d → d ≤ 16 →
    (n.kind = 7 ∨ n.kind = 8 ∨ n.kind = 9) → t.kind = n.kind → t.root = n.root →
  T (fun y => y.m = m ∧ x.l.length ≤ y.l.length ∧ y.l.length ≤ 300 ∧ (y.e = 0 → x.e = 0 ∧ (∀ p, p < l0.length → y.l[p]? = x.l[p]?) ∧ ∃ fs, y.l[l0.length]? = some { t with fields := fs } ∧ fs.length = n.fields.length ∧ Kids (SubT (16 - d).toNat y.l) (fs.map fun f => f.ty) x.l.length y.l.length ∧ ∀ f ∈ fs, DOk f.dflt)) (f x (l0.length : Int) n d)

theorem Kids.subs {h : Nat} {l : List GNode} {k : Int} {r : List Int} {a b : Nat} (hk : Kids (Sub h l) r a b) (hm : k ∈ r) : ∃ (c d : Nat), k = (c : Int) ∧ Sub h l c d ∧ a ≤ c ∧ d ≤ b := Kids.mem3 (fun x y h => Nat.le_of_lt h.lt) hk hm
theorem Dn.part {m : GMod} {a : Int} {k j c d : Nat} (h : Dn m a k j) (h1 : k ≤ c) (h2 : d ≤ j) : Dn m a c d := fun p n hp hq => h p n (by omega) (by omega)

theorem zhl {m : GMod} {rk : Int → Nat} {Fs Nd Md} {N : Nat} (E : Env m rk) (hN : N ≤ 50000) (hnd : ∀ N', N' + 1 = N → NodeS m rk Nd N') : FieldsT m rk (zbn Fs Nd Md) N := by
  intro x n k j h a d l0 t hm hxl hx3 hk hkid hj hdn hN2 hd0 hd hkind htk htr
  unfold zbn
  have hok := E.wf.ok n (List.mem_of_getElem? hk)
  have hkl := Kids.length hkid
  have hnl := E.wf.nodes
  rw [List.length_map] at hkl
  have hxlen : x.l.length = l0.length + 1 := by rw [hxl, List.length_append, List.length_singleton]
  have hsub : ∀ f ∈ n.fields, ∃ c d : Nat, f.ty = (c : Int) ∧ Sub h m.nodes c d ∧ k + 1 ≤ c ∧ d ≤ j := fun f hf => by
    obtain ⟨c, d, h1, h2, h3, h4⟩ := Kids.subs hkid (List.mem_map.2 ⟨f, hf, rfl⟩)
    exact ⟨c, d, h1, h2, h3, h4⟩
  refine T.lp (ι := Bool × Int) (fun q => 0 ≤ q.2 ∧ q.2 ≤ n.fields.length) (fun q => ((n.fields.length : Int) - q.2).toNat) ⟨Int.le_refl _, by dsimp only; omega⟩ (by dsimp only; omega) fun L q ⟨q1, q2⟩ hL => ?_
  obtain ⟨mk, i⟩ := q
  dsimp only at q1 q2 hL ⊢
  refine T.br (fun hb => ?_) fun hb => ?_
  · have hb := zOT hb
    refine T.get q1 hb fun f hf => ?_
    obtain ⟨c, dd, h1, h2, h3, h4⟩ := hsub f (List.mem_of_getElem? hf)
    have := h2.lt
    refine T.jp (fun _ => True) (fun J kk => T.br (fun _ => kk _ trivial) fun _ => T.get (by omega) (by rw [hm]; omega) fun _ _ => kk _ trivial) fun b _ => T.ck (by omega) (hL _ ⟨by dsimp only; omega, by dsimp only; omega⟩ (by dsimp only; omega))
  refine T.jp (fun _ => True) (fun J kk => T.br (fun _ => kk _ trivial) fun _ => kk _ trivial) fun b1 _ => T.jp (fun _ => True) (fun J kk => T.br (fun _ => kk _ trivial) fun _ => kk _ trivial) fun b2 _ => ?_
  refine T.jp (ι := GMk) (fun y => Sm x y) (fun J kk => T.br (fun _ => T.eq (fail10 _ _) (kk _ (Sm.fl (by decide)))) fun _ => kk _ (Sm.refl x)) fun x1 hx1 => ?_
  -- the fields, one behind the other
  have hD : (17 - (d + 1)).toNat = (16 - d).toNat := by omega
  refine T.lp (ι := List GFld × Int × GMk) (fun q => 0 ≤ q.2.1 ∧ q.2.1 ≤ n.fields.length ∧ Gk x q.2.2 ∧ (q.1.length : Int) = q.2.1 ∧ (q.2.2.e = 0 → Kids (SubT (16 - d).toNat q.2.2.l) (q.1.map fun f => f.ty) x.l.length q.2.2.l.length ∧ ∀ f ∈ q.1, DOk f.dflt)) (fun q => ((n.fields.length : Int) - q.2.1).toNat)
    ⟨Int.le_refl _, by dsimp only; omega, Gk.sm hx1 hx3, rfl, fun _ => ⟨by dsimp only; rw [hx1.l]; rfl, by simp⟩⟩ (by dsimp only; omega) fun L2 q ⟨p1, p2, p3, p4, p5⟩ hL2 => ?_
  obtain ⟨out, i2, y⟩ := q
  dsimp only at p1 p2 p3 p4 p5 hL2 ⊢
  refine T.jp (fun b => (b = true → i2 < n.fields.length) ∧ (b = false → y.e = 0 → ¬ i2 < n.fields.length)) (fun J kk => T.br (fun h1 => kk _ ⟨fun _ => zOT h1, fun h2 h3 => absurd h3 (zOF h2)⟩) fun h1 => kk _ ⟨(fun h => by cases h), fun _ _ => zOF h1⟩) fun b hb2 => T.br (fun hb3 => ?_) fun hb3 => ?_
  · have hb3 := hb2.1 hb3
    refine T.get p1 hb3 fun f hf => ?_
    obtain ⟨c, dd, h1, h2, h3, h4⟩ := hsub f (List.mem_of_getElem? hf)
    have hclt := h2.lt
    have hN1 : N - 1 + 1 < 100000 := by omega
    have hA : ∀ p : GFld, (out ++ [p]).length ≤ 100000 ∧ ((out ++ [p]).length : Int) = i2 + 1 := fun p => by rw [List.length_append, List.length_singleton]; omega
    have hA2 : 0 ≤ i2 + 1 ∧ i2 + 1 ≤ (n.fields.length : Int) ∧ i2 + 1 ≤ 100000 := by omega
    have hA4 : -9223372036854775808 ≤ i2 + 1 ∧ i2 + 1 ≤ 9223372036854775807 := by omega
    have hA3 : ((n.fields.length : Int) - (i2 + 1)).toNat < ((n.fields.length : Int) - i2).toNat := by omega
    have hfd : DOk f.dflt := hok.dflt f (List.mem_of_getElem? hf)
    refine T.lp (ι := Int × GMk) (fun p => 0 ≤ p.1 ∧ p.1 ≤ i2 ∧ Sm y p.2) (fun p => (i2 - p.1).toNat) ⟨Int.le_refl _, p1, Sm.refl y⟩ (by dsimp only; omega) fun L3 p ⟨s1, s2, s3⟩ hL3 => ?_
    obtain ⟨i3, y2⟩ := p
    dsimp only at s1 s2 s3 hL3 ⊢
    refine T.br (fun hb4 => ?_) fun hb4 => ?_
    · have hb4 := zOT hb4
      refine T.jp (ι := GMk) (fun z => Sm y z) (fun J kk => T.get s1 (by omega) fun g _ => T.br (fun _ => T.eq (fail10 _ _) (kk _ (s3.trans (Sm.fl (by decide))))) fun _ => kk _ s3) fun z hz => T.ck (by omega) (hL3 _ ⟨by dsimp only; omega, by dsimp only; omega, hz⟩ (by dsimp only; omega))
    refine T.ck (by omega) ?_
    rw [h1]
    have hy2l : y2.l.length = y.l.length := by rw [s3.l]
    have hlim := p3.lim
    refine T.cal (hnd (N - 1) (by omega) y2 c dd h a (d + 1) (s3.m.trans (p3.m.trans hm)) (by omega) h2 (by omega) (hdn.part (by omega) h4) (by omega) (by omega) (by omega)) fun r _ ⟨r1, r2⟩ => ?_
    have g1 : Gk x r.2 := p3.trans ((Gk.sm s3 hlim).trans r1)
    refine T.jp (fun b => b = true → r.2.e = 0) (fun J kk => T.br (fun h5 => kk _ fun _ => zOT h5) fun _ => kk _ fun h => by cases h) fun b5 hb5 => ?_
    -- the default
    refine T.jp (ι := GFld × GMk) (fun p => Sm r.2 p.2 ∧ p.1.ty = r.1 ∧ DOk p.1.dflt) (fun J kk => T.br (fun h6 => ?_) fun _ => kk _ ⟨Sm.refl _, rfl, hfd⟩) fun p ⟨u1, u2, u3⟩ => ?_
    · have h6 := hb5 h6
      obtain ⟨e1, e2, t1, e3, e4⟩ := r2 h6
      rw [e1]
      have hto : TypOk t1 := by
        have : 0 < (17 - (d + 1)).toNat := by
          rcases Nat.eq_zero_or_pos (17 - (d + 1)).toNat with h | h
          · rw [h] at e2; exact e2.elim
          · exact h
        obtain ⟨D', hD'⟩ : ∃ D', (17 - (d + 1)).toNat = D' + 1 := ⟨_, (Nat.succ_pred_eq_of_pos this).symm⟩
        rw [hD'] at e2
        obtain ⟨t2, k1, k2, _⟩ := e2
        rw [e3] at k1; cases k1; exact k2
      exact T.cal (zi3 f.dflt e3 hfd hto.root0 hto.rootI hto.ilen) fun s _ hs => kk _ ⟨hs.1, e1.symm, hs.2⟩
    refine T.jp (fun b => b = true → p.2.e = 0) (fun J kk => T.br (fun h5 => kk _ fun _ => zOT h5) fun _ => kk _ fun h => by cases h) fun b6 hb6 => ?_
    -- a tag of its own
    have hfin : ∀ z : GMk, z.m = r.2.m → z.l.length = r.2.l.length → (z.e = 0 → r.2.e = 0 ∧ ((z.l = r.2.l) ∨ ∃ t1 tg, r.2.l[y2.l.length]? = some t1 ∧ z.l = r.2.l.set y2.l.length { t1 with tags := tg } ∧ tg ≠ [] ∧ tg.length ≤ t1.tags.length + 1)) →
        Gk x z ∧ (z.e = 0 → Kids (SubT (16 - d).toNat z.l) ((out ++ [p.1]).map fun f => f.ty) x.l.length z.l.length ∧ ∀ f ∈ out ++ [p.1], DOk f.dflt) := by
      intro z z1 z2 z3
      have hpre : z.e = 0 → ∀ q, q < y2.l.length → z.l[q]? = r.2.l[q]? := fun ez q hq => by
        rcases (z3 ez).2 with h | ⟨t1, tg, _, h, _⟩
        · rw [h]
        · rw [h, List.getElem?_set_ne (by omega)]
      refine ⟨⟨z1.trans g1.m, by rw [z2]; exact g1.le, by rw [z2]; exact g1.lim, fun ez => g1.e (z3 ez).1, fun ez q hq => ?_⟩, fun ez => ?_⟩
      · have := p3.le
        rw [hpre ez q (by omega)]
        exact g1.pre (z3 ez).1 q hq
      · have er := (z3 ez).1
        obtain ⟨e1, e2, t1, e3, e4⟩ := r2 er
        have ey : y.e = 0 := s3.e (r1.e er)
        obtain ⟨k1, k2⟩ := p5 ey
        rw [hD] at e2
        have e2z : SubT (16 - d).toNat z.l y2.l.length z.l.length := by
          rw [z2]
          rcases (z3 ez).2 with h | ⟨t2, tg, k3, h, k4, k5⟩
          · rw [h]; exact e2
          · rw [h]
            rw [e3] at k3; cases k3
            have hto : TypOk t1 := by
              cases hDz : (16 - d).toNat with
              | zero => rw [hDz] at e2; exact e2.elim
              | succ D' =>
                rw [hDz] at e2
                obtain ⟨t3, k6, k7, _⟩ := e2
                rw [e3] at k6; cases k6; exact k7
            exact e2.set e3 (hto.tag k4 (Nat.le_trans k5 (Nat.succ_le_of_lt (Nat.lt_of_le_of_lt e4 hN1)))) rfl
        rw [hy2l] at e2z
        refine ⟨?_, fun f' hf' => ?_⟩
        · rw [List.map_append, List.map_singleton, u2, e1, hy2l]
          refine Kids.snoc (KidsT.monoL (fun q hq1 hq2 => ?_) k1) e2z
          rw [hpre ez q (by omega), r1.pre er q (by omega), s3.l]
        · rcases List.mem_append.1 hf' with h | h
          · exact k2 f' h
          · rw [List.mem_singleton.1 h]; exact u3
    refine T.jp (ι := GMk) (fun z => Gk x z ∧ (z.e = 0 → Kids (SubT (16 - d).toNat z.l) ((out ++ [p.1]).map fun f => f.ty) x.l.length z.l.length ∧ ∀ f ∈ out ++ [p.1], DOk f.dflt)) (fun J kk => T.br (fun h6 => ?_) fun _ => kk _ (hfin p.2 u1.m (by rw [u1.l]) fun ez => ⟨u1.e ez, .inl u1.l⟩)) fun z ⟨v1, v2⟩ => ?_
    · have h6 := hb6 h6
      have er := u1.e h6
      obtain ⟨e1, e2, t1, e3, e4⟩ := r2 er
      have hlt := (List.getElem?_eq_some_iff.1 e3).1
      rw [u2, e1]
      refine T.cal (zi7 (x := p.2) (i := y2.l.length) (by rw [u1.l]; exact hlt)) fun s _ hs => ?_
      rw [hs]
      refine T.cal (ziK (t := t1) _ _ (fun _ => ⟨by rw [u1.l]; exact e3, by omega⟩)) fun z _ ⟨w1, w2, w3⟩ => kk _ (hfin z (w1.trans u1.m) (by rw [w2, u1.l]) fun ez => ⟨er, ?_⟩)
      obtain ⟨tg, k1, k2, k3⟩ := (w3 ez).2 t1 (by rw [u1.l]; exact e3)
      exact .inr ⟨t1, tg, e3, by rw [k1, u1.l], k2, k3⟩
    · exact T.abl (by have := (hA p.1).1; rw [List.length_append] at this; exact Nat.le_trans this (by decide)) (T.ck hA4 (hL2 _ ⟨hA2.1, hA2.2.1, v1, (hA _).2, v2⟩ hA3))
  · -- all are there
    refine T.br (fun he => ?_) fun he => T.some ⟨p3.m.trans hm, p3.le, p3.lim, fun h => absurd h (zOF he)⟩
    have he := zOT he
    have hfin := hb2.2 hb3 he
    obtain ⟨k1, k2⟩ := p5 he
    have hti : ((l0.length : Nat) : Int).toNat = l0.length := Int.toNat_natCast _
    have hle := p3.le
    have hlim := p3.lim
    have hget : y.l[l0.length]? = some t := by
      rw [p3.pre he l0.length (by omega), hxl, List.getElem?_append_right (Nat.le_refl _), Nat.sub_self]; rfl
    have hget2 : (y.l.set l0.length { t with fields := out })[l0.length]? = some { t with fields := out } := List.getElem?_set_self (by omega)
    have hmono : ∀ q, l0.length + 1 ≤ q → (y.l.set l0.length { t with fields := out })[q]? = y.l[q]? := fun q hq => List.getElem?_set_ne (by omega)
    have hkids : Kids (SubT (16 - d).toNat (y.l.set l0.length { t with fields := out })) (out.map fun f => f.ty) x.l.length y.l.length := KidsT.monoL (fun q hq1 hq2 => hmono q (by omega)) k1
    refine T.asd ⟨by omega, by omega⟩ ?_
    rw [hti]
    refine T.eq hget (T.asd ⟨by omega, by rw [List.length_set]; omega⟩ (T.eq hget2 ?_))
    have hpost : ∀ z : GMk, Sm (GMk.mk y.m (y.l.set l0.length { t with fields := out }) y.e) z → (z.m = m ∧ x.l.length ≤ z.l.length ∧ z.l.length ≤ 300 ∧ (z.e = 0 → x.e = 0 ∧ (∀ p, p < l0.length → z.l[p]? = x.l[p]?) ∧ ∃ fs, z.l[l0.length]? = some { t with fields := fs } ∧ fs.length = n.fields.length ∧ Kids (SubT (16 - d).toNat z.l) (fs.map fun f => f.ty) x.l.length z.l.length ∧ ∀ f ∈ fs, DOk f.dflt)) := by
      intro z hz
      have zl := hz.l
      dsimp only at zl
      refine ⟨hz.m.trans (p3.m.trans hm), by rw [zl, List.length_set]; exact hle, by rw [zl, List.length_set]; exact hlim, fun ez => ⟨p3.e (hz.e ez), fun q hq => ?_, out, by rw [zl]; exact hget2, by omega, by rw [zl, List.length_set]; exact hkids, k2⟩⟩
      rw [zl, List.getElem?_set_ne (by omega)]
      exact p3.pre he q (by omega)
    refine T.cal (zmW (h := (16 - d).toNat) (a := x.l.length) (b := y.l.length) (x := GMk.mk y.m (y.l.set l0.length { t with fields := out }) y.e) (t := { t with fields := out }) hkids (by omega) (by dsimp only; rw [List.length_set]; omega) (by dsimp only; rw [List.length_set]; exact Nat.le_refl _) (by dsimp only; rw [htr]; exact hok.root0) (fun h7 => by dsimp only; rw [htr]; have := hok.fields (by omega); omega)) fun r _ hr => ?_
    rw [hr]
    exact T.br (fun _ => T.eq (fail10 _ _) (T.some (hpost _ (Sm.fl (by decide))))) fun _ => T.some (hpost _ (Sm.refl _))
end Go.Proofs.Q


namespace Go.Proofs.Q
open Go.Sy
set_option linter.unusedVariables false

theorem zoU {U V N p q c : Nat} (h : U + (c + 1) ≤ V) (h2 : V + p ≤ N) (hp : 0 < p) (hq : q ≤ c) : U + q ≤ N - 1 := by omega
theorem zow (c : Nat) {u v N p q : Nat} (h : u < v) (h2 : v * (c + 1) + p ≤ N) (hp : 0 < p) (hq : q ≤ c) : u * (c + 1) + q ≤ N - 1 := by
  have h3 := Nat.mul_le_mul_right (c + 1) (Nat.succ_le_of_lt h)
  rw [Nat.succ_mul] at h3
  exact zoU h3 h2 hp hq
theorem zo2 {u v N p q : Nat} (h : u < v) (h2 : v * 301 + p ≤ N) (hp : 0 < p) (hq : q ≤ 300) : u * 301 + q ≤ N - 1 := zow 300 h h2 hp hq
theorem zis {m : GMod} {rk : Int → Nat} {Fs Nd Md} {N : Nat} (E : Env m rk) (hN : N ≤ 50000) (hnd : ∀ N', N' + 1 = N → NodeS m rk Nd N') (hmd : MadeS m rk Md N) : NodeS m rk (zbo Fs Nd Md) N := by
  intro x k j h a d hm hx3 hs hj hdn hN2 hd0 hd
  unfold zbo
  have hlt := hs.lt
  obtain ⟨n, hn⟩ : ∃ n, m.nodes[k]? = some n := ⟨_, List.getElem?_eq_getElem (by omega)⟩
  refine T.br (fun hb => T.some ⟨Gk.refl hx3, fun e => absurd e (by simpa using hb)⟩) fun hb => ?_
  refine T.get (Int.natCast_nonneg _) (by rw [hm]; omega) fun n' hn' => ?_
  rw [hm, Int.toNat_natCast, hn] at hn'
  cases hn'
  have hN0 : 1 ≤ N := by omega
  refine T.jp (ι := Int × GMk) (fun r => Gk x r.2 ∧ (r.2.e = 0 → r.1 = (x.l.length : Int) ∧ SubT (17 - d).toNat r.2.l x.l.length r.2.l.length ∧ ∃ t, r.2.l[x.l.length]? = some t ∧ t.tags.length ≤ N)) (fun J kk => T.br (fun hk => ?_) fun hk => ?_) fun q ⟨q1, q2⟩ => ?_
  · have hk := zOT hk
    obtain ⟨f0, f1⟩ := hdn k n (Nat.le_refl _) hlt hn hk
    have hf2 : fnd m.names n.name < m.names.length := by
      rcases zgi m.names n.name with h | h
      · omega
      · exact h.2.1
    obtain ⟨c, dd, c1, c2, c3, c4⟩ := E.root _ f0 (by omega)
    have hrk := E.ed _ _ f1
    have hwn := E.wf.nodes
    have hc := c2.lt
    have hNN : rk (fnd m.names n.name) * 301 + (dd - c) ≤ N - 1 := zo2 hrk hN2 (Nat.sub_pos_of_lt hlt) (Nat.le_trans (Nat.sub_le _ _) (Nat.le_trans c3 hwn))
    refine T.eq (zkJ x.m n.name (by rw [hm]; have := E.wf.names; omega)) (T.get (by rw [hm]; exact f0) (by rw [hm, E.wf.types]; omega) fun y hy => ?_)
    rw [hm, c1] at hy
    cases hy
    exact T.cal (hnd (N - 1) (by omega) x c dd 17 _ d hm hx3 c2 c3 c4 hNN hd0 hd) fun r _ ⟨r1, r2⟩ => kk _ ⟨r1, fun e => by
      obtain ⟨e1, e2, t, e3, e4⟩ := r2 e
      exact ⟨e1, e2, t, e3, Nat.le_trans e4 (by rw [Nat.sub_add_cancel hN0]; exact Nat.le_refl _)⟩⟩
  · have hk := zOF hk
    exact T.cal (hmd x n k j h a d hm hx3 hn hk hs hj hdn hN2 hd0 hd) fun r _ ⟨r1, r2⟩ => kk _ ⟨r1, fun e => by
      obtain ⟨e1, e2, t, e3, e4⟩ := r2 e
      exact ⟨e1, e2, t, e3, Nat.le_trans e4 hN0⟩⟩
  have hNb : N < 100000 := by omega
  refine T.jp (fun b => b = true → q.2.e = 0) (fun J kk => T.br (fun h5 => kk _ fun _ => zOT h5) fun _ => kk _ fun h => by cases h) fun b hb3 => ?_
  refine T.jp (ι := GMk) (fun z => Gk x z ∧ (z.e = 0 → q.1 = (x.l.length : Int) ∧ SubT (17 - d).toNat z.l x.l.length z.l.length ∧ ∃ t, z.l[x.l.length]? = some t ∧ t.tags.length ≤ N + 1)) (fun J kk => T.br (fun h6 => ?_) fun _ => kk _ ⟨q1, fun e => ?_⟩) fun z ⟨z1, z2⟩ => T.some ⟨z1, z2⟩
  · have h6 := hb3 h6
    obtain ⟨e1, e2, t, e3, e4⟩ := q2 h6
    have hl1 := (List.getElem?_eq_some_iff.1 e3).1
    have hto : TypOk t := by
      cases hD : (17 - d).toNat with
      | zero => rw [hD] at e2; exact e2.elim
      | succ D' =>
        rw [hD] at e2
        obtain ⟨t3, k6, k7, _⟩ := e2
        rw [e3] at k6; cases k6; exact k7
    refine T.jp (ι := Int × GMk) (fun p => p.2 = q.2) (fun J2 k2 => T.br (fun _ => k2 _ rfl) fun _ => T.jp (fun _ => True) (fun J3 k3 => T.br (fun _ => k3 _ trivial) fun _ => k3 _ trivial) fun b4 _ => T.br (fun _ => ?_) fun _ => k2 _ rfl) fun p hp => ?_
    · rw [e1]
      exact T.cal (zi7 hl1) fun s _ hs => k2 _ hs
    · rw [hp, e1]
      refine T.cal (ziK (t := t) _ _ (fun _ => ⟨e3, Nat.le_of_lt (Nat.lt_of_le_of_lt e4 hNb)⟩)) fun z _ ⟨w1, w2, w3⟩ => kk _ ⟨⟨w1.trans q1.m, by rw [w2]; exact q1.le, by rw [w2]; exact q1.lim, fun ez => q1.e (w3 ez).1, fun ez p hp => ?_⟩, fun ez => ?_⟩
      · obtain ⟨tg, k1, k2, k3⟩ := (w3 ez).2 t e3
        rw [k1, List.getElem?_set_ne (Nat.ne_of_gt hp)]
        exact q1.pre h6 p hp
      · obtain ⟨tg, k1, k2, k3⟩ := (w3 ez).2 t e3
        rw [w2, k1]
        exact ⟨e1, e2.set e3 (hto.tag k2 (Nat.le_trans k3 (Nat.succ_le_of_lt (Nat.lt_of_le_of_lt e4 hNb)))) rfl, _, List.getElem?_set_self hl1, Nat.le_trans k3 (Nat.succ_le_succ e4)⟩
  · obtain ⟨e1, e2, t, e3, e4⟩ := q2 e
    exact ⟨e1, e2, t, e3, Nat.le_succ_of_le e4⟩
structure New (n : GNode) (t : GTyp) : Prop where
  kind : t.kind = n.kind
  root : t.root = n.root
  items : t.items = []
  fields : t.fields = []
  tags : t.kind ≠ 9 → t.tags ≠ []
  tlen : t.tags.length ≤ 1
theorem New.ok {n : GNode} {t : GTyp} (h : New n t) (hn : NodeOk n) (h3 : n.kind ≠ 3) (h7 : n.kind ≠ 7) (h8 : n.kind ≠ 8) (h9 : n.kind ≠ 9) (o : Int) : TypOk { t with of := o } := by
  have hk := h.kind
  exact ⟨h.tags, by have := h.tlen; show t.tags.length ≤ _; omega, by rw [h.root]; exact hn.root0, fun e => by rcases e with e | e | e <;> (rw [hk] at e; contradiction), fun e => by rw [hk] at e; contradiction, fun _ => h.fields, fun _ => h.items, by show t.items.length ≤ _; rw [h.items]; decide, fun it hit => (by dsimp only at hit; rw [h.items] at hit; cases hit), fun f hf => (by dsimp only at hf; rw [h.fields] at hf; cases hf), fun _ _ => (by dsimp only; rw [h.root]; exact hn.rootZ h3 (by omega))⟩
theorem zhh {α : Type} (l : List α) (t : α) : (l ++ [t])[l.length]? = some t := by rw [List.getElem?_append_right (Nat.le_refl _), Nat.sub_self]; rfl
theorem zi5 {m : GMod} {rk : Int → Nat} {Fs Nd Md} {N : Nat} (E : Env m rk) (hN : N ≤ 50000) (hnd : ∀ N', N' + 1 = N → NodeS m rk Nd N') (hfs : FieldsT m rk Fs N) : MadeS m rk (zbp Fs Nd Md) N := by
  intro x n k j h a d hm hx3 hn hk11 hs hj hdn hN2 hd0 hd
  unfold zbp
  have hlt := hs.lt
  have hok := E.wf.ok n (List.mem_of_getElem? hn)
  obtain ⟨h', rfl, hkid⟩ : ∃ h', h = h' + 1 ∧ Kids (Sub h' m.nodes) (kidsOf n) (k + 1) j := by
    cases h with
    | zero => exact hs.elim
    | succ h' =>
      obtain ⟨n', e1, e2⟩ := hs
      rw [hn] at e1; cases e1
      exact ⟨h', rfl, e2⟩
  refine T.jp (fun b => b = false → d ≤ 16 ∧ x.l.length < 300) (fun J kk => T.br (fun _ => kk _ fun h => by cases h) fun h1 => kk _ fun h2 => ?_) fun b hb => T.br (fun _ => T.eq (fail10 _ _) (T.some ⟨Gk.sm (Sm.fl (by decide)) hx3, fun e => absurd e (zox (by decide))⟩)) fun hb1 => ?_
  · have h1 := zOF h1
    have h2 := zOF h2
    omega
  obtain ⟨hd16, hx300⟩ := hb hb1
  obtain ⟨D, hD, hD2⟩ : ∃ D, (17 - d).toNat = D + 1 ∧ (16 - d).toNat = D := ⟨(16 - d).toNat, by omega, rfl⟩
  refine T.jp (ι := GTyp) (fun t => New n t) (fun J kk => T.br (fun _ => T.cal (zoL _) fun u _ _ => kk _ ⟨rfl, rfl, rfl, rfl, fun _ => by simp, by simp⟩) fun h9 => kk _ ⟨rfl, rfl, rfl, rfl, fun h => absurd (by simpa using h9) h, by simp⟩) fun t ht => ?_
  refine T.jp (ι := GMk) (fun y => y = GMk.mk x.m (x.l ++ [t]) x.e) (fun J kk => T.abl (by rw [List.length_singleton]; omega) (kk _ rfl)) fun y hy => ?_
  subst hy
  have hxl1 : (x.l ++ [t]).length = x.l.length + 1 := by rw [List.length_append, List.length_singleton]
  have hkind := ht.kind
  have g0 : ∀ y : GMk, Sm (GMk.mk x.m (x.l ++ [t]) x.e) y → Gk x y := fun y hy => ⟨hy.m, by rw [hy.l]; dsimp only; omega, by rw [hy.l]; dsimp only; omega, hy.e, fun _ q hq => by rw [hy.l]; exact List.getElem?_append_left hq⟩
  have hti : ((x.l.length : Nat) : Int).toNat = x.l.length := Int.toNat_natCast _
  have hleaf : n.kind ≠ 3 → n.kind ≠ 7 → n.kind ≠ 8 → n.kind ≠ 9 → n.kind ≠ 10 → ∀ y : GMk, Sm (GMk.mk x.m (x.l ++ [t]) x.e) y → (y.e = 0 → SubT (17 - d).toNat y.l x.l.length y.l.length ∧ ∃ t, y.l[x.l.length]? = some t ∧ t.tags.length ≤ 1) := fun h3 h7 h8 h9 h10 y hy _ => by
    have hl := hy.l
    dsimp only at hl
    rw [hl, hD, hxl1]
    refine ⟨⟨t, zhh _ _, ht.ok hok h3 h7 h8 h9 t.of, ?_⟩, t, zhh _ _, ht.tlen⟩
    unfold kidsT
    rw [ht.fields, if_neg (by rw [hkind]; exact h10)]
    rfl
  refine T.jp (ι := GMk) (fun y => Gk x y ∧ (y.e = 0 → SubT (17 - d).toNat y.l x.l.length y.l.length ∧ ∃ t, y.l[x.l.length]? = some t ∧ t.tags.length ≤ 1)) (fun J kk => ?_) fun y ⟨y1, y2⟩ => T.some ⟨y1, fun e => ⟨rfl, y2 e⟩⟩
  refine T.jp (fun b => b = decide (n.kind = 2 ∨ n.kind = 5 ∨ n.kind = 6 ∨ n.kind = 10)) (fun J1 k1 => T.br (fun h1 => k1 _ ?_) fun h1 => T.br (fun h2 => k1 _ ?_) fun h2 => T.br (fun h3 => k1 _ ?_) fun h3 => k1 _ ?_) fun b hb => ?_
  · have h1 := zOT h1
    rw [zDT h1, zDT (.inl h1)]
  · have h2 := zOT h2
    rw [zDT h2, zDT (.inr (.inl h2))]
  · have h3 := zOT h3
    rw [zDT h3, zDT (.inr (.inr (.inl h3)))]
  · have h1 := zOF h1
    have h2 := zOF h2
    have h3 := zOF h3
    rw [decide_eq_decide]; omega
  subst hb
  refine T.br (fun hb => ?_) fun hb => ?_
  · -- a leaf with bounds, or a list
    have hb := zOT hb
    refine T.cal (znA _ _) fun ce _ _ => T.jp (ι := GMk) (fun y => Sm (GMk.mk x.m (x.l ++ [t]) x.e) y) (fun J1 k1 => T.br (fun hc => T.eq (fail10 _ _) (k1 _ (Sm.fl (by simpa using hc)))) fun _ => k1 _ (Sm.refl _)) fun y hy => T.br (fun h10 => ?_) fun h10 => kk _ ⟨g0 y hy, hleaf (by omega) (by omega) (by omega) (by omega) (zOF h10) y hy⟩
    have h10 := zOT h10
    have hko : kidsOf n = n.fields.map (fun f => f.ty) ++ [n.of] := by unfold kidsOf; rw [if_neg hk11, if_pos h10]
    obtain ⟨c, dd, c1, c2, c3, c4⟩ := Kids.subs hkid (k := n.of) (by rw [hko]; simp)
    have hc := c2.lt
    have hyl := hy.l
    dsimp only at hyl
    refine T.ck (by omega) ?_
    rw [c1]
    refine T.cal (hnd (N - 1) (by omega) y c dd h' a (d + 1) (hy.m.trans hm) (by rw [hyl]; omega) c2 (by omega) (hdn.part (by omega) c4) (by omega) (by omega) (by omega)) fun r _ ⟨r1, r2⟩ => ?_
    have g1 : Gk x r.2 := (g0 y hy).trans r1
    refine T.br (fun he => ?_) fun he => kk _ ⟨g1, fun e => absurd e (zOF he)⟩
    have he := zOT he
    have hpre := r1.pre he x.l.length (by rw [hyl]; omega)
    rw [hyl, zhh] at hpre
    have hl1 := (List.getElem?_eq_some_iff.1 hpre).1
    have hr := r2 he
    clear r2
    obtain ⟨e1, e2, _⟩ := hr
    refine T.asd ⟨by omega, by omega⟩ ?_
    rw [hti]
    refine T.eq hpre (kk _ ⟨⟨g1.m, by rw [List.length_set]; exact g1.le, by rw [List.length_set]; exact g1.lim, g1.e, fun e q hq => by dsimp only; rw [List.getElem?_set_ne (by omega)]; exact g1.pre he q hq⟩, fun _ => ?_⟩)
    dsimp only
    rw [hD, List.length_set]
    refine ⟨⟨_, List.getElem?_set_self hl1, ht.ok hok (by omega) (by omega) (by omega) (by omega) r.1, ?_⟩, _, List.getElem?_set_self hl1, ht.tlen⟩
    unfold kidsT
    dsimp only
    rw [ht.fields, if_pos (by rw [hkind]; exact h10)]
    have hD3 : (17 - (d + 1)).toNat = D := by omega
    rw [hD3, hyl, hxl1] at e2
    rw [e1, hyl, hxl1]
    exact ⟨_, rfl, SubT.mono (fun q hq _ => List.getElem?_set_ne (by omega)) e2, rfl⟩
  have hb := zOF hb
  refine T.br (fun h3 => ?_) fun h3 => ?_
  · -- an enumerated type
    have h3 := zOT h3
    refine T.cal (zlg (GMk.mk x.m (x.l ++ [t]) x.e) n hok (hok.items h3)) fun r _ ⟨r1, r2, r3⟩ => ?_
    dsimp only at r1 r2 r3 ⊢
    refine T.asd (by rw [r2]) (T.asd ⟨by omega, by omega⟩ ?_)
    rw [hti]
    have hget : r.2.l[x.l.length]? = some t := by rw [r2]; exact zhh _ _
    have hrl : r.2.l.length = x.l.length + 1 := by rw [r2]; exact hxl1
    refine T.eq hget (kk _ ⟨⟨r1, by dsimp only; rw [List.length_set]; omega, by dsimp only; rw [List.length_set]; omega, fun e => (r3 e).1, fun e q hq => by dsimp only; rw [List.getElem?_set_ne (by omega), r2]; exact List.getElem?_append_left hq⟩, fun e => ?_⟩)
    obtain ⟨e1, e2, e3⟩ := r3 e
    have hil := hok.ilen
    dsimp only
    rw [hD, List.length_set]
    refine ⟨⟨_, List.getElem?_set_self (by omega), ⟨ht.tags, by have := ht.tlen; dsimp only; omega, by dsimp only; rw [ht.root]; exact hok.root0, fun e => by dsimp only at e; rw [hkind] at e; omega, fun _ => by dsimp only; rw [ht.root, e2]; exact hok.items h3, fun _ => ht.fields, fun e => by dsimp only at e; rw [hkind] at e; contradiction, by dsimp only; rw [e2]; exact hil, e3, fun f hf => (by dsimp only at hf; rw [ht.fields] at hf; cases hf), fun e => absurd (by dsimp only; rw [hkind]; exact h3) e⟩, ?_⟩, _, List.getElem?_set_self (by omega), ht.tlen⟩
    unfold kidsT
    dsimp only
    rw [ht.fields, if_neg (by rw [hkind]; omega), hrl]
    rfl
  have h3 := zOF h3
  refine T.jp (fun b => b = decide (n.kind = 7 ∨ n.kind = 8 ∨ n.kind = 9)) (fun J1 k1 => T.br (fun h1 => k1 _ ?_) fun h1 => T.br (fun h2 => k1 _ ?_) fun h2 => k1 _ ?_) fun b hb2 => ?_
  · have h1 := zOT h1
    rw [zDT h1, zDT (.inl h1)]
  · have h2 := zOT h2
    rw [zDT h2, zDT (.inr (.inl h2))]
  · have h1 := zOF h1
    have h2 := zOF h2
    rw [decide_eq_decide]; omega
  subst hb2
  refine T.br (fun hb2 => ?_) fun hb2 => kk _ ⟨g0 _ (Sm.refl _), ?_⟩
  · -- fields
    have hb2 := zOT hb2
    have hko : kidsOf n = n.fields.map (fun f => f.ty) := by unfold kidsOf; rw [if_neg hk11, if_neg (by omega), List.append_nil]
    rw [hko] at hkid
    refine T.cal (hfs (GMk.mk x.m (x.l ++ [t]) x.e) n k j h' a d x.l t hm rfl (by dsimp only; omega) hn hkid hj hdn hN2 hd0 hd16 hb2 hkind ht.root) fun y _ ⟨y1, y2, y3, y4⟩ => kk _ ⟨⟨y1.trans hm.symm, by dsimp only at y2; omega, y3, fun e => (y4 e).1, fun e q hq => ?_⟩, fun e => ?_⟩
    · rw [(y4 e).2.1 q hq]; exact List.getElem?_append_left hq
    obtain ⟨e1, e2, fs, e3, e4, e5, e6⟩ := y4 e
    dsimp only at e5
    rw [hD]
    refine ⟨⟨_, e3, ⟨ht.tags, by have := ht.tlen; dsimp only; omega, by dsimp only; rw [ht.root]; exact hok.root0, fun _ => by dsimp only; rw [ht.root, e4]; exact hok.fields hb2, fun e => by dsimp only at e; rw [hkind] at e; contradiction, fun e => absurd (by dsimp only; rw [hkind]; exact hb2) e, fun _ => ht.items, by dsimp only; rw [ht.items]; decide, fun it hit => (by dsimp only at hit; rw [ht.items] at hit; cases hit), e6, fun _ e => absurd (by dsimp only; rw [hkind]; exact hb2) e⟩, ?_⟩, _, e3, ht.tlen⟩
    unfold kidsT
    dsimp only
    rw [if_neg (by rw [hkind]; omega), List.append_nil]
    rw [hD2, hxl1] at e5
    exact e5
  · have hb2 := zOF hb2
    exact hleaf h3 (by omega) (by omega) (by omega) (by omega) _ (Sm.refl _)
theorem zm0 {m : GMod} {rk : Int → Nat} (E : Env m rk) : ∀ N, N ≤ 30000 →
    (∀ n, 3 * N + 1 ≤ n → FieldsT m rk (zbd n) N) ∧ (∀ n, 3 * N + 2 ≤ n → MadeS m rk (zbx n) N) ∧ (∀ n, 3 * N + 3 ≤ n → NodeS m rk (zbu n) N) := by
  intro N
  induction N with
  | zero =>
    intro _
    have hf : ∀ n, 1 ≤ n → FieldsT m rk (zbd n) 0 := fun n hn => by
      obtain ⟨n, rfl⟩ : ∃ n', n = n' + 1 := ⟨n - 1, by omega⟩
      exact zhl (Fs := (zS n).1) (Nd := (zS n).2.1) (Md := (zS n).2.2) E (by omega) fun N' h => by omega
    have hm : ∀ n, 2 ≤ n → MadeS m rk (zbx n) 0 := fun n hn => by
      obtain ⟨n, rfl⟩ : ∃ n', n = n' + 1 := ⟨n - 1, by omega⟩
      exact zi5 (Fs := (zS n).1) (Nd := (zS n).2.1) (Md := (zS n).2.2) E (by omega) (fun N' h => by omega) (hf n (by omega))
    refine ⟨fun n hn => hf n (by omega), fun n hn => hm n (by omega), fun n hn => ?_⟩
    obtain ⟨n, rfl⟩ : ∃ n', n = n' + 1 := ⟨n - 1, by omega⟩
    exact zis (Fs := (zS n).1) (Nd := (zS n).2.1) (Md := (zS n).2.2) E (by omega) (fun N' h => by omega) (hm n (by omega))
  | succ N ih =>
    intro hN
    obtain ⟨_, _, ihn⟩ := ih (by omega)
    have hf : ∀ n, 3 * (N + 1) + 1 ≤ n → FieldsT m rk (zbd n) (N + 1) := fun n hn => by
      obtain ⟨n, rfl⟩ : ∃ n', n = n' + 1 := ⟨n - 1, by omega⟩
      exact zhl (Fs := (zS n).1) (Nd := (zS n).2.1) (Md := (zS n).2.2) E (by omega) fun N' h => by
        have : N' = N := by omega
        subst this; exact ihn n (by omega)
    have hm : ∀ n, 3 * (N + 1) + 2 ≤ n → MadeS m rk (zbx n) (N + 1) := fun n hn => by
      obtain ⟨n, rfl⟩ : ∃ n', n = n' + 1 := ⟨n - 1, by omega⟩
      exact zi5 (Fs := (zS n).1) (Nd := (zS n).2.1) (Md := (zS n).2.2) E (by omega) (fun N' h => by
        have : N' = N := by omega
        subst this; exact ihn n (by omega)) (hf n (by omega))
    refine ⟨hf, hm, fun n hn => ?_⟩
    obtain ⟨n, rfl⟩ : ∃ n', n = n' + 1 := ⟨n - 1, by omega⟩
    exact zis (Fs := (zS n).1) (Nd := (zS n).2.1) (Md := (zS n).2.2) E (by omega) (fun N' h => by
        have : N' = N := by omega
        subst this; exact ihn n (by omega)) (hm n (by omega))
end Go.Proofs.Q


namespace Go.Proofs.Q
open Go.Sy
set_option linter.unusedVariables false

theorem Kids.find {S : Nat → Nat → Prop} {p : Nat} : ∀ {r : List Int} {a b : Nat}, Kids S r a b → a ≤ p → p < b → ∃ (k : Int) (c d : Nat), k ∈ r ∧ k = (c : Int) ∧ S c d ∧ c ≤ p ∧ p < d := by
  intro r
  induction r with
  | nil => intro a b h h1 h2; cases h; omega
  | cons x r ih =>
    intro a b ⟨c, h0, h1, h2⟩ ha hb
    rcases Nat.lt_or_ge p c with h | h
    · exact ⟨x, a, c, List.mem_cons_self, h0, h1, ha, h⟩
    · obtain ⟨k, c', d', k1, k2, k3, k4, k5⟩ := ih h2 h hb
      exact ⟨k, c', d', List.mem_cons_of_mem _ k1, k2, k3, k4, k5⟩
theorem zpm : ∀ {h : Nat} {l : List GNode} {c d p : Nat} {n : GNode}, Sub h l c d → c ≤ p → p < d → l[p]? = some n → n.kind = 11 → n.name ∈ nmx l h (c : Int) := by
  intro h
  induction h with
  | zero => intro l c d p n hs; exact hs.elim
  | succ h ih =>
    intro l c d p n ⟨n0, h1, h2⟩ hc hd hn hk
    rw [zif h1]
    rcases Nat.eq_or_lt_of_le hc with e | e
    · subst e
      rw [h1] at hn; cases hn
      rw [if_pos hk]; exact List.mem_singleton.2 rfl
    · by_cases h0 : n0.kind = 11
      · have : kidsOf n0 = [] := by unfold kidsOf; rw [if_pos h0]
        rw [this] at h2
        cases h2
        omega
      · rw [if_neg h0]
        obtain ⟨k, c', d', k1, k2, k3, k4, k5⟩ := Kids.find h2 e hd
        refine List.mem_flatMap.2 ⟨k, k1, ?_⟩
        rw [k2]
        exact ih k3 k4 k5 hn hk
theorem zpa {m : GMod} (h : (wr m).2 = 0) : first (zf5 m) m.names.length 0 = none := by
  unfold wr at h
  split at h
  · cases h
  · split at h
    · cases h
    · assumption
theorem zoR {m : GMod} (h : (wr m).2 = 0) : first (twice m) m.names.length 0 = none := by
  unfold wr at h
  split at h
  · cases h
  · assumption
theorem zqe {m : GMod} (w : WF m) (h : (wr m).2 = 0) : ∃ rk : Int → Nat, Env m rk := by
  obtain ⟨rk, r1, r2⟩ := ranks w h
  have hn := w.names
  have ht := w.types
  refine ⟨rk, w, fun i => Nat.le_trans (r1 i) hn, r2, fun b b0 b1 => ?_⟩
  obtain ⟨t, hbt⟩ : ∃ t, m.types[b.toNat]? = some t := ⟨_, List.getElem?_eq_getElem (by omega)⟩
  obtain ⟨c, d, e1, e2, e3, e4⟩ := Kids.subs w.forest (List.mem_of_getElem? hbt)
  subst e1
  refine ⟨c, d, hbt, e2, e4, fun p n hp hq hpn hk => ?_⟩
  have hmem : n.name ∈ nms m (c : Int) := zpm e2 hp hq hpn hk
  have hno := zfN (zpa h) b b0 (by omega)
  unfold zf5 at hno
  rw [hbt] at hno
  have hno : lost m (c : Int) = false := hno
  unfold lost at hno
  have h1 := List.any_eq_false.1 hno _ hmem
  have h2 : 0 ≤ fnd m.names n.name := by
    refine Classical.byContradiction fun hc => h1 (zDT (by omega))
  refine ⟨h2, b0, uses m (c : Int), by unfold gr; rw [List.getElem?_map, hbt]; rfl, ?_⟩
  unfold uses
  refine zkQ.2 (.inr (List.mem_filterMap.2 ⟨_, hmem, ?_⟩))
  unfold idx
  rw [if_neg (by omega)]
theorem SubT.sub : ∀ {h : Nat} {l : List GTyp} {r : List Int} {a b : Nat}, Kids (SubT h l) r a b → ∀ i, a ≤ i → i < b → ∃ j, SubT h l i j := by
  intro h
  induction h with
  | zero =>
    intro l r a b hk i h1 h2
    cases r with
    | nil => cases hk; omega
    | cons k r => obtain ⟨c, _, h, _⟩ := hk; exact h.elim
  | succ h ih =>
    intro l r a b hk i h1 h2
    obtain ⟨k, c, d, _, _, k3, k4, k5⟩ := Kids.find hk h1 h2
    rcases Nat.eq_or_lt_of_le k4 with e | e
    · subst e; exact ⟨d, k3⟩
    · obtain ⟨t, _, _, h3⟩ := k3
      obtain ⟨j, hj⟩ := ih h3 i e k5
      exact ⟨j, hj.up⟩
structure TabOk (t : GTab) : Prop where
  names : t.names.length ≤ 40
  roots : t.roots.length = t.names.length
  types : t.types.length ≤ 300
  kids : Kids (SubT 17 t.types) t.roots 0 t.types.length
  fnds : ∀ (p : Nat) (s : Str), t.names[p]? = some s → fnd t.names s = (p : Int)
theorem TabOk.empty (s : Str) : TabOk (GTab.mk s [] [] []) := ⟨Nat.zero_le _, rfl, Nat.zero_le _, rfl, fun p s h => by simp at h⟩
theorem zoE {m : GMod} (w : WF m) : T (fun r => TabOk r.1 ∧ (r.2.2 = 0 → r.1.names = m.names ∧ r.1.name = m.name)) (zc1 m) := by
  unfold zc1
  have hn := w.names
  have ht := w.types
  refine T.eq (zjp w) (T.br (fun hb => T.some ⟨TabOk.empty _, fun h => absurd h (by simpa using hb)⟩) fun hb => ?_)
  have hw : (wr m).2 = 0 := by
    have hb : (ordr m).2.2 = 0 := by simpa using hb
    unfold ordr at hb
    split at hb
    · assumption
    · exact hb
  obtain ⟨rk, E⟩ := zqe w hw
  have hfn : ∀ (p : Nat) (s : Str), m.names[p]? = some s → fnd m.names s = (p : Int) := fun p s hp => by
    have hlt := (List.getElem?_eq_some_iff.1 hp).1
    have h1 := zfN (zoR hw) (p : Int) (by omega) (by omega)
    unfold twice at h1
    rw [Int.toNat_natCast, hp] at h1
    have h2 := zOF h1
    rcases zgi m.names s with h3 | h3
    · exact absurd (List.mem_of_getElem? hp) h3.2
    · rcases Int.lt_or_le (p : Int) (fnd m.names s) with h4 | h4
      · exact absurd hp (h3.2.2.2 p (by omega))
      · omega
  have hnode := (zm0 E 12400 (by omega)).2.2 fuel (by unfold fuel; omega)
  refine T.jp (ι := GTab) (fun t => t = GTab.mk m.name m.names [] []) (fun J kk => T.abl (by rw [List.length_nil]; omega) (kk _ (by rw [List.nil_append]))) fun t htb => ?_
  subst htb
  refine T.lp (ι := Int × GTab × GMk) (fun q => 0 ≤ q.1 ∧ q.1 ≤ m.names.length ∧ q.2.1.names = m.names ∧ q.2.1.name = m.name ∧ (q.2.1.roots.length : Int) = q.1 ∧ q.2.2.m = m ∧ q.2.2.l.length ≤ 300 ∧ Kids (SubT 17 q.2.2.l) q.2.1.roots 0 q.2.2.l.length) (fun q => ((m.names.length : Int) - q.1).toNat) ⟨Int.le_refl _, by dsimp only; omega, rfl, rfl, rfl, rfl, Nat.zero_le _, rfl⟩ (by dsimp only; omega) fun L q ⟨q1, q2, q3, q4, q5, q6, q7, q8⟩ hL => ?_
  obtain ⟨i, t, y⟩ := q
  dsimp only at q1 q2 q3 q4 q5 q6 q7 q8 hL ⊢
  refine T.br (fun hi => ?_) fun hi => T.some ⟨⟨by dsimp only; rw [q3]; exact hn, by dsimp only; rw [q3]; have := zOF hi; omega, q7, q8, fun p s h => (by rw [q3] at h ⊢; exact hfn p s h)⟩, fun _ => ⟨q3, q4⟩⟩
  have hi := zOT hi
  obtain ⟨c, d, e1, e2, e3, e4⟩ := E.root i q1 hi
  have hwn := w.nodes
  have hrk := E.rk40 i
  have hcd := e2.lt
  refine T.jp (ι := GTab × GMk) (fun p => p.1.names = m.names ∧ p.1.name = m.name ∧ (p.1.roots.length : Int) = i + 1 ∧ p.2.m = m ∧ p.2.l.length ≤ 300 ∧ (p.2.e = 0 → Kids (SubT 17 p.2.l) p.1.roots 0 p.2.l.length)) (fun J kk => T.get q1 (by omega) fun y36 h36 => ?_) fun p ⟨p1, p2, p3, p4, p5, p6⟩ => ?_
  · rw [e1] at h36; cases h36
    have hNN : rk i * 301 + (d - c) ≤ 12400 := by
      have := Nat.mul_le_mul_right 301 hrk
      have h2 : d - c ≤ 300 := Nat.le_trans (Nat.sub_le _ _) (Nat.le_trans e3 hwn)
      exact Nat.le_trans (Nat.add_le_add this h2) (by decide)
    refine T.cal (hnode y c d 17 i 0 q6 q7 e2 e3 e4 hNN (Int.le_refl _) (by decide)) fun r _ ⟨r1, r2⟩ => T.abl (by rw [List.length_singleton]; omega) (kk _ ⟨q3, q4, by dsimp only; rw [List.length_append, List.length_singleton]; omega, r1.m.trans q6, r1.lim, fun e => ?_⟩)
    obtain ⟨k1, k2, _⟩ := r2 e
    dsimp only
    rw [k1]
    exact Kids.snoc (KidsT.monoL (fun k _ hk => r1.pre e k hk) q8) k2
  · refine T.br (fun he => T.some ⟨TabOk.empty _, fun h => absurd h (by simpa using he)⟩) fun he => T.ck (by omega) (hL _ ⟨by dsimp only; omega, by dsimp only; omega, p1, p2, p3, p4, p5, p6 (by simpa using he)⟩ (by dsimp only; omega))
theorem zm4 (s : Str) : T (fun r => TabOk r.1) (zaX s) := by
  unfold zaX
  refine T.br (fun _ => T.some (TabOk.empty _)) fun _ => T.cal (zjB s) fun r _ hr => T.br (fun _ => T.some (TabOk.empty _)) fun _ => T.cal (zoE hr) fun t _ ht => T.jp (fun _ => True) (fun J kk => T.br (fun _ => kk _ trivial) fun _ => kk _ trivial) fun b _ => T.some ht.1
end Go.Proofs.Q


namespace Go.Proofs.Q
open Go.Sy
set_option maxRecDepth 4000
def zdj (a_t : GTab) (a_i : Int) : Option (GTyp) :=
  jp (ι := Bool) (fun J3 => br (decide (a_i < (0 : Int))) (J3 (true)) (J3 ((decide ((a_t.types.length : Int) ≤ a_i))))) (fun q2 => br q2 (some ((GTyp.mk (0 : Int) ([] : (List Tag)) (GCon.mk false false false false (0 : Int) (0 : Int)) ([] : (List GItem)) ([] : (List GFld)) (0 : Int) false (0 : Int)))) (cal (getI a_t.types a_i) fun y5 => some (y5)))

def zcf (zdI : Int) (a_to : Int) : Option ((List Int)) :=
  lp (ι := (List Int) × Int) (fun L4 q3 => br (decide (q3.2 < a_to)) (asr (Nat.ble (q3.1.length + ([q3.2] : (List Int)).length) 68719476736) <| ck ((q3.2 + (1 : Int))) <| L4 ((q3.1 ++ ([q3.2] : (List Int))), (q3.2 + (1 : Int)))) (some (q3.1))) ((([] : (List Int)), zdI))

def zcH (a_x : GTyp) (a_a1 : (List Tag)) : Option ((List Tag)) :=
  br (decide ((0 : Int) < (a_x.tags.length : Int))) (cal (getI a_x.tags (0 : Int)) fun y2 => asr (Nat.ble (a_a1.length + ([y2] : (List Tag)).length) 68719476736) <| some ((a_a1 ++ ([y2] : (List Tag))))) (some (a_a1))

def zc0 (zcv : GTys → Int → Int → (List Tag) → Option (GTys × Int × (List Tag))) (a_t : GTys) (zem : Int) (zdg : Int) (zeo : (List Tag)) : Option (GTys × Int × (List Tag)) :=
  jp (ι := Bool) (fun J3 => br (decide (zem < (0 : Int))) (J3 (true)) (J3 ((decide ((a_t.l.length : Int) ≤ zem))))) (fun q2 => jp (ι := Bool) (fun J6 => br q2 (J6 (true)) (J6 ((decide (zdg = (0 : Int)))))) (fun q5 => br q5 (some (a_t, zdg, zeo)) (ck ((zdg - (1 : Int))) <| cal (getI a_t.l zem) fun y9 => cal (zcH y9 zeo) fun y11 => br (decide ((0 : Int) < (y9.tags.length : Int))) (some (a_t, (zdg - (1 : Int)), y11)) (lp (ι := Int × (List Tag) × Int × GTys) (fun L14 q13 => br (decide (q13.1 < (y9.fields.length : Int))) (cal (getI y9.fields q13.1) fun y20 => cal (zcv q13.2.2.2 y20.ty q13.2.2.1 q13.2.1) fun y22 => ck ((q13.1 + (1 : Int))) <| L14 ((q13.1 + (1 : Int)), y22.2.2, y22.2.1, y22.1)) (some (q13.2.2.2, q13.2.2.1, q13.2.1))) (((0 : Int), y11, (zdg - (1 : Int)), a_t))))))
def zdO : Nat → (GTys → Int → Int → (List Tag) → Option (GTys × Int × (List Tag)))
  | 0 => (fun _ _ _ _ => none)
  | n + 1 => let p := zdO n; (zc0 p)
def zdB (n : Nat) : GTys → Int → Int → (List Tag) → Option (GTys × Int × (List Tag)) := (zdO n)

def zdh (a_t : GTys) (zem : Int) : Option ((List Tag) × GTys) :=
  cal (zdB fuel a_t zem (300 : Int) ([] : (List Tag))) fun y4 => some (y4.2.2, y4.1)

def zfE (a_t : GTab) (a_i : Int) : Option ((List Tag)) :=
  cal (zdh (GTys.mk a_t.types) a_i) fun y2 => some (y2.1)

def zfm (a_a : Tag) (a_b : Tag) : Option (Bool) :=
  br (!decide (a_a.cls = a_b.cls)) (some ((decide (a_a.cls < a_b.cls)))) (some ((decide (a_a.num < a_b.num))))

def ze0 (a_t : GTab) (a_i : Int) : Option (Tag) :=
  cal (zfE a_t a_i) fun y2 => br (decide ((y2.length : Int) = (0 : Int))) (some ((Tag.mk (0 : Int) (0 : Int)))) (cal (getI y2 (0 : Int)) fun y3 => lp (ι := Int × Tag) (fun L6 q5 => br (decide (q5.1 < (y2.length : Int))) (jp (ι := Tag) (fun J14 => cal (getI y2 q5.1) fun y15 => cal (zfm y15 q5.2) fun y17 => br y17 (J14 (y15)) (J14 (q5.2))) (fun q13 => ck ((q5.1 + (1 : Int))) <| L6 ((q5.1 + (1 : Int)), q13))) (some (q5.2))) (((0 : Int), y3)))

def zb9 (a_a : Int) (a_b : Int) (a_a2 : GTab) (a_a3 : GTyp) : Option (Int) :=
  jp (ι := Tag × Tag) (fun J2 => cal (getI a_a3.fields a_a) fun y3 => cal (getI a_a3.fields a_b) fun y4 => cal (ze0 a_a2 y3.ty) fun y5 => cal (ze0 a_a2 y4.ty) fun y6 => J2 (y5, y6)) (fun q1 => cal (zfm q1.1 q1.2) fun y25 => br y25 (some ((-1 : Int))) (cal (zfm q1.2 q1.1) fun y26 => br y26 (some ((1 : Int))) (some ((0 : Int)))))

def za6 (zaS : (List Int)) (a_a : Int) (a_b : Int) (zao : GTab) (zap : GTyp) : Option ((List Int)) :=
  ck ((a_a + (1 : Int))) <| lp (ι := (List Int) × Int) (fun L3 q2 => br (decide (q2.2 < a_b)) (lp (ι := (List Int) × Int) (fun L50 q49 => jp (ι := Bool) (fun J75 => br (decide (a_a < q49.2)) (cal (getI q49.1 q49.2) fun y77 => ck ((q49.2 - (1 : Int))) <| cal (getI q49.1 (q49.2 - (1 : Int))) fun y79 => cal (zb9 y77 y79 zao zap) fun y80 => J75 ((decide (y80 < (0 : Int))))) (J75 (false))) (fun q74 => br q74 (ck ((q49.2 - (1 : Int))) <| ck ((q49.2 - (1 : Int))) <| asr (decide (0 ≤ (q49.2 - (1 : Int)) ∧ (q49.2 - (1 : Int)) < ((q49.1.length : Nat) : Int))) <| asr (decide (0 ≤ q49.2 ∧ q49.2 < ((q49.1.length : Nat) : Int))) <| cal (q49.1[(q49.2 - (1 : Int)).toNat]?) fun y85 => cal (q49.1[q49.2.toNat]?) fun y86 => asr (decide (0 ≤ q49.2 ∧ q49.2 < ((q49.1.length : Nat) : Int))) <| cal (q49.1[q49.2.toNat]?) fun y88 => asr (decide (0 ≤ (q49.2 - (1 : Int)) ∧ (q49.2 - (1 : Int)) < ((q49.1.length : Nat) : Int))) <| cal ((q49.1.set q49.2.toNat y85)[(q49.2 - (1 : Int)).toNat]?) fun y90 => ck ((q49.2 - (1 : Int))) <| L50 (((q49.1.set q49.2.toNat y85).set ((q49.2 - (1 : Int)).toNat) y86), (q49.2 - (1 : Int)))) (ck ((q2.2 + (1 : Int))) <| L3 (q49.1, (q2.2 + (1 : Int)))))) ((q2.1, q2.2))) (some (q2.1))) ((zaS, (a_a + (1 : Int))))

def za0 (zaS : (List Int)) (a_a : Int) (a_b : Int) (a_n_ : Int) (zao : GTab) (zap : GTyp) : Option ((List Int)) :=
  lp (ι := (List Int) × Int) (fun L2 q1 => br (decide (q1.2 < a_n_)) (ck ((a_a + q1.2)) <| ck ((a_b + q1.2)) <| ck ((a_b + q1.2)) <| asr (decide (0 ≤ (a_b + q1.2) ∧ (a_b + q1.2) < ((q1.1.length : Nat) : Int))) <| ck ((a_a + q1.2)) <| asr (decide (0 ≤ (a_a + q1.2) ∧ (a_a + q1.2) < ((q1.1.length : Nat) : Int))) <| cal (q1.1[(a_b + q1.2).toNat]?) fun y35 => cal (q1.1[(a_a + q1.2).toNat]?) fun y36 => asr (decide (0 ≤ (a_a + q1.2) ∧ (a_a + q1.2) < ((q1.1.length : Nat) : Int))) <| cal (q1.1[(a_a + q1.2).toNat]?) fun y38 => asr (decide (0 ≤ (a_b + q1.2) ∧ (a_b + q1.2) < ((q1.1.length : Nat) : Int))) <| cal ((q1.1.set ((a_a + q1.2).toNat) y35)[(a_b + q1.2).toNat]?) fun y40 => ck ((q1.2 + (1 : Int))) <| L2 (((q1.1.set ((a_a + q1.2).toNat) y35).set ((a_b + q1.2).toNat) y36), (q1.2 + (1 : Int)))) (some (q1.1))) ((zaS, (0 : Int)))

def zci (zaS : (List Int)) (a_a : Int) (a_m : Int) (a_b : Int) (zao : GTab) (zap : GTyp) : Option ((List Int)) :=
  ck ((a_m - a_a)) <| ck ((a_b - a_m)) <| lp (ι := (List Int) × Int × Int) (fun L4 q3 => br (!decide (q3.2.1 = q3.2.2)) (br (decide (q3.2.2 < q3.2.1)) (ck ((a_m - q3.2.1)) <| cal (za0 q3.1 (a_m - q3.2.1) a_m q3.2.2 zao zap) fun y19 => asr (decide (y19.length = q3.1.length)) <| ck ((q3.2.1 - q3.2.2)) <| L4 (y19, (q3.2.1 - q3.2.2), q3.2.2)) (ck ((a_m - q3.2.1)) <| ck ((a_m + q3.2.2)) <| ck (((a_m + q3.2.2) - q3.2.1)) <| cal (za0 q3.1 (a_m - q3.2.1) ((a_m + q3.2.2) - q3.2.1) q3.2.1 zao zap) fun y25 => asr (decide (y25.length = q3.1.length)) <| ck ((q3.2.2 - q3.2.1)) <| L4 (y25, q3.2.1, (q3.2.2 - q3.2.1)))) (ck ((a_m - q3.2.1)) <| cal (za0 q3.1 (a_m - q3.2.1) a_m q3.2.1 zao zap) fun y29 => asr (decide (y29.length = q3.1.length)) <| some (y29))) ((zaS, (a_m - a_a), (a_b - a_m)))

def zbW (za3 : (List Int) → Int → Int → Int → GTab → GTyp → Option ((List Int))) (zaS : (List Int)) (a_a : Int) (a_m : Int) (a_b : Int) (zao : GTab) (zap : GTyp) : Option ((List Int)) :=
  ck ((a_m - a_a)) <| br (decide ((a_m - a_a) = (1 : Int))) (lp (ι := (List Int) × Int × Int) (fun L3 q2 => br (decide (q2.2.1 < q2.2.2)) (ck ((q2.2.1 + q2.2.2)) <| ck ((((UInt64.ofNat ((q2.2.1 + q2.2.2) % 18446744073709551616).toNat) >>> (1 : UInt64)).toNat : Int)) <| cal (getI q2.1 (((UInt64.ofNat ((q2.2.1 + q2.2.2) % 18446744073709551616).toNat) >>> (1 : UInt64)).toNat : Int)) fun y102 => cal (getI q2.1 a_a) fun y103 => cal (zb9 y102 y103 zao zap) fun y104 => br (decide (y104 < (0 : Int))) (ck (((((UInt64.ofNat ((q2.2.1 + q2.2.2) % 18446744073709551616).toNat) >>> (1 : UInt64)).toNat : Int) + (1 : Int))) <| L3 (q2.1, ((((UInt64.ofNat ((q2.2.1 + q2.2.2) % 18446744073709551616).toNat) >>> (1 : UInt64)).toNat : Int) + (1 : Int)), q2.2.2)) (L3 (q2.1, q2.2.1, (((UInt64.ofNat ((q2.2.1 + q2.2.2) % 18446744073709551616).toNat) >>> (1 : UInt64)).toNat : Int)))) (lp (ι := (List Int) × Int) (fun L107 q106 => ck ((q2.2.1 - (1 : Int))) <| br (decide (q106.2 < (q2.2.1 - (1 : Int)))) (ck ((q106.2 + (1 : Int))) <| ck ((q106.2 + (1 : Int))) <| asr (decide (0 ≤ (q106.2 + (1 : Int)) ∧ (q106.2 + (1 : Int)) < ((q106.1.length : Nat) : Int))) <| asr (decide (0 ≤ q106.2 ∧ q106.2 < ((q106.1.length : Nat) : Int))) <| cal (q106.1[(q106.2 + (1 : Int)).toNat]?) fun y137 => cal (q106.1[q106.2.toNat]?) fun y138 => asr (decide (0 ≤ q106.2 ∧ q106.2 < ((q106.1.length : Nat) : Int))) <| cal (q106.1[q106.2.toNat]?) fun y140 => asr (decide (0 ≤ (q106.2 + (1 : Int)) ∧ (q106.2 + (1 : Int)) < ((q106.1.length : Nat) : Int))) <| cal ((q106.1.set q106.2.toNat y137)[(q106.2 + (1 : Int)).toNat]?) fun y142 => ck ((q106.2 + (1 : Int))) <| L107 (((q106.1.set q106.2.toNat y137).set ((q106.2 + (1 : Int)).toNat) y138), (q106.2 + (1 : Int)))) (some (q106.1))) ((q2.1, a_a)))) ((zaS, a_m, a_b))) (ck ((a_b - a_m)) <| br (decide ((a_b - a_m) = (1 : Int))) (lp (ι := (List Int) × Int × Int) (fun L148 q147 => br (decide (q147.2.1 < q147.2.2)) (ck ((q147.2.1 + q147.2.2)) <| ck ((((UInt64.ofNat ((q147.2.1 + q147.2.2) % 18446744073709551616).toNat) >>> (1 : UInt64)).toNat : Int)) <| cal (getI q147.1 a_m) fun y241 => cal (getI q147.1 (((UInt64.ofNat ((q147.2.1 + q147.2.2) % 18446744073709551616).toNat) >>> (1 : UInt64)).toNat : Int)) fun y242 => cal (zb9 y241 y242 zao zap) fun y243 => br (!(decide (y243 < (0 : Int)))) (ck (((((UInt64.ofNat ((q147.2.1 + q147.2.2) % 18446744073709551616).toNat) >>> (1 : UInt64)).toNat : Int) + (1 : Int))) <| L148 (q147.1, ((((UInt64.ofNat ((q147.2.1 + q147.2.2) % 18446744073709551616).toNat) >>> (1 : UInt64)).toNat : Int) + (1 : Int)), q147.2.2)) (L148 (q147.1, q147.2.1, (((UInt64.ofNat ((q147.2.1 + q147.2.2) % 18446744073709551616).toNat) >>> (1 : UInt64)).toNat : Int)))) (lp (ι := (List Int) × Int) (fun L246 q245 => br (decide (q147.2.1 < q245.2)) (ck ((q245.2 - (1 : Int))) <| ck ((q245.2 - (1 : Int))) <| asr (decide (0 ≤ (q245.2 - (1 : Int)) ∧ (q245.2 - (1 : Int)) < ((q245.1.length : Nat) : Int))) <| asr (decide (0 ≤ q245.2 ∧ q245.2 < ((q245.1.length : Nat) : Int))) <| cal (q245.1[(q245.2 - (1 : Int)).toNat]?) fun y273 => cal (q245.1[q245.2.toNat]?) fun y274 => asr (decide (0 ≤ q245.2 ∧ q245.2 < ((q245.1.length : Nat) : Int))) <| cal (q245.1[q245.2.toNat]?) fun y276 => asr (decide (0 ≤ (q245.2 - (1 : Int)) ∧ (q245.2 - (1 : Int)) < ((q245.1.length : Nat) : Int))) <| cal ((q245.1.set q245.2.toNat y273)[(q245.2 - (1 : Int)).toNat]?) fun y278 => ck ((q245.2 - (1 : Int))) <| L246 (((q245.1.set q245.2.toNat y273).set ((q245.2 - (1 : Int)).toNat) y274), (q245.2 - (1 : Int)))) (some (q245.1))) ((q147.1, a_m)))) ((zaS, a_a, a_m))) (ck ((a_a + a_b)) <| ck ((((UInt64.ofNat ((a_a + a_b) % 18446744073709551616).toNat) >>> (1 : UInt64)).toNat : Int)) <| ck (((((UInt64.ofNat ((a_a + a_b) % 18446744073709551616).toNat) >>> (1 : UInt64)).toNat : Int) + a_m)) <| jp (ι := Int × Int) (fun J286 => br (decide ((((UInt64.ofNat ((a_a + a_b) % 18446744073709551616).toNat) >>> (1 : UInt64)).toNat : Int) < a_m)) (ck ((((((UInt64.ofNat ((a_a + a_b) % 18446744073709551616).toNat) >>> (1 : UInt64)).toNat : Int) + a_m) - a_b)) <| J286 ((((((UInt64.ofNat ((a_a + a_b) % 18446744073709551616).toNat) >>> (1 : UInt64)).toNat : Int) + a_m) - a_b), (((UInt64.ofNat ((a_a + a_b) % 18446744073709551616).toNat) >>> (1 : UInt64)).toNat : Int))) (J286 (a_a, a_m))) (fun q285 => ck ((((((UInt64.ofNat ((a_a + a_b) % 18446744073709551616).toNat) >>> (1 : UInt64)).toNat : Int) + a_m) - (1 : Int))) <| lp (ι := (List Int) × Int × Int) (fun L290 q289 => br (decide (q289.2.1 < q289.2.2)) (ck ((q289.2.1 + q289.2.2)) <| ck ((((UInt64.ofNat ((q289.2.1 + q289.2.2) % 18446744073709551616).toNat) >>> (1 : UInt64)).toNat : Int)) <| ck (((((((UInt64.ofNat ((a_a + a_b) % 18446744073709551616).toNat) >>> (1 : UInt64)).toNat : Int) + a_m) - (1 : Int)) - (((UInt64.ofNat ((q289.2.1 + q289.2.2) % 18446744073709551616).toNat) >>> (1 : UInt64)).toNat : Int))) <| cal (getI q289.1 ((((((UInt64.ofNat ((a_a + a_b) % 18446744073709551616).toNat) >>> (1 : UInt64)).toNat : Int) + a_m) - (1 : Int)) - (((UInt64.ofNat ((q289.2.1 + q289.2.2) % 18446744073709551616).toNat) >>> (1 : UInt64)).toNat : Int))) fun y354 => cal (getI q289.1 (((UInt64.ofNat ((q289.2.1 + q289.2.2) % 18446744073709551616).toNat) >>> (1 : UInt64)).toNat : Int)) fun y355 => cal (zb9 y354 y355 zao zap) fun y356 => br (!(decide (y356 < (0 : Int)))) (ck (((((UInt64.ofNat ((q289.2.1 + q289.2.2) % 18446744073709551616).toNat) >>> (1 : UInt64)).toNat : Int) + (1 : Int))) <| L290 (q289.1, ((((UInt64.ofNat ((q289.2.1 + q289.2.2) % 18446744073709551616).toNat) >>> (1 : UInt64)).toNat : Int) + (1 : Int)), q289.2.2)) (L290 (q289.1, q289.2.1, (((UInt64.ofNat ((q289.2.1 + q289.2.2) % 18446744073709551616).toNat) >>> (1 : UInt64)).toNat : Int)))) (ck ((((((UInt64.ofNat ((a_a + a_b) % 18446744073709551616).toNat) >>> (1 : UInt64)).toNat : Int) + a_m) - q289.2.1)) <| jp (ι := Bool) (fun J360 => br (decide (q289.2.1 < a_m)) (J360 ((decide (a_m < (((((UInt64.ofNat ((a_a + a_b) % 18446744073709551616).toNat) >>> (1 : UInt64)).toNat : Int) + a_m) - q289.2.1))))) (J360 (false))) (fun q359 => jp (ι := (List Int)) (fun J363 => br q359 (cal (zci q289.1 q289.2.1 a_m (((((UInt64.ofNat ((a_a + a_b) % 18446744073709551616).toNat) >>> (1 : UInt64)).toNat : Int) + a_m) - q289.2.1) zao zap) fun y364 => asr (decide (y364.length = q289.1.length)) <| J363 (y364)) (J363 (q289.1))) (fun q362 => jp (ι := Bool) (fun J367 => br (decide (a_a < q289.2.1)) (J367 ((decide (q289.2.1 < (((UInt64.ofNat ((a_a + a_b) % 18446744073709551616).toNat) >>> (1 : UInt64)).toNat : Int))))) (J367 (false))) (fun q366 => jp (ι := (List Int)) (fun J370 => br q366 (cal (za3 q362 a_a q289.2.1 (((UInt64.ofNat ((a_a + a_b) % 18446744073709551616).toNat) >>> (1 : UInt64)).toNat : Int) zao zap) fun y371 => asr (decide (y371.length = q362.length)) <| J370 (y371)) (J370 (q362))) (fun q369 => jp (ι := Bool) (fun J374 => br (decide ((((UInt64.ofNat ((a_a + a_b) % 18446744073709551616).toNat) >>> (1 : UInt64)).toNat : Int) < (((((UInt64.ofNat ((a_a + a_b) % 18446744073709551616).toNat) >>> (1 : UInt64)).toNat : Int) + a_m) - q289.2.1))) (J374 ((decide ((((((UInt64.ofNat ((a_a + a_b) % 18446744073709551616).toNat) >>> (1 : UInt64)).toNat : Int) + a_m) - q289.2.1) < a_b)))) (J374 (false))) (fun q373 => br q373 (cal (za3 q369 (((UInt64.ofNat ((a_a + a_b) % 18446744073709551616).toNat) >>> (1 : UInt64)).toNat : Int) (((((UInt64.ofNat ((a_a + a_b) % 18446744073709551616).toNat) >>> (1 : UInt64)).toNat : Int) + a_m) - q289.2.1) a_b zao zap) fun y376 => asr (decide (y376.length = q369.length)) <| some (y376)) (some (q369))))))))) ((zaS, q285.1, q285.2)))))
def zcs : Nat → ((List Int) → Int → Int → Int → GTab → GTyp → Option ((List Int)))
  | 0 => (fun _ _ _ _ _ _ => none)
  | n + 1 => let p := zcs n; (zbW p)
def zby (n : Nat) : (List Int) → Int → Int → Int → GTab → GTyp → Option ((List Int)) := (zcs n)

def zcj (zaS : (List Int)) (a_n_ : Int) (zao : GTab) (zap : GTyp) : Option ((List Int)) :=
  lp (ι := (List Int) × Int × Int) (fun L2 q1 => br (decide (q1.2.2 ≤ a_n_)) (cal (za6 q1.1 q1.2.1 q1.2.2 zao zap) fun y123 => asr (decide (y123.length = q1.1.length)) <| ck ((q1.2.2 + (20 : Int))) <| L2 (y123, q1.2.2, (q1.2.2 + (20 : Int)))) (cal (za6 q1.1 q1.2.1 a_n_ zao zap) fun y126 => asr (decide (y126.length = q1.1.length)) <| lp (ι := (List Int) × Int) (fun L129 q128 => br (decide (q128.2 < a_n_)) (ck (((2 : Int) * q128.2)) <| lp (ι := (List Int) × Int × Int) (fun L158 q157 => br (decide (q157.2.2 ≤ a_n_)) (ck ((q157.2.1 + q128.2)) <| cal (zby fuel q157.1 q157.2.1 (q157.2.1 + q128.2) q157.2.2 zao zap) fun y171 => asr (decide (y171.length = q157.1.length)) <| ck (((2 : Int) * q128.2)) <| ck ((q157.2.2 + ((2 : Int) * q128.2))) <| L158 (y171, q157.2.2, (q157.2.2 + ((2 : Int) * q128.2)))) (ck ((q157.2.1 + q128.2)) <| jp (ι := (List Int)) (fun J177 => br (decide ((q157.2.1 + q128.2) < a_n_)) (cal (zby fuel q157.1 q157.2.1 (q157.2.1 + q128.2) a_n_ zao zap) fun y178 => asr (decide (y178.length = q157.1.length)) <| J177 (y178)) (J177 (q157.1))) (fun q176 => ck ((q128.2 * (2 : Int))) <| L129 (q176, (q128.2 * (2 : Int)))))) ((q128.1, (0 : Int), ((2 : Int) * q128.2)))) (some (q128.1))) ((y126, (20 : Int))))) ((zaS, (0 : Int), (20 : Int)))

def zbJ (a_x : (List Int)) (zao : GTab) (zap : GTyp) : Option ((List Int)) :=
  cal (zcj a_x ((a_x.length : Nat) : Int) zao zap) fun y1 => asr (decide (y1.length = a_x.length)) <| some (y1)

def zfC (zfv : GTab) (zfl : GTyp) (a_l : (List Int)) (zez : (List Int)) : Option ((List Int)) :=
  cal (zbJ a_l zfv zfl) fun y2 => asr (decide (y2.length = a_l.length)) <| asr (Nat.ble (y2.length + zez.length) 68719476736) <| some ((y2 ++ zez))

def zeq (a_t : GTab) (a_i : Int) : Option ((List Int)) :=
  cal (zdj a_t a_i) fun y1 => br (decide (y1.kind = (7 : Int))) (cal (zcf (0 : Int) (y1.fields.length : Int)) fun y3 => some (y3)) (jp (ι := Bool) (fun J6 => br (decide (y1.kind = (8 : Int))) (J6 ((decide (y1.kind = (8 : Int))))) (J6 ((decide (y1.kind = (9 : Int)))))) (fun q5 => br q5 (cal (zcf (0 : Int) (min (max y1.root (0 : Int)) (y1.fields.length : Int))) fun y7 => cal (zcf (min (max y1.root (0 : Int)) (y1.fields.length : Int)) (y1.fields.length : Int)) fun y9 => cal (zfC a_t y1 y7 y9) fun y11 => some (y11)) (some (([] : (List Int))))))

def zcM  : Option (Bool) :=
  cal (zaX (Str.mk [77, 32, 68, 69, 70, 73, 78, 73, 84, 73, 79, 78, 83, 32, 58, 58, 61, 32, 66, 69, 71, 73, 78, 32, 65, 32, 58, 58, 61, 32, 83, 69, 84, 32, 123, 32, 97, 32, 91, 49, 93, 32, 78, 85, 76, 76, 44, 32, 98, 32, 91, 48, 93, 32, 78, 85, 76, 76, 32, 125, 32, 69, 78, 68])) fun y1 => cal (zeq y1.1 (0 : Int)) fun y3 => jp (ι := Bool) (fun J5 => br y1.2 (J5 ((decide ((y3.length : Int) = (2 : Int))))) (J5 (false))) (fun q4 => jp (ι := Bool) (fun J8 => br q4 (cal (getI y3 (0 : Int)) fun y10 => J8 ((decide (y10 = (1 : Int))))) (J8 (false))) (fun q7 => jp (ι := Bool) (fun J12 => br q7 (cal (getI y3 (1 : Int)) fun y14 => J12 ((decide (y14 = (0 : Int))))) (J12 (false))) (fun q11 => some (q11))))
end Go.Proofs.Q


namespace Go.Proofs.Q
open Go.Sy
set_option maxRecDepth 4000
def zeh (a_t : GTab) (a_i : Int) : Option ((List (List Int))) :=
  cal (zdj a_t a_i) fun y3 => jp (ι := Bool) (fun J6 => br (!decide (y3.kind = (7 : Int))) (J6 ((!decide (y3.kind = (8 : Int))))) (J6 (false))) (fun q5 => jp (ι := Bool) (fun J9 => br q5 (J9 ((!decide (y3.kind = (9 : Int))))) (J9 (false))) (fun q8 => br q8 (some (([] : (List (List Int))))) (cal (zcf (max y3.root (0 : Int)) (y3.fields.length : Int)) fun y15 => lp (ι := (List (List Int)) × Int) (fun L18 q17 => br (decide (q17.2 < ((y15.length : Nat) : Int))) (jp (ι := (List (List Int))) (fun J50 => asr (decide (0 ≤ q17.2 ∧ q17.2 < ((y15.length : Nat) : Int))) <| cal (y15[q17.2.toNat]?) fun y52 => ck ((((q17.1.length : Nat) : Int) - (1 : Int))) <| cal (getI y3.fields y52) fun y54 => jp (ι := Bool) (fun J56 => br (!decide (y3.kind = (9 : Int))) (J56 ((decide ((0 : Int) < y54.group)))) (J56 (false))) (fun q55 => jp (ι := Bool) (fun J59 => br q55 (J59 ((decide ((0 : Int) ≤ (((q17.1.length : Nat) : Int) - (1 : Int)))))) (J59 (false))) (fun q58 => jp (ι := Bool) (fun J62 => br q58 (ck ((y52 - (1 : Int))) <| cal (getI y3.fields (y52 - (1 : Int))) fun y65 => J62 ((decide (y65.group = y54.group)))) (J62 (false))) (fun q61 => br q61 (asr (decide (0 ≤ (((q17.1.length : Nat) : Int) - (1 : Int)) ∧ (((q17.1.length : Nat) : Int) - (1 : Int)) < ((q17.1.length : Nat) : Int))) <| asr (decide ((((q17.1.length : Nat) : Int) - (1 : Int)).toNat + 1 = q17.1.length)) <| cal (q17.1[(((q17.1.length : Nat) : Int) - (1 : Int)).toNat]?) fun y68 => asr (Nat.ble (y68.length + ([y52] : (List Int)).length) 68719476736) <| asr (decide (0 ≤ (((q17.1.length : Nat) : Int) - (1 : Int)) ∧ (((q17.1.length : Nat) : Int) - (1 : Int)) < ((q17.1.length : Nat) : Int))) <| asr (decide ((((q17.1.length : Nat) : Int) - (1 : Int)).toNat + 1 = q17.1.length)) <| cal (q17.1[(((q17.1.length : Nat) : Int) - (1 : Int)).toNat]?) fun y74 => J50 ((q17.1.set ((((q17.1.length : Nat) : Int) - (1 : Int)).toNat) (y68 ++ ([y52] : (List Int)))))) (asr (Nat.ble (q17.1.length + ([([y52] : (List Int))] : (List (List Int))).length) 68719476736) <| J50 ((q17.1 ++ [([y52] : (List Int))]))))))) (fun q49 => ck ((q17.2 + (1 : Int))) <| L18 (q49, (q17.2 + (1 : Int))))) (some (q17.1))) ((([] : (List (List Int))), (0 : Int))))))

end Go.Proofs.Q


namespace Go.Proofs.Q
open Go.Sy
set_option linter.unusedVariables false
theorem T.or' {β : Type} {R : β → Prop} {c d : Bool} {K : Bool → Option β} (hK : T R (K (c || d))) : T R (Sy.jp (fun J => Sy.br c (J true) (J d)) K) := by cases c <;> exact hK
theorem T.and' {β : Type} {R : β → Prop} {c d : Bool} {K : Bool → Option β} (hK : T R (K (c && d))) : T R (Sy.jp (fun J => Sy.br c (J d) (J false)) K) := by cases c <;> exact hK
end Go.Proofs.Q


namespace Go.Proofs.Q
open Go.Sy
set_option linter.unusedVariables false

def rng (a b : Int) : List Int := (List.range (b - a).toNat).map fun (i : Nat) => a + (i : Int)
theorem zd2 {a b : Int} (h : b ≤ a) : rng a b = [] := by
  unfold rng
  have : (b - a).toNat = 0 := by omega
  rw [this]; rfl
theorem zed {a b : Int} (h : a ≤ b) : rng a (b + 1) = rng a b ++ [b] := by
  unfold rng
  have : (b + 1 - a).toNat = (b - a).toNat + 1 := by omega
  rw [this, List.range_succ, List.map_append]
  congr 1
  show [a + (((b - a).toNat : Nat) : Int)] = [b]
  congr 1
  omega
theorem zhu {a b : Int} : (rng a b).length = (b - a).toNat := by unfold rng; rw [List.length_map, List.length_range]
theorem zpx {a b : Int} {k : Nat} (h : a + k < b) : (rng a b)[k]? = some (a + k) := by
  unfold rng
  rw [List.getElem?_map, List.getElem?_range (by omega)]
  rfl
def grp (fs : List GFld) (k : Int) : Int := ((fs[k.toNat]?).map fun f => f.group).getD 0
def slot1 (c : Bool) (fs : List GFld) (out : List (List Int)) (k : Int) : List (List Int) :=
  if (c && decide (0 < grp fs k) && decide (0 < out.length)) = true ∧ grp fs (k - 1) = grp fs k then out.set (out.length - 1) ((out[out.length - 1]?).getD [] ++ [k]) else out ++ [[k]]
def slots (x : GTyp) : List (List Int) := (rng x.root x.fields.length).foldl (slot1 (!decide (x.kind = 9)) x.fields) []
def slotsT (t : GTab) (i : Int) : List (List Int) := match (if 0 ≤ i then t.types[i.toNat]? else none) with
  | none => []
  | some x => if x.kind = 7 ∨ x.kind = 8 ∨ x.kind = 9 then slots x else []
theorem zjJ (c : Bool) (fs : List GFld) (out : List (List Int)) (k : Int) : (slot1 c fs out k).length ≤ out.length + 1 ∧ 0 < (slot1 c fs out k).length := by
  unfold slot1
  split
  · rename_i h
    have h1 := h.1
    rw [Bool.and_eq_true] at h1
    have h2 := zOT h1.2
    rw [List.length_set]
    omega
  · rw [List.length_append, List.length_singleton]
    omega
theorem zmf {c : Bool} {fs : List GFld} : ∀ (l : List Int) (out : List (List Int)) (n : Nat), out.length ≤ n → (∀ s ∈ out, s.length ≤ n) → (l.foldl (slot1 c fs) out).length ≤ n + l.length ∧ ∀ s ∈ l.foldl (slot1 c fs) out, s.length ≤ n + l.length := by
  intro l
  induction l with
  | nil => intro out n h1 h2; exact ⟨h1, h2⟩
  | cons k r ih =>
    intro out n h1 h2
    have := ih (slot1 c fs out k) (n + 1) (by have := (zjJ c fs out k).1; omega) (fun s hs => by
      unfold slot1 at hs
      split at hs
      · rcases List.mem_or_eq_of_mem_set hs with h | h
        · have := h2 s h; omega
        · rw [h, List.length_append, List.length_singleton]
          cases hg : out[out.length - 1]? with
          | none => simp
          | some y =>
            have := h2 y (List.mem_of_getElem? hg)
            show y.length + 1 ≤ n + 1
            omega
      · rcases List.mem_append.1 hs with h | h
        · have := h2 s h; omega
        · rw [List.mem_singleton.1 h]
          show 1 ≤ n + 1
          omega)
    rw [List.foldl_cons, List.length_cons]
    have e : n + 1 + r.length = n + (r.length + 1) := by omega
    rw [e] at this
    exact this
theorem kindNot {x : Int} {β : Type} {R : β → Prop} {K : Bool → Option β} (h : T R (K (!decide (x = 7 ∨ x = 8 ∨ x = 9)))) :
    T R (Sy.jp (fun J5 => Sy.br (!decide (x = 7)) (J5 (!decide (x = 8))) (J5 false)) fun q => Sy.jp (fun J8 => Sy.br q (J8 (!decide (x = 9))) (J8 false)) K) := by
  refine T.and' (T.and' ?_)
  have : ((!decide (x = 7)) && (!decide (x = 8)) && !decide (x = 9)) = !decide (x = 7 ∨ x = 8 ∨ x = 9) := by
    rw [Bool.eq_iff_iff]
    simp only [Bool.and_eq_true, Bool.not_eq_true', decide_eq_false_iff_not, not_or]
    exact and_assoc
  rw [this]
  exact h
theorem zoe {h : Nat} {l : List GTyp} {x : GTyp} {i j : Nat} (hk : Kids (SubT h l) (kidsT x) i j) (hj : j ≤ l.length) (hl : l.length ≤ 1000) : x.fields.length ≤ 1000 := by
  have := zhn hk
  unfold kidsT at this
  rw [List.length_append, List.length_map] at this
  omega
theorem zng (a b : Int) (h0 : 0 ≤ a) (hb : b ≤ 1000000) (hb0 : 0 ≤ b) (ha : a ≤ 1000000) : zcf a b = some (rng a b) := by
  refine T.eqs ?_
  unfold zcf
  refine T.lp (ι := List Int × Int) (fun q => a ≤ q.2 ∧ (q.2 ≤ b ∨ q.2 = a) ∧ q.1 = rng a q.2) (fun q => (b - q.2).toNat) ⟨Int.le_refl _, .inr rfl, (zd2 (Int.le_refl _)).symm⟩ (by dsimp only; omega) fun L q ⟨q1, q2, q3⟩ hL => ?_
  obtain ⟨l, k⟩ := q
  dsimp only at q1 q2 q3 hL ⊢
  refine T.br (fun h => ?_) fun h => T.some ?_
  · have h := zOT h
    have hl : l.length = (k - a).toNat := by rw [q3, zhu]
    exact T.abl (by rw [List.length_singleton]; omega) (T.ck (by omega) (hL _ ⟨by dsimp only; omega, by dsimp only; omega, by dsimp only; rw [zed q1, q3]⟩ (by dsimp only; omega)))
  · have h := zOF h
    rw [q3]
    rcases q2 with h2 | h2
    · have : k = b := by omega
      rw [this]
    · subst h2
      rw [zd2 (Int.le_refl _), zd2 (by omega)]
theorem znf {t : GTab} (ht : TabOk t) (i : Int) : zeh t i = some (slotsT t i) := by
  refine T.eqs ?_
  unfold zeh
  have htl := ht.types
  by_cases hi : 0 ≤ i ∧ i < t.types.length
  · obtain ⟨x, hx⟩ : ∃ x, t.types[i.toNat]? = some x := ⟨_, List.getElem?_eq_getElem (by omega)⟩
    have hs : slotsT t i = if x.kind = 7 ∨ x.kind = 8 ∨ x.kind = 9 then slots x else [] := by unfold slotsT; rw [if_pos hi.1, hx]
    rw [hs]
    refine T.cal (Q := fun r => r = x) (by
      unfold zdj
      refine T.or' (T.br (fun h => ?_) fun _ => T.get hi.1 hi.2 fun y hy => T.some (by rw [hx] at hy; cases hy; rfl))
      rw [zDF (by omega), zDF (by omega)] at h
      cases h) fun y _ hy => ?_
    subst hy
    refine kindNot (T.br (fun h => T.some ?_) fun h => ?_)
    · rw [if_neg (zOF ((Bool.not_eq_true' _).mp h))]
    have hk : y.kind = 7 ∨ y.kind = 8 ∨ y.kind = 9 := zOT ((Bool.not_eq_false' _).mp h)
    rw [if_pos hk]
    obtain ⟨j, hj⟩ := SubT.sub ht.kids i.toNat (by omega) (by omega)
    have hjl := hj.inb
    obtain ⟨x'', hx'', hok, hkid⟩ := hj
    rw [hx] at hx''; cases hx''
    have hfl := zoe hkid hjl (by omega)
    have hr0 := hok.root0
    have hr1 := hok.rootF hk
    have hmx : max y.root 0 = y.root := by omega
    rw [hmx]
    refine T.eq (zng _ _ hr0 (by omega) (by omega) (by omega)) ?_
    have hpl : (rng y.root y.fields.length).length = ((y.fields.length : Int) - y.root).toNat := zhu
    refine T.lp (ι := List (List Int) × Int) (fun q => 0 ≤ q.2 ∧ q.2 ≤ (y.fields.length : Int) - y.root ∧ q.1 = (rng y.root (y.root + q.2)).foldl (slot1 (!decide (y.kind = 9)) y.fields) [] ∧ (0 < q.1.length ↔ 0 < q.2)) (fun q => (((y.fields.length : Int) - y.root) - q.2).toNat) ⟨Int.le_refl _, by dsimp only; omega, by dsimp only; rw [zd2 (by omega)]; rfl, by dsimp only [List.length_nil]; omega⟩ (by dsimp only; omega) fun L q ⟨q1, q2, q3, q4⟩ hL => ?_
    obtain ⟨out, p⟩ := q
    dsimp only at q1 q2 q3 q4 hL ⊢
    refine T.br (fun hb => ?_) fun hb => T.some ?_
    · have hb := zOT hb
      rw [hpl] at hb
      have hfold := zmf (c := !decide (y.kind = 9)) (fs := y.fields) (rng y.root (y.root + p)) [] 0 (Nat.le_refl _) (fun s hs => by cases hs)
      rw [← q3, zhu] at hfold
      have hol : out.length ≤ 1000 := by omega
      have hget : (rng y.root y.fields.length)[p.toNat]? = some (y.root + p) := by
        rw [zpx (by omega)]
        congr 2
        omega
      refine T.jp (ι := List (List Int)) (fun o => o = slot1 (!decide (y.kind = 9)) y.fields out (y.root + p)) (fun J kk => T.asd ⟨by omega, by rw [hpl]; omega⟩ (T.eq hget (T.ck (by omega) (T.get (by omega) (by omega) fun f hf => T.and' (T.and' (T.jp (fun b => b = true ↔ (!decide (y.kind = 9) && decide (0 < f.group) && decide (0 ≤ ((out.length : Nat) : Int) - 1)) = true ∧ grp y.fields (y.root + p - 1) = f.group) (fun J2 k2 => T.br (fun h1 => ?_) fun h1 => k2 _ ⟨fun h => (by cases h), fun h => by rw [h1] at h; cases h.1⟩) fun b hb2 => ?_)))))) fun o ho => T.ck (by omega) (hL _ ⟨by dsimp only; omega, by dsimp only; omega, by
          have e : y.root + (p + 1) = y.root + p + 1 := by omega
          dsimp only; rw [e, zed (by omega), List.foldl_append, ← q3, ho]; rfl, by dsimp only; rw [ho]; exact ⟨fun _ => by omega, fun _ => (zjJ _ _ _ _).2⟩⟩ (by dsimp only; omega))
      · have h2 := h1
        rw [Bool.and_eq_true] at h2
        have h3 := zOT h2.2
        have h4 : 0 < p := q4.1 (by omega)
        refine T.ck (by omega) (T.get (by omega) (by omega) fun g hg => k2 _ ?_)
        rw [decide_eq_true_iff, h1]
        have : grp y.fields (y.root + p - 1) = g.group := by unfold grp; rw [hg]; rfl
        rw [this]
        exact ⟨fun h => ⟨rfl, h⟩, fun h => h.2⟩
      · have hgf : grp y.fields (y.root + p) = f.group := by unfold grp; rw [hf]; rfl
        have hiff : decide (0 < out.length) = decide (0 ≤ ((out.length : Nat) : Int) - 1) := by rw [decide_eq_decide]; omega
        refine T.br (fun hbt => ?_) fun hbf => ?_
        · have hc := hb2.1 hbt
          have h2 := hc.1
          rw [Bool.and_eq_true] at h2
          have h3 := zOT h2.2
          obtain ⟨z, hz⟩ : ∃ z, out[out.length - 1]? = some z := ⟨_, List.getElem?_eq_getElem (by omega)⟩
          have ei : (((out.length : Nat) : Int) - 1).toNat = out.length - 1 := by omega
          have hzl := hfold.2 z (List.mem_of_getElem? hz)
          have hs1 : slot1 (!decide (y.kind = 9)) y.fields out (y.root + p) = out.set (out.length - 1) (z ++ [y.root + p]) := by
            unfold slot1
            rw [hgf, hiff, if_pos hc, hz]; rfl
          rw [hs1] at kk
          have hz' : out[(((out.length : Nat) : Int) - 1).toNat]? = some z := by rw [ei]; exact hz
          refine T.asd ⟨by omega, by omega⟩ (T.asd (by omega) (T.eq hz' (T.abl (by rw [List.length_singleton]; omega) (T.asd ⟨by omega, by omega⟩ (T.asd (by omega) (T.eq hz' (kk _ ?_)))))))
          rw [ei]
        · have hs1 : slot1 (!decide (y.kind = 9)) y.fields out (y.root + p) = out ++ [[y.root + p]] := by
            unfold slot1
            rw [hgf, hiff, if_neg (fun h => by rw [hb2.2 h] at hbf; cases hbf)]
          exact T.abl (by rw [List.length_singleton]; omega) (kk _ hs1.symm)
    · have hb := zOF hb
      rw [hpl] at hb
      have : y.root + p = y.fields.length := by omega
      rw [q3, this]; rfl
  · refine T.cal (Q := fun r => r.kind = 0) (by
      unfold zdj
      refine T.or' (T.br (fun h => T.some rfl) fun h => ?_)
      rw [Bool.or_eq_false_iff] at h
      have h1 := zOF h.1
      have h2 := zOF h.2
      omega) fun y _ hy => ?_
    refine kindNot (T.br (fun h => T.some ?_) fun h => ?_)
    · unfold slotsT
      split
      · rfl
      · rename_i x hx
        split at hx
        · have := (List.getElem?_eq_some_iff.1 hx).1
          omega
        · cases hx
    · have := zOT ((Bool.not_eq_false' _).mp h)
      omega
end Go.Proofs.Q


namespace Go.Proofs.Q
open Go.Sy
set_option linter.unusedVariables false

theorem tx {β : Type} {o : Option β} {x : β} (h : T (fun r => r = x) o) : o = some x := by
  obtain ⟨r, h1, h2⟩ := h; rw [h1, h2]
def hd : List UInt8 → UInt8
  | [] => 0
  | c :: _ => c
theorem zpf (b : List UInt8) (n : Nat) : hd (b.drop n) = (b[n]?).getD 0 := by
  rcases Nat.lt_or_ge n b.length with h | h
  · rw [List.drop_eq_getElem_cons h, List.getElem?_eq_getElem h]; rfl
  · rw [List.drop_eq_nil_of_le h, List.getElem?_eq_none h]; rfl
theorem dropc {b : List UInt8} {n : Nat} {y : UInt8} (h : b[n]? = some y) : b.drop n = y :: b.drop (n + 1) := by
  obtain ⟨h1, h2⟩ := List.getElem?_eq_some_iff.1 h
  rw [List.drop_eq_getElem_cons h1, h2]
theorem zhY (s : Str) (i : Int) (h : 0 ≤ i) : zdw s i = some (hd (s.b.drop i.toNat)) := by
  obtain ⟨r, h1, h2⟩ := zfI s i
  rw [h1, h2, if_pos h, zpf]

/-! ### White -/
inductive Wst where
  | out
  | start
  | ins
  | fin
def isWh (c : UInt8) : Bool := decide (c = 32) || decide (c = 9) || decide (c = 10) || decide (c = 13)
def wh : Wst → List UInt8 → List UInt8
  | _, [] => []
  | .out, c :: r => bif isWh c then wh .out r else bif decide (c = 45) && decide (hd r = 45) then wh .start r else c :: r
  | .start, _ :: r => wh .ins r
  | .ins, c :: r => bif decide (c = 10) then wh .out r else bif decide (c = 45) && decide (hd r = 45) then wh .fin r else wh .ins r
  | .fin, _ :: r => wh .out r
theorem zpO {b : List UInt8} {n : Nat} (h : hd (b.drop n) = 45) : n < b.length := by
  rcases Nat.lt_or_ge n b.length with h2 | h2
  · exact h2
  · rw [List.drop_eq_nil_of_le h2] at h; cases h
theorem skip1 {b : List UInt8} {n : Nat} (h : n < b.length) : ∃ c, b.drop n = c :: b.drop (n + 1) := ⟨_, List.drop_eq_getElem_cons h⟩
theorem znM (s : Str) (i : Int) (h0 : 0 ≤ i) (h1 : i ≤ s.b.length) (hl : s.b.length ≤ 1000000) : zdY s i = some ((s.b.length : Int) - ((wh .out (s.b.drop i.toNat)).length : Int)) := by
  refine tx ?_
  unfold zdY
  refine T.lp (fun k => i ≤ k ∧ k ≤ s.b.length ∧ wh .out (s.b.drop k.toNat) = wh .out (s.b.drop i.toNat)) (fun k => (s.b.length - k).toNat) ⟨Int.le_refl _, h1, rfl⟩ (by omega) fun L k ⟨k1, k2, k3⟩ hL => ?_
  rw [← k3] at hL ⊢
  refine T.br (fun hb => ?_) (fun hb => T.some ?_)
  rotate_left
  · have hb := zOF hb
    rw [List.drop_eq_nil_of_le (by omega)]
    simp only [wh, List.length_nil]; omega
  have hb := zOT hb
  refine T.get (by omega) hb fun y hy => ?_
  have e := dropc hy
  have e1 : (k + 1).toNat = k.toNat + 1 := by omega
  refine T.jp (fun q => q = (decide (y = 32) || decide (y = 9))) (fun J h => T.br (fun h2 => h _ (by rw [h2]; rfl)) fun h2 => T.get (by omega) hb fun y' hy' => h _ (by rw [hy] at hy'; cases hy'; rw [h2]; rfl)) fun q hq => ?_
  refine T.jp (fun q' => q' = (q || decide (y = 10))) (fun J h => T.br (fun h2 => h _ (by rw [h2]; rfl)) fun h2 => T.get (by omega) hb fun y' hy' => h _ (by rw [hy] at hy'; cases hy'; rw [h2]; rfl)) fun q' hq' => ?_
  refine T.jp (fun q2 => q2 = (q' || decide (y = 13))) (fun J h => T.br (fun h2 => h _ (by rw [h2]; rfl)) fun h2 => T.get (by omega) hb fun y' hy' => h _ (by rw [hy] at hy'; cases hy'; rw [h2]; rfl)) fun q2 hq2 => ?_
  have hw : q2 = isWh y := by rw [hq2, hq', hq]; rfl
  refine T.br (fun h2 => T.ck (by omega) ?_) fun h2 => ?_
  · refine hL _ ⟨by omega, by omega, ?_⟩ (by omega)
    rw [e1, e]; simp only [wh, ← hw, h2, cond_true]
  refine T.get (by omega) hb fun y' hy' => ?_
  rw [hy] at hy'; cases hy'
  refine T.jp (fun q => q = (decide (y = 45) && decide (hd (s.b.drop (k.toNat + 1)) = 45))) (fun J h => T.br (fun h3 => T.ck (by omega) (T.eq (zhY s _ (by omega)) (h _ (by rw [h3, e1]; rfl)))) fun h3 => h _ (by rw [h3]; rfl)) fun q3 hq3 => ?_
  refine T.br (fun h3 => T.ck (by omega) ?_) (fun h3 => T.some ?_)
  rotate_left
  · rw [e]; simp only [wh, ← hw, h2, cond_false, ← hq3, h3, List.length_cons, List.length_drop]; omega
  have h45 : hd (s.b.drop (k.toNat + 1)) = 45 := by rw [hq3] at h3; simpa using (Bool.and_eq_true_iff.1 h3).2
  have hlt := zpO h45
  obtain ⟨c, ec⟩ := skip1 hlt
  have e2 : (k + 2).toNat = k.toNat + 1 + 1 := by omega
  have hins : wh .out (s.b.drop k.toNat) = wh .ins (s.b.drop (k + 2).toNat) := by
    rw [e, e2]; simp only [wh, ← hw, h2, cond_false, ← hq3, h3, cond_true]; rw [ec]; simp only [wh]
  refine T.lp (fun j => k + 2 ≤ j ∧ j ≤ s.b.length ∧ wh .out (s.b.drop k.toNat) = wh .ins (s.b.drop j.toNat)) (fun j => (s.b.length - j).toNat) ⟨Int.le_refl _, by omega, hins⟩ (by omega) fun L2 j ⟨j1, j2, j3⟩ hL2 => ?_
  refine T.jp (fun q => (q = true → j < s.b.length ∧ ∀ y, s.b[j.toNat]? = some y → y ≠ 10) ∧ (q = false → wh .out (s.b.drop j.toNat) = wh .ins (s.b.drop j.toNat))) (fun J h => T.br (fun h4 => ?_) fun h4 => h _ ⟨(fun h => by cases h), fun _ => ?_⟩) fun q hq => ?_
  · have h4 := zOT h4
    refine T.get (by omega) h4 fun y2 hy2 => h _ ⟨fun h5 => ⟨h4, fun y3 hy3 => ?_⟩, fun h5 => ?_⟩
    · rw [hy2] at hy3; cases hy3; simpa using h5
    · have h6 : y2 = 10 := by simpa using h5
      subst h6
      rw [dropc hy2]
      simp [wh, isWh]
  · have h4 := zOF h4
    rw [List.drop_eq_nil_of_le (by omega)]; simp only [wh]
  refine T.br (fun h4 => ?_) (fun h4 => hL _ ⟨by omega, j2, by rw [hq.2 h4, j3]⟩ (by omega))
  obtain ⟨hj, hne⟩ := hq.1 h4
  refine T.get (by omega) hj fun y2 hy2 => ?_
  have hy10 := hne y2 hy2
  have f := dropc hy2
  have f1 : (j + 1).toNat = j.toNat + 1 := by omega
  refine T.jp (fun q => q = (decide (y2 = 45) && decide (hd (s.b.drop (j.toNat + 1)) = 45))) (fun J h => T.br (fun h3 => T.ck (by omega) (T.eq (zhY s _ (by omega)) (h _ (by rw [h3, f1]; rfl)))) fun h3 => h _ (by rw [h3]; rfl)) fun q4 hq4 => ?_
  refine T.br (fun h5 => T.ck (by omega) ?_) (fun h5 => T.ck (by omega) (hL2 _ ⟨by omega, by omega, ?_⟩ (by omega)))
  · have h46 : hd (s.b.drop (j.toNat + 1)) = 45 := by rw [hq4] at h5; simpa using (Bool.and_eq_true_iff.1 h5).2
    have hlt2 := zpO h46
    obtain ⟨c2, ec2⟩ := skip1 hlt2
    have f2 : (j + 2).toNat = j.toNat + 1 + 1 := by omega
    refine hL _ ⟨by omega, by omega, ?_⟩ (by omega)
    rw [j3, f, f2]; simp only [wh, zDF hy10, cond_false, ← hq4, h5, cond_true]; rw [ec2]; simp only [wh]
  · rw [j3, f, f1]; simp only [wh, zDF hy10, cond_false, ← hq4, h5]

/-! ### Names -/
def inName (c : UInt8) (r : List UInt8) : Bool := zaA c || isDigit c || (decide (c = 45) && !decide (hd r = 45))
def nm : List UInt8 → Nat
  | [] => 0
  | c :: r => bif inName c r then nm r + 1 else 0
theorem zmw (c : UInt8) (r : List UInt8) : nm (c :: r) = bif inName c r then nm r + 1 else 0 := rfl
theorem zlm : ∀ b : List UInt8, nm b ≤ b.length
  | [] => Nat.le_refl _
  | c :: r => by
    have := zlm r
    unfold nm
    cases inName c r <;> simp <;> omega
def nmBad (b : List UInt8) : Bool := decide ((b.take (nm b)).getLast? = some 45) || decide (60 < nm b)
theorem zm6 {b : List UInt8} {n : Nat} {y : UInt8} (hn : 0 < n) (hy : b[n - 1]? = some y) : (b.take n).getLast? = some y := by
  have hlt := (List.getElem?_eq_some_iff.1 hy).1
  rw [List.getLast?_eq_getElem?, List.length_take, List.getElem?_take, Nat.min_eq_left (by omega), if_pos (by omega), hy]
theorem zpF (s : Str) (i : Int) (h0 : 0 ≤ i) (h1 : i < s.b.length) (hl : s.b.length ≤ 1000000) (hc : zaA (hd (s.b.drop i.toNat)) = true) :
    zeO s i = some (bif nmBad (s.b.drop i.toNat) then -1 else i + nm (s.b.drop i.toNat)) := by
  refine tx ?_
  unfold zeO
  have hi0 : 0 < nm (s.b.drop i.toNat) := by
    obtain ⟨c, ec⟩ := skip1 (b := s.b) (n := i.toNat) (by omega)
    rw [ec] at hc ⊢
    unfold nm inName
    simp only [hd] at hc
    rw [hc]; simp
  refine T.lp (fun k => i ≤ k ∧ k ≤ s.b.length ∧ (nm (s.b.drop i.toNat) : Int) = k - i + nm (s.b.drop k.toNat)) (fun k => (s.b.length - k).toNat) ⟨Int.le_refl _, by omega, by omega⟩ (by omega) fun L k ⟨k1, k2, k3⟩ hL => ?_
  refine T.jp (fun q => (q = true → k < s.b.length ∧ (nm (s.b.drop i.toNat) : Int) = k + 1 - i + nm (s.b.drop (k + 1).toNat)) ∧ (q = false → (nm (s.b.drop i.toNat) : Int) = k - i)) (fun J h => ?_) fun q hq => ?_
  · refine T.br (fun hb => ?_) (fun hb => h _ ⟨(fun h => by cases h), fun _ => by
      have := zOF hb
      rw [List.drop_eq_nil_of_le (as := s.b) (i := k.toNat) (by omega)] at k3
      simpa [nm] using k3⟩)
    have hb := zOT hb
    refine T.get (by omega) hb fun y hy => ?_
    have e := dropc hy
    have e1 : (k + 1).toNat = k.toNat + 1 := by omega
    refine T.eq (zev y) ?_
    refine T.jp (fun q => q = (zaA y || isDigit y)) (fun J2 h2 => T.br (fun h3 => h2 _ (by rw [h3]; rfl)) fun h3 => T.get (by omega) hb fun y2 hy2 => T.eq (zc2 y2) (h2 _ (by rw [hy] at hy2; cases hy2; rw [h3]; rfl))) fun q hq => ?_
    refine T.jp (fun q2 => q2 = inName y (s.b.drop (k.toNat + 1))) (fun J2 h2 => T.br (fun h3 => h2 _ (by unfold inName; rw [← hq, h3]; rfl)) fun h3 => T.get (by omega) hb fun y2 hy2 => ?_) fun q2 hq2 => ?_
    · rw [hy] at hy2; cases hy2
      refine T.jp (fun q3 => q3 = (decide (y = 45) && !decide (hd (s.b.drop (k.toNat + 1)) = 45))) (fun J3 h4 => T.br (fun h5 => T.ck (by omega) (T.eq (zhY s _ (by omega)) (h4 _ (by rw [h5, e1]; rfl)))) fun h5 => h4 _ (by rw [h5]; rfl)) fun q3 hq3 => h2 _ ?_
      unfold inName; rw [← hq, h3, hq3]; rfl
    · rw [e, zmw] at k3
      refine h _ ⟨fun h3 => ⟨hb, ?_⟩, fun h3 => ?_⟩
      · rw [← hq2, h3, cond_true] at k3
        rw [e1]; omega
      · rw [← hq2, h3, cond_false] at k3
        omega
  refine T.br (fun hb => T.ck (by have := hq.1 hb; omega) (hL _ ⟨by omega, by have := hq.1 hb; omega, (hq.1 hb).2⟩ (by have := hq.1 hb; omega))) fun hb => ?_
  have hn := hq.2 hb
  refine T.ck (by omega) (T.get (by omega) (by omega) fun y hy => ?_)
  have hlast : ((s.b.drop i.toNat).take (nm (s.b.drop i.toNat))).getLast? = some y := by
    refine zm6 hi0 ?_
    rw [List.getElem?_drop]
    have : i.toNat + (nm (s.b.drop i.toNat) - 1) = (k - 1).toNat := by omega
    rw [this, hy]
  refine T.jp (fun q => q = nmBad (s.b.drop i.toNat)) (fun J h => T.br (fun h3 => h _ ?_) fun h3 => T.ck (by omega) (h _ ?_)) fun q hq => ?_
  · unfold nmBad
    rw [hlast]
    have := zOT h3
    subst this; rfl
  · unfold nmBad
    rw [hlast]
    have := zOF h3
    have e : decide (some y = some (45 : UInt8)) = false := by simpa using this
    rw [e, Bool.false_or, decide_eq_decide]
    omega
  · rw [← hq]
    exact T.br (fun h3 => T.some (by rw [h3]; rfl)) fun h3 => T.some (by rw [h3, cond_false]; omega)
end Go.Proofs.Q


namespace Go.Proofs.Q
open Go.Sy
set_option linter.unusedVariables false

theorem seg {b : List UInt8} {i k : Nat} : (b.take k).drop i = (b.drop i).take (k - i) := by rw [List.drop_take]
theorem zn1 {b : List UInt8} {i n : Nat} {y : UInt8} (h : b[i + n]? = some y) : (b.drop i)[n]? = some y := by rw [List.getElem?_drop, h]
theorem znm {b : List UInt8} {n : Nat} {y : UInt8} (h : b[n]? = some y) : b.take (n + 1) = b.take n ++ [y] := by rw [List.take_add_one, h]; rfl

/-! ### Numbers -/
def dg : List UInt8 → Nat
  | [] => 0
  | c :: r => bif isDigit c then dg r + 1 else 0
theorem zmI (c : UInt8) (r : List UInt8) : dg (c :: r) = bif isDigit c then dg r + 1 else 0 := rfl
theorem zoK : ∀ b : List UInt8, dg b ≤ b.length
  | [] => Nat.le_refl _
  | c :: r => by
    have := zoK r
    rw [zmI]
    cases isDigit c <;> simp <;> omega
def numBad (m : Bool) (d : List UInt8) : Bool :=
  decide (dg d < 1) || decide (19 < dg d) || (decide (1 < dg d) && decide (hd d = 48)) || (m && decide (hd d = 48)) || zaA (hd (d.drop (dg d))) ||
    decide (9223372036854775808 < uval (d.take (dg d))) || (!m && decide (uval (d.take (dg d)) = 9223372036854775808))
def numLen (b : List UInt8) : Option Nat :=
  bif decide (hd b = 45) then bif numBad true (b.drop 1) then none else some (dg (b.drop 1) + 1)
  else bif numBad false b then none else some (dg b)
theorem zni (s : Str) (i : Int) (h0 : 0 ≤ i) (h1 : i < s.b.length) (hl : s.b.length ≤ 1000000) :
    zde s i = some (match numLen (s.b.drop i.toNat) with
      | none => -1
      | some n => i + (n : Int)) := by
  refine tx ?_
  unfold zde
  refine T.get h0 h1 fun y1 hy1 => ?_
  have hd1 : hd (s.b.drop i.toNat) = y1 := by rw [dropc hy1]; rfl
  refine T.jp (fun f => i ≤ f ∧ f ≤ i + 1 ∧ numLen (s.b.drop i.toNat) = (bif numBad (decide (y1 = 45)) (s.b.drop f.toNat) then none else some (dg (s.b.drop f.toNat) + (f - i).toNat))) (fun J h => T.br (fun hb => T.ck (by omega) (h _ ⟨by omega, by omega, ?_⟩)) fun hb => h _ ⟨by omega, by omega, ?_⟩) fun f ⟨f1, f2, f3⟩ => ?_
  · have e1 : (i + 1).toNat = i.toNat + 1 := by omega
    have e2 : (i + 1 - i).toNat = 1 := by omega
    unfold numLen
    rw [hd1, hb, cond_true, e1, e2, List.drop_drop]
  · have e2 : (i - i).toNat = 0 := by omega
    unfold numLen
    rw [hd1, hb, cond_false, e2, Nat.add_zero]
  have hfl : f ≤ s.b.length := by omega
  have hgoal : ∀ k : Int, (dg (s.b.drop f.toNat) : Int) = k - f → (match numLen (s.b.drop i.toNat) with
      | none => -1
      | some n => i + (n : Int)) = bif numBad (decide (y1 = 45)) (s.b.drop f.toNat) then -1 else k := by
    intro k hk
    rw [f3]
    cases numBad (decide (y1 = 45)) (s.b.drop f.toNat) with
    | true => rfl
    | false =>
      show i + ((dg (s.b.drop f.toNat) + (f - i).toNat : Nat) : Int) = k
      omega
  refine T.lp (ι := Int × UInt64) (fun q => f ≤ q.1 ∧ q.1 ≤ s.b.length ∧ (dg (s.b.drop f.toNat) : Int) = q.1 - f + dg (s.b.drop q.1.toNat) ∧ (q.1 - f ≤ 19 → q.2 = uval ((s.b.drop f.toNat).take (q.1.toNat - f.toNat)))) (fun q => (s.b.length - q.1).toNat)
    ⟨Int.le_refl _, hfl, by dsimp only; omega, fun _ => by rw [Nat.sub_self]; rfl⟩ (by simp only; omega) fun L q hq hL => ?_
  obtain ⟨k, v⟩ := q
  obtain ⟨hq1, hq2, hq3, hq4⟩ := hq
  simp only at hq1 hq2 hq3 hq4 ⊢
  refine T.jp (fun b => (b = true → k < s.b.length ∧ (dg (s.b.drop f.toNat) : Int) = k + 1 - f + dg (s.b.drop (k + 1).toNat)) ∧ (b = false → (dg (s.b.drop f.toNat) : Int) = k - f)) (fun J h => ?_) fun b hb => ?_
  · refine T.br (fun h2 => ?_) fun h2 => h _ ⟨(fun h => by cases h), fun _ => ?_⟩
    · have h2 := zOT h2
      have ek : (k + 1).toNat = k.toNat + 1 := by omega
      refine T.get (by omega) h2 fun y hy => T.eq (zc2 y) (h _ ?_)
      rw [dropc hy, zmI] at hq3
      rw [ek]
      refine ⟨fun hd => ⟨h2, ?_⟩, fun hd => ?_⟩
      · rw [hd, cond_true] at hq3; omega
      · rw [hd, cond_false] at hq3; omega
    · have h2 := zOF h2
      rw [List.drop_eq_nil_of_le (as := s.b) (i := k.toNat) (by omega)] at hq3
      simpa [dg] using hq3
  refine T.br (fun h2 => ?_) fun h2 => ?_
  · obtain ⟨hk, hd⟩ := hb.1 h2
    obtain ⟨y, hy⟩ : ∃ y, s.b[k.toNat]? = some y := ⟨_, List.getElem?_eq_getElem (by omega)⟩
    have hsn := znm (b := s.b.drop f.toNat) (n := k.toNat - f.toNat) (y := y) (zn1 (by rw [show f.toNat + (k.toNat - f.toNat) = k.toNat by omega, hy]))
    have hk1 : (k + 1).toNat - f.toNat = k.toNat - f.toNat + 1 := by omega
    refine T.ck (by omega) (T.jp (fun u => k - f < 19 → u = 10 * v + (y - 48).toUInt64) (fun J h => T.br (fun _ => ?_) fun h3 => h _ fun h4 => by have := zOF h3; omega) fun u hu => T.ck (by omega) (hL _ ?_ (by simp only; omega)))
    · exact T.get (by omega) hk fun y' hy' => h _ fun _ => by rw [hy] at hy'; cases hy'; rfl
    · refine ⟨by simp only; omega, by simp only; omega, hd, fun h19 => ?_⟩
      simp only at h19 ⊢
      rw [hk1, hsn, zgp, hu (by omega), hq4 (by omega)]
  have hn := hb.2 h2
  rw [hgoal k hn]
  refine T.ck (by omega) ?_
  have hdn : dg (s.b.drop f.toNat) = k.toNat - f.toNat := by omega
  have hyf : 1 ≤ k - f → ∀ y, s.b[f.toNat]? = some y → hd (s.b.drop f.toNat) = y := fun _ y hy => by rw [dropc hy]; rfl
  refine T.jp (fun b => b = (decide (dg (s.b.drop f.toNat) < 1) || decide (19 < dg (s.b.drop f.toNat)))) (fun J h => T.br (fun h3 => h _ ?_) fun h3 => h _ ?_) fun b1 hb1 => ?_
  · have := zOT h3; rw [zDT (by omega)]; rfl
  · have := zOF h3; rw [zDF (show ¬ dg (s.b.drop f.toNat) < 1 by omega), Bool.false_or, decide_eq_decide]; omega
  refine T.jp (fun b => b = (b1 || (decide (1 < dg (s.b.drop f.toNat)) && decide (hd (s.b.drop f.toNat) = 48)))) (fun J h => T.br (fun h3 => h _ (by rw [h3]; rfl)) fun h3 => ?_) fun b2 hb2 => ?_
  · refine T.jp (fun b => b = (decide (1 < dg (s.b.drop f.toNat)) && decide (hd (s.b.drop f.toNat) = 48))) (fun J3 h4 => T.br (fun h5 => ?_) fun h5 => h4 _ ?_) fun b hb => h _ (by rw [h3, hb]; rfl)
    · have h5 := zOT h5
      exact T.get (by omega) (by omega) fun y hy => h4 _ (by rw [zDT (show 1 < dg (s.b.drop f.toNat) by omega), hyf (by omega) y hy]; rfl)
    · have h5 := zOF h5
      rw [zDF (show ¬ 1 < dg (s.b.drop f.toNat) by omega)]; rfl
  refine T.jp (fun b => b = (b2 || (decide (y1 = 45) && decide (hd (s.b.drop f.toNat) = 48)))) (fun J h => T.br (fun h3 => h _ (by rw [h3]; rfl)) fun h3 => ?_) fun b3 hb3 => ?_
  · have hge : 1 ≤ k - f := by
      have e1 := (Bool.or_eq_false_iff.1 (hb2.symm.trans h3)).1
      have := zOF (Bool.or_eq_false_iff.1 (hb1.symm.trans e1)).1
      omega
    refine T.jp (fun b => b = (decide (y1 = 45) && decide (hd (s.b.drop f.toNat) = 48))) (fun J3 h4 => T.br (fun h5 => ?_) fun h5 => h4 _ (by rw [h5]; rfl)) fun b hb => h _ (by rw [h3, hb]; rfl)
    exact T.get (by omega) (by omega) fun y hy => h4 _ (by rw [h5, hyf hge y hy]; rfl)
  have hat : zdw s k = some (hd ((s.b.drop f.toNat).drop (dg (s.b.drop f.toNat)))) := by
    rw [zhY s k (by omega), List.drop_drop, hdn]
    congr 3; omega
  refine T.jp (fun b => b = (b3 || zaA (hd ((s.b.drop f.toNat).drop (dg (s.b.drop f.toNat)))))) (fun J h => T.br (fun h3 => h _ (by rw [h3]; rfl)) fun h3 => T.eq hat (T.eq (zev _) (h _ (by rw [h3]; rfl)))) fun b4 hb4 => ?_
  have hv : b4 = false → v = uval ((s.b.drop f.toNat).take (dg (s.b.drop f.toNat))) := fun h => by
    have e3 := (Bool.or_eq_false_iff.1 (hb4.symm.trans h)).1
    have e2 := (Bool.or_eq_false_iff.1 (hb3.symm.trans e3)).1
    have e1 := (Bool.or_eq_false_iff.1 (hb2.symm.trans e2)).1
    have := zOF (Bool.or_eq_false_iff.1 (hb1.symm.trans e1)).2
    rw [hdn]; exact hq4 (by omega)
  refine T.jp (fun b => b = (b4 || decide (9223372036854775808 < uval ((s.b.drop f.toNat).take (dg (s.b.drop f.toNat)))))) (fun J h => T.br (fun h3 => h _ (by rw [h3]; rfl)) fun h3 => h _ (by rw [h3, hv h3]; rfl)) fun b5 hb5 => ?_
  refine T.jp (fun b => b = (b5 || (!decide (y1 = 45) && decide (uval ((s.b.drop f.toNat).take (dg (s.b.drop f.toNat))) = 9223372036854775808)))) (fun J h => T.br (fun h3 => h _ (by rw [h3]; rfl)) fun h3 => ?_) fun b6 hb6 => ?_
  · have e4 := (Bool.or_eq_false_iff.1 (hb5.symm.trans h3)).1
    refine T.jp (fun b => b = (!decide (y1 = 45) && decide (uval ((s.b.drop f.toNat).take (dg (s.b.drop f.toNat))) = 9223372036854775808))) (fun J3 h4 => T.br (fun h5 => h4 _ (by rw [h5, hv e4]; rfl)) fun h5 => h4 _ (by rw [h5]; rfl)) fun b hb => h _ (by rw [h3, hb]; rfl)
  have hall : b6 = numBad (decide (y1 = 45)) (s.b.drop f.toNat) := by
    rw [hb6, hb5, hb4, hb3, hb2, hb1]; rfl
  rw [← hall]
  exact T.br (fun h3 => T.some (by rw [h3]; rfl)) fun h3 => T.some (by rw [h3]; rfl)

/-! ### Hexes -/
def isHex (c : UInt8) : Bool := isDigit c || (decide (65 ≤ c) && decide (c ≤ 70))
def hx : List UInt8 → Nat
  | [] => 0
  | c :: r => bif isHex c then hx r + 1 else 0
theorem zpd (c : UInt8) (r : List UInt8) : hx (c :: r) = bif isHex c then hx r + 1 else 0 := rfl
def hexBad (r : List UInt8) : Bool := !decide (hx r % 2 = 0) || !decide (hd (r.drop (hx r)) = 39) || !decide (hd (r.drop (hx r + 1)) = 72)
theorem zoA {b : List UInt8} {n : Nat} (h : hd (b.drop n) ≠ 0) : n < b.length := by
  rcases Nat.lt_or_ge n b.length with h2 | h2
  · exact h2
  · rw [List.drop_eq_nil_of_le h2] at h; exact absurd rfl h
theorem zqg (s : Str) (i : Int) (h0 : 0 ≤ i) (h1 : i < s.b.length) (hl : s.b.length ≤ 1000000) :
    zfF s i = some (bif hexBad (s.b.drop (i.toNat + 1)) then (-1, ⟨[]⟩) else (i + 1 + (hx (s.b.drop (i.toNat + 1)) : Int) + 2, ⟨(s.b.drop (i.toNat + 1)).take (hx (s.b.drop (i.toNat + 1)))⟩)) := by
  refine tx ?_
  unfold zfF
  have e0 : (i + 1).toNat = i.toNat + 1 := by omega
  refine T.ck (by omega) (T.lp (fun (k : Int) => i + 1 ≤ k ∧ k ≤ (s.b.length : Int) ∧ (hx (s.b.drop (i.toNat + 1)) : Int) = k - (i + 1) + hx (s.b.drop k.toNat)) (fun (k : Int) => ((s.b.length : Int) - k).toNat) ⟨Int.le_refl _, by omega, by rw [e0]; omega⟩ (by omega) fun L k ⟨k1, k2, k3⟩ hL => ?_)
  refine T.jp (fun b => (b = true → k < s.b.length ∧ (hx (s.b.drop (i.toNat + 1)) : Int) = k + 1 - (i + 1) + hx (s.b.drop (k + 1).toNat)) ∧ (b = false → (hx (s.b.drop (i.toNat + 1)) : Int) = k - (i + 1))) (fun J h => T.br (fun h2 => ?_) fun h2 => h _ ⟨(fun h => by cases h), fun _ => ?_⟩) fun b hb => ?_
  · have h2 := zOT h2
    refine T.get (by omega) h2 fun y hy => T.eq (zc2 y) ?_
    have ek : (k + 1).toNat = k.toNat + 1 := by omega
    refine T.jp (fun q => q = isHex y) (fun J2 h3 => T.br (fun h4 => h3 _ (by unfold isHex; rw [h4]; rfl)) fun h4 => T.get (by omega) h2 fun y' hy' => ?_) fun q hq => h _ ?_
    · rw [hy] at hy'; cases hy'
      refine T.jp (fun q => q = (decide (65 ≤ y) && decide (y ≤ 70))) (fun J4 h5 => T.br (fun h6 => T.get (by omega) h2 fun y' hy' => h5 _ (by rw [hy] at hy'; cases hy'; rw [h6]; rfl)) fun h6 => h5 _ (by rw [h6]; rfl)) fun q hq => h3 _ (by unfold isHex; rw [h4, hq]; rfl)
    · subst hq
      rw [dropc hy, zpd] at k3
      rw [ek]
      refine ⟨fun hd => ⟨h2, ?_⟩, fun hd => ?_⟩
      · rw [hd, cond_true] at k3; omega
      · rw [hd, cond_false] at k3; omega
  · have h2 := zOF h2
    rw [List.drop_eq_nil_of_le (as := s.b) (i := k.toNat) (by omega)] at k3
    simpa [hx] using k3
  refine T.br (fun h2 => T.ck (by have := hb.1 h2; omega) (hL _ ⟨by have := hb.1 h2; omega, by have := hb.1 h2; omega, (hb.1 h2).2⟩ (by have := hb.1 h2; omega))) fun h2 => ?_
  have hn := hb.2 h2
  have hdk : (s.b.drop (i.toNat + 1)).drop (hx (s.b.drop (i.toNat + 1))) = s.b.drop k.toNat := by rw [List.drop_drop]; congr 1; omega
  have hdk1 : (s.b.drop (i.toNat + 1)).drop (hx (s.b.drop (i.toNat + 1)) + 1) = s.b.drop (k + 1).toNat := by rw [List.drop_drop]; congr 1; omega
  refine T.ck (by omega) (T.asr rfl ?_)
  have hmod : decide ((k - (i + 1)).tmod 2 = 0) = decide (hx (s.b.drop (i.toNat + 1)) % 2 = 0) := by
    rw [decide_eq_decide, Int.tmod_eq_emod_of_nonneg (by omega)]
    omega
  refine T.jp (fun b => b = (!decide (hx (s.b.drop (i.toNat + 1)) % 2 = 0) || !decide (hd (s.b.drop k.toNat) = 39))) (fun J h => T.br (fun h3 => h _ (by rw [← hmod, h3]; rfl)) fun h3 => T.eq (zhY s k (by omega)) (h _ (by rw [← hmod, h3]; rfl))) fun b1 hb1 => ?_
  refine T.jp (fun b => b = hexBad (s.b.drop (i.toNat + 1))) (fun J h => T.br (fun h3 => h _ ?_) fun h3 => T.ck (by omega) (T.eq (zhY s (k + 1) (by omega)) (h _ ?_))) fun b2 hb2 => ?_
  · unfold hexBad; rw [hdk, ← hb1, h3]; rfl
  · unfold hexBad; rw [hdk, hdk1, ← hb1, h3]; rfl
  rw [← hb2]
  refine T.br (fun h3 => T.some (by rw [h3]; rfl)) fun h3 => ?_
  have hlt : k + 1 < s.b.length := by
    rw [h3] at hb2
    unfold hexBad at hb2
    have := (Bool.or_eq_false_iff.1 hb2.symm).2
    have h72 : hd (s.b.drop (k + 1).toNat) = 72 := by rw [hdk1] at this; simpa using this
    have := zoA (b := s.b) (n := (k + 1).toNat) (by rw [h72]; decide)
    omega
  refine T.ck (by omega) (T.asd (by omega) (T.some ?_))
  rw [h3, cond_false, seg, e0]
  have e5 : k.toNat - (i.toNat + 1) = hx (s.b.drop (i.toNat + 1)) := by omega
  rw [e5, hn]
  have e6 : i + 1 + (k - (i + 1)) + 2 = k + 2 := by omega
  rw [e6]

/-! ### Strings -/
def qd : Bool → List UInt8 → List UInt8 → Option (List UInt8 × List UInt8)
  | _, [], _ => none
  | true, _ :: r, acc => qd false r (acc ++ [34])
  | false, c :: r, acc => bif decide (c = 34) then bif decide (hd r = 34) then qd true r acc else bif Lib.validD acc then some (acc, r) else none else qd false r (acc ++ [c])
theorem zm9 (s : Str) (i : Int) (h0 : 0 ≤ i) (h1 : i < s.b.length) (hl : s.b.length ≤ 1000000) :
    zc8 s i = some (match qd false (s.b.drop (i.toNat + 1)) [] with
      | none => (-1, ⟨[]⟩)
      | some (t, r) => ((s.b.length : Int) - (r.length : Int), ⟨t⟩)) := by
  refine tx ?_
  unfold zc8
  have e0 : (i + 1).toNat = i.toNat + 1 := by omega
  refine T.ck (by omega) (T.lp (ι := Int × Str) (fun q => i + 1 ≤ q.1 ∧ q.1 ≤ s.b.length + 1 ∧ (q.2.b.length : Int) < q.1 ∧ qd false (s.b.drop (i.toNat + 1)) [] = qd false (s.b.drop q.1.toNat) q.2.b) (fun q => (s.b.length + 1 - q.1).toNat) ⟨Int.le_refl _, by dsimp only; omega, by dsimp only; simp only [List.length_nil]; omega, by dsimp only; rw [e0]⟩ (by dsimp only; omega) fun L q hq hL => ?_)
  obtain ⟨k, o⟩ := q
  obtain ⟨hq1, hq2, hq3, hq4⟩ := hq
  simp only at hq1 hq2 hq3 hq4 ⊢
  rw [hq4] at hL ⊢
  refine T.br (fun h2 => ?_) fun h2 => T.some ?_
  rotate_left
  · have h2 := zOF h2
    rw [List.drop_eq_nil_of_le (by omega)]; simp only [qd]
  have h2 := zOT h2
  have ek : (k + 1).toNat = k.toNat + 1 := by omega
  refine T.jp (fun (q : Int × Str) => k ≤ q.1 ∧ q.1 < (s.b.length : Int) ∧ (q.2.b.length : Int) < q.1 + 1 ∧ qd false (s.b.drop k.toNat) o.b = qd false (s.b.drop (q.1 + 1).toNat) q.2.b) (fun J h => ?_) fun q hq => ?_
  · refine T.get (by omega) h2 fun y hy => T.br (fun h3 => ?_) fun h3 => ?_
    · have h34 : decide (y = 34) = false := by simpa using h3
      have ey : (s.b.take (k + 1).toNat).drop k.toNat = [y] := by
        rw [seg, ek, dropc hy, show k.toNat + 1 - k.toNat = 1 by omega]; rfl
      refine T.ck (by omega) (T.asd (by omega) (T.abl ?_ (h _ ⟨Int.le_refl _, h2, ?_, ?_⟩)))
      · simp only [List.length_drop, List.length_take]; omega
      · simp only [List.length_append, List.length_drop, List.length_take]; omega
      · dsimp only
        rw [ey, ek]
        conv => lhs; rw [dropc hy]
        simp only [qd, h34, cond_false]
    · have h34 : decide (y = 34) = true := by simpa using h3
      refine T.ck (by omega) (T.eq (zhY s (k + 1) (by omega)) (T.br (fun h4 => ?_) fun h4 => ?_))
      · have hn : decide (hd (s.b.drop (k.toNat + 1)) = 34) = false := by rw [ek] at h4; simpa using h4
        refine T.eq rfl (T.br (fun h5 => T.some ?_) fun h5 => T.ck (by omega) (T.some ?_))
        · have h5 : Lib.validD o.b = false := by simpa using h5
          conv => rhs; rw [dropc hy]
          simp only [qd, h34, cond_true, hn, cond_false, h5]
        · have h5 : Lib.validD o.b = true := by simpa using h5
          conv => rhs; rw [dropc hy]
          simp only [qd, h34, cond_true, hn, cond_false, h5, List.length_drop]
          congr 1; omega
      · have hn : hd (s.b.drop (k.toNat + 1)) = 34 := by rw [ek] at h4; simpa using h4
        have hlt := zoA (b := s.b) (n := k.toNat + 1) (by rw [hn]; decide)
        obtain ⟨c, ec⟩ := skip1 hlt
        refine T.abl ?_ (T.ck (by omega) (h _ ⟨by dsimp only; omega, by dsimp only; omega, ?_, ?_⟩))
        · simp only [List.length_cons, List.length_nil]; omega
        · simp only [List.length_append, List.length_cons, List.length_nil]; omega
        · dsimp only
          rw [show (k + 1 + 1).toNat = k.toNat + 1 + 1 by omega]
          conv => lhs; rw [dropc hy]
          simp only [qd, h34, cond_true, zDT hn]
          rw [ec]; simp only [qd]
  · exact T.ck (by omega) (hL _ ⟨by dsimp only; omega, by dsimp only; omega, hq.2.2.1, hq.2.2.2⟩ (by dsimp only; omega))
end Go.Proofs.Q


namespace Go.Proofs.Q
open Go.Sy
set_option linter.unusedVariables false

/-! ### Signs -/
def isPre : List UInt8 → List UInt8 → Bool
  | [], _ => true
  | _ :: _, [] => false
  | p :: ps, c :: r => bif decide (p = c) then isPre ps r else false
def sgF : List (List UInt8) → List UInt8 → Nat
  | [], _ => 0
  | p :: ps, b => bif isPre p b then p.length else sgF ps b
def sgs : List (List UInt8) := [[58, 58, 61], [46, 46, 46], [46, 46], [91, 91], [93, 93], [123], [125], [91], [93], [40], [41], [44], [58]]
def sg (b : List UInt8) : Nat := sgF sgs b
theorem zgx : ∀ (p b : List UInt8), isPre p b = true ↔ p.length ≤ b.length ∧ b.take p.length = p
  | [], b => by simp [isPre]
  | _ :: _, [] => by simp [isPre]
  | p :: ps, c :: r => by
    have ih := zgx ps r
    unfold isPre
    by_cases h : p = c
    · subst h; simp [ih]
    · simp only [zDF h, cond_false, List.length_cons, List.take_succ_cons, List.cons.injEq]
      exact ⟨(fun h => by cases h), fun h2 => absurd h2.2.1.symm h⟩
theorem zpl {k : Nat} {y : Str} (h : ([(Str.mk [58, 58, 61]), (Str.mk [46, 46, 46]), (Str.mk [46, 46]), (Str.mk [91, 91]), (Str.mk [93, 93]), (Str.mk [123]), (Str.mk [125]), (Str.mk [91]), (Str.mk [93]), (Str.mk [40]), (Str.mk [41]), (Str.mk [44]), (Str.mk [58])] : List Str)[k]? = some y) : sgs.drop k = y.b :: sgs.drop (k + 1) := by
  have e : ([(Str.mk [58, 58, 61]), (Str.mk [46, 46, 46]), (Str.mk [46, 46]), (Str.mk [91, 91]), (Str.mk [93, 93]), (Str.mk [123]), (Str.mk [125]), (Str.mk [91]), (Str.mk [93]), (Str.mk [40]), (Str.mk [41]), (Str.mk [44]), (Str.mk [58])] : List Str) = sgs.map Str.mk := rfl
  rw [e, List.getElem?_map] at h
  obtain ⟨z, h1, h2⟩ := Option.map_eq_some_iff.1 h
  subst h2
  obtain ⟨h3, h4⟩ := List.getElem?_eq_some_iff.1 h1
  rw [List.drop_eq_getElem_cons h3, h4]
theorem zoZ (s : Str) (i : Int) (h0 : 0 ≤ i) (h1 : i < s.b.length) (hl : s.b.length ≤ 1000000) : zeL s i = some ((sg (s.b.drop i.toNat) : Nat) : Int) := by
  refine tx ?_
  unfold zeL
  refine T.asd (by omega) (T.lp (fun (k : Int) => 0 ≤ k ∧ k ≤ 13 ∧ sgF (sgs.drop k.toNat) (s.b.drop i.toNat) = sg (s.b.drop i.toNat)) (fun (k : Int) => (13 - k).toNat) ⟨Int.le_refl _, by omega, rfl⟩ (by omega) fun L k ⟨k1, k2, k3⟩ hL => ?_)
  have er : (s.b.take ((s.b.length : Int)).toNat).drop i.toNat = s.b.drop i.toNat := by rw [List.take_of_length_le (by omega)]
  refine T.br (fun h2 => ?_) fun h2 => T.some ?_
  rotate_left
  · have h2 : ¬ k < 13 := zOF h2
    have : k = 13 := by omega
    subst this
    rw [← k3]; rfl
  have h2 := zOT h2
  refine T.get k1 h2 fun y hy => ?_
  have hs := zpl hy
  rw [hs] at k3
  unfold sgF at k3
  rw [er]
  refine T.jp (fun b => b = isPre y.b (s.b.drop i.toNat)) (fun J h => T.br (fun h3 => ?_) fun h3 => h _ ?_) fun b hb => ?_
  · have h3 := zOT h3
    refine T.asd ⟨Int.le_refl _, by omega, h3⟩ (T.get k1 h2 fun y2 hy2 => h _ ?_)
    rw [hy] at hy2; cases hy2
    have h4 : y.b.length ≤ (s.b.drop i.toNat).length := by simp only [List.length_drop] at h3 ⊢; omega
    rw [Bool.eq_iff_iff, decide_eq_true_eq, zgx]
    constructor
    · intro h5
      refine ⟨h4, ?_⟩
      have := congrArg Str.b h5
      simpa using this
    · intro h5
      obtain ⟨yb⟩ := y
      simp only [Str.mk.injEq]
      simpa using h5.2
  · have h3 := zOF h3
    symm
    rw [Bool.eq_false_iff]
    intro h5
    have := (zgx _ _).1 h5
    simp only [List.length_drop] at h3 this
    omega
  · rw [hb]
    refine T.br (fun h3 => T.some ?_) fun h3 => T.ck (by have h2 : k < 13 := h2; omega) (hL _ ⟨by omega, by have h2 : k < 13 := h2; omega, ?_⟩ (by have h2 : k < 13 := h2; omega))
    · rw [h3, cond_true] at k3; rw [← k3]
    · rw [h3, cond_false] at k3
      have e : (k + 1).toNat = k.toNat + 1 := by omega
      rw [e, k3]

/-! ### Words -/
def wordsL : List Str := [(Str.mk [68, 69, 70, 73, 78, 73, 84, 73, 79, 78, 83]), (Str.mk [69, 88, 80, 76, 73, 67, 73, 84]), (Str.mk [73, 77, 80, 76, 73, 67, 73, 84]), (Str.mk [65, 85, 84, 79, 77, 65, 84, 73, 67]), (Str.mk [84, 65, 71, 83]), (Str.mk [66, 69, 71, 73, 78]), (Str.mk [69, 78, 68]), (Str.mk [66, 79, 79, 76, 69, 65, 78]), (Str.mk [73, 78, 84, 69, 71, 69, 82]), (Str.mk [69, 78, 85, 77, 69, 82, 65, 84, 69, 68]), (Str.mk [78, 85, 76, 76]), (Str.mk [79, 67, 84, 69, 84]), (Str.mk [83, 84, 82, 73, 78, 71]), (Str.mk [85, 84, 70, 56, 83, 116, 114, 105, 110, 103]), (Str.mk [83, 69, 81, 85, 69, 78, 67, 69]), (Str.mk [83, 69, 84]), (Str.mk [67, 72, 79, 73, 67, 69]), (Str.mk [79, 70]), (Str.mk [79, 80, 84, 73, 79, 78, 65, 76]), (Str.mk [68, 69, 70, 65, 85, 76, 84]), (Str.mk [83, 73, 90, 69]), (Str.mk [77, 73, 78]), (Str.mk [77, 65, 88]), (Str.mk [84, 82, 85, 69]), (Str.mk [70, 65, 76, 83, 69])]
def sameB : List UInt8 → List UInt8 → Bool
  | [], [] => true
  | a :: r, b :: t => bif decide (a = b) then sameB r t else false
  | _, _ => false
theorem zhv : ∀ a b : List UInt8, sameB a b = true ↔ a = b
  | [], [] => by simp [sameB]
  | [], _ :: _ => by simp [sameB]
  | _ :: _, [] => by simp [sameB]
  | a :: r, b :: t => by
    have ih := zhv r t
    unfold sameB
    by_cases h : a = b
    · subst h; simp [ih]
    · simp [h]
def isWord (t : List UInt8) : Bool := wordsL.any fun w => sameB w.b t
theorem zpr (s : Str) : zeM s = some (isWord s.b) := by
  refine tx ?_
  unfold zeM
  refine T.eq (y := wordsL) rfl (T.cal (zfa wordsL s (by decide)) fun y _ hy => T.some ?_)
  rw [hy, Bool.eq_iff_iff, decide_eq_true_eq]
  unfold isWord
  rw [List.any_eq_true]
  constructor
  · intro h; exact ⟨s, h, (zhv _ _).2 rfl⟩
  · rintro ⟨w, h1, h2⟩
    have := (zhv _ _).1 h2
    obtain ⟨wb⟩ := w; obtain ⟨sb⟩ := s
    simp only at this; subst this; exact h1

/-! ### One sign, all signs -/
/-- The kind and the text of what comes first, and what is left behind it. -/
def oneS (b : List UInt8) : Option (Int × List UInt8 × List UInt8) :=
  let c := hd b
  bif zaA c then bif nmBad b then none else some (bif isWord (b.take (nm b)) then 5 else bif decide (c ≤ 90) then 1 else 2, b.take (nm b), b.drop (nm b))
  else bif isDigit c || (decide (c = 45) && isDigit (hd (b.drop 1))) then match numLen b with
    | none => none
    | some n => some (3, b.take n, b.drop n)
  else bif decide (c = 39) then bif hexBad (b.drop 1) then none else some (4, (b.drop 1).take (hx (b.drop 1)), (b.drop 1).drop (hx (b.drop 1) + 2))
  else bif decide (c = 34) then match qd false (b.drop 1) [] with
    | none => none
    | some (t, r) => some (7, t, r)
  else bif decide (0 < sg b) then some (6, b.take (sg b), b.drop (sg b)) else none
theorem zkx : ∀ (b : List UInt8) (f : Bool) (acc t r : List UInt8), qd f b acc = some (t, r) → r.length < b.length
  | [], f, acc, t, r, h => by cases f <;> simp [qd] at h
  | c :: b, true, acc, t, r, h => by
    simp only [qd] at h
    have := zkx b _ _ _ _ h
    simp; omega
  | c :: b, false, acc, t, r, h => by
    simp only [qd] at h
    by_cases h1 : c = 34
    · simp only [zDT h1, cond_true] at h
      by_cases h2 : hd b = 34
      · simp only [zDT h2, cond_true] at h
        have := zkx b _ _ _ _ h
        simp; omega
      · simp only [zDF h2, cond_false] at h
        cases hv : Lib.validD acc with
        | true => rw [hv] at h; simp at h; rw [← h.2]; simp
        | false => rw [hv] at h; cases h
    · simp only [zDF h1, cond_false] at h
      have := zkx b _ _ _ _ h
      simp; omega
theorem zju {b : List UInt8} {n : Nat} (h : numLen b = some n) : 0 < n ∧ n ≤ b.length := by
  unfold numLen at h
  by_cases h1 : hd b = 45
  · simp only [zDT h1, cond_true] at h
    cases hb : numBad true (b.drop 1) with
    | true => rw [hb] at h; cases h
    | false =>
      rw [hb] at h; simp only [cond_false, Option.some.injEq] at h
      have := zoK (b.drop 1)
      rw [List.length_drop] at this
      have : b ≠ [] := fun e => by rw [e] at h1; cases h1
      have := List.length_pos_iff.2 this
      omega
  · simp only [zDF h1, cond_false] at h
    cases hb : numBad false b with
    | true => rw [hb] at h; cases h
    | false =>
      rw [hb] at h; simp at h
      have := zoK b
      have : decide (dg b < 1) = false := by
        unfold numBad at hb
        simp only [Bool.or_eq_false_iff] at hb
        exact hb.1.1.1.1.1.1
      have := zOF this
      omega
theorem zqc {b : List UInt8} (h : zaA (hd b) = true) : 0 < nm b := by
  cases b with
  | nil => simp [hd, zaA] at h
  | cons c r =>
    rw [zmw]
    simp only [hd] at h
    unfold inName
    rw [h]; simp
theorem zob : ∀ (l : List (List UInt8)) (b : List UInt8), sgF l b ≤ b.length
  | [], b => Nat.zero_le _
  | p :: ps, b => by
    unfold sgF
    cases h : isPre p b with
    | true => exact ((zgx _ _).1 h).1
    | false => exact zob ps b
theorem zk8 {b t r : List UInt8} {k : Int} (h : oneS b = some (k, t, r)) : r.length < b.length := by
  unfold oneS at h
  simp only at h
  cases h1 : zaA (hd b) with
  | true =>
    rw [h1, cond_true] at h
    cases h2 : nmBad b with
    | true => rw [h2] at h; cases h
    | false =>
      rw [h2] at h
      simp only [cond_false, Option.some.injEq, Prod.mk.injEq] at h
      rw [← h.2.2, List.length_drop]
      have := zqc h1
      have := zlm b
      omega
  | false =>
    rw [h1, cond_false] at h
    cases h2 : isDigit (hd b) || (decide (hd b = 45) && isDigit (hd (b.drop 1))) with
    | true =>
      rw [h2, cond_true] at h
      cases h3 : numLen b with
      | none => rw [h3] at h; cases h
      | some n =>
        rw [h3] at h
        simp only [Option.some.injEq, Prod.mk.injEq] at h
        have := zju h3
        rw [← h.2.2, List.length_drop]; omega
    | false =>
      rw [h2, cond_false] at h
      by_cases h3 : hd b = 39
      · rw [zDT h3, cond_true] at h
        cases h4 : hexBad (b.drop 1) with
        | true => rw [h4] at h; cases h
        | false =>
          rw [h4] at h
          simp only [cond_false, Option.some.injEq, Prod.mk.injEq] at h
          have : b ≠ [] := fun e => by rw [e] at h3; cases h3
          have := List.length_pos_iff.2 this
          rw [← h.2.2, List.length_drop, List.length_drop]; omega
      · rw [zDF h3, cond_false] at h
        by_cases h4 : hd b = 34
        · rw [zDT h4, cond_true] at h
          cases h5 : qd false (b.drop 1) [] with
          | none => rw [h5] at h; cases h
          | some q =>
            rw [h5] at h
            obtain ⟨t', r'⟩ := q
            simp only [Option.some.injEq, Prod.mk.injEq] at h
            have := zkx _ _ _ _ _ h5
            rw [List.length_drop] at this
            rw [← h.2.2]; omega
        · rw [zDF h4, cond_false] at h
          by_cases h5 : 0 < sg b
          · rw [zDT h5, cond_true] at h
            simp only [Option.some.injEq, Prod.mk.injEq] at h
            have := zob sgs b
            have e : sgF sgs b = sg b := rfl
            rw [← h.2.2, List.length_drop]; omega
          · rw [zDF h5] at h; cases h
theorem zqi (s : Str) (i : Int) (h0 : 0 ≤ i) (h1 : i < s.b.length) (hl : s.b.length ≤ 1000000) :
    T (fun (q : GTok × Int) => match oneS (s.b.drop i.toNat) with
      | none => q.2 < 0
      | some (k, t, r) => q = (⟨k, ⟨t⟩, i⟩, (s.b.length : Int) - (r.length : Int))) (zfM s i) := by
  unfold zfM
  refine T.get h0 h1 fun y hy => ?_
  have ed := dropc hy
  have hy0 : hd (s.b.drop i.toNat) = y := by rw [ed]; rfl
  have ed1 : (s.b.drop i.toNat).drop 1 = s.b.drop (i.toNat + 1) := by rw [List.drop_drop]
  have elen : (s.b.drop i.toNat).length = s.b.length - i.toNat := List.length_drop
  have etake : ∀ (n : Nat), (s.b.take (i + (n : Int)).toNat).drop i.toNat = (s.b.drop i.toNat).take n := fun n => by
    rw [seg]; congr 1; omega
  have erest : ∀ (n : Nat), n ≤ (s.b.drop i.toNat).length → i + (n : Int) = (s.b.length : Int) - (((s.b.drop i.toNat).drop n).length : Int) := fun n hn => by
    rw [List.length_drop, elen]; rw [elen] at hn; omega
  refine T.jp (ι := Int × GTok) (fun (q : Int × GTok) => match oneS (s.b.drop i.toNat) with
      | none => q.1 < 0
      | some (k, t, r) => (q.2, q.1) = (⟨k, ⟨t⟩, i⟩, (s.b.length : Int) - (r.length : Int))) (fun J h => ?_) fun q hq => T.some hq
  unfold oneS at h ⊢
  simp only [hy0] at h ⊢
  refine T.eq (zev y) (T.br (fun hle => ?_) fun hle => T.eq (zc2 y) ?_)
  · rw [hle, cond_true] at h ⊢
    have hcl : zaA (hd (s.b.drop i.toNat)) = true := by rw [hy0]; exact hle
    refine T.eq (zpF s i h0 h1 hl hcl) ?_
    cases hb : nmBad (s.b.drop i.toNat) with
    | true =>
      rw [hb, cond_true] at h
      simp only [cond_true] at h ⊢
      exact T.br (fun _ => T.some (by dsimp only; omega)) fun hn => by have := zOF hn; omega
    | false =>
      rw [hb, cond_false] at h
      simp only [cond_false] at h ⊢
      have hnl := zlm (s.b.drop i.toNat)
      rw [elen] at hnl
      refine T.br (fun hn => by have := zOT hn; omega) fun _ => T.asd (by omega) ?_
      rw [etake]
      refine T.jp (ι := GTok) (fun t => t = ⟨bif decide (y ≤ 90) then 1 else 2, ⟨(s.b.drop i.toNat).take (nm (s.b.drop i.toNat))⟩, i⟩) (fun J2 h2 => T.br (fun h3 => h2 _ (by rw [h3]; rfl)) fun h3 => h2 _ (by rw [h3]; rfl)) fun t ht => ?_
      subst ht
      refine T.eq (zpr _) (T.br (fun h3 => h _ ?_) fun h3 => h _ ?_)
      · dsimp only at h3 ⊢; rw [h3, ← erest _ (zlm _)]; rfl
      · dsimp only at h3 ⊢; rw [h3, ← erest _ (zlm _)]; rfl
  · rw [hle, cond_false] at h ⊢
    refine T.jp (fun b => b = (isDigit y || (decide (y = 45) && isDigit (hd ((s.b.drop i.toNat).drop 1))))) (fun J2 h2 => T.br (fun h3 => h2 _ (by rw [h3]; rfl)) fun h3 => ?_) fun b hb => ?_
    · refine T.jp (fun b => b = (decide (y = 45) && isDigit (hd ((s.b.drop i.toNat).drop 1)))) (fun J3 h4 => T.br (fun h5 => T.ck (by omega) (T.eq (zhY s (i + 1) (by omega)) (T.eq (zc2 _) (h4 _ ?_)))) fun h5 => h4 _ (by rw [h5]; rfl)) fun b hb => h2 _ (by rw [h3, hb]; rfl)
      rw [h5, ed1, show (i + 1).toNat = i.toNat + 1 by omega]; rfl
    rw [← hb] at h ⊢
    refine T.br (fun h3 => T.eq (zni s i h0 h1 hl) ?_) fun h3 => ?_
    · rw [h3, cond_true] at h ⊢
      cases hn : numLen (s.b.drop i.toNat) with
      | none =>
        simp only [hn] at h ⊢
        exact T.br (fun _ => T.some (by dsimp only; omega)) fun hn => by have := zOF hn; omega
      | some n =>
        simp only [hn] at h ⊢
        have hbd := zju hn
        have hbd2 := hbd.2
        rw [elen] at hbd2
        refine T.br (fun hn => by have := zOT hn; omega) fun _ => T.asd (by omega) (h _ ?_)
        rw [etake, ← erest n hbd.2]
    · rw [h3, cond_false] at h ⊢
      refine T.br (fun h4 => T.eq (zqg s i h0 h1 hl) (h _ ?_)) fun h4 => ?_
      · rw [h4, cond_true, ed1]
        cases hb : hexBad (s.b.drop (i.toNat + 1)) with
        | true => simp only [cond_true]; omega
        | false =>
          simp only [cond_false]
          have h5 : hx (s.b.drop (i.toNat + 1)) + 1 < (s.b.drop (i.toNat + 1)).length := by
            unfold hexBad at hb
            have := (Bool.or_eq_false_iff.1 hb).2
            have h72 : hd ((s.b.drop (i.toNat + 1)).drop (hx (s.b.drop (i.toNat + 1)) + 1)) = 72 := by simpa using this
            exact zoA (by rw [h72]; decide)
          rw [List.length_drop] at h5
          rw [List.length_drop, List.length_drop]
          have e : i + 1 + (hx (s.b.drop (i.toNat + 1)) : Int) + 2 = (s.b.length : Int) - ((s.b.length - (i.toNat + 1) - (hx (s.b.drop (i.toNat + 1)) + 2) : Nat) : Int) := by omega
          rw [e]
      · rw [h4, cond_false] at h ⊢
        refine T.br (fun h5 => T.eq (zm9 s i h0 h1 hl) (h _ ?_)) fun h5 => ?_
        · rw [h5, cond_true, ed1]
          cases hq : qd false (s.b.drop (i.toNat + 1)) [] with
          | none => simp only; omega
          | some q => rfl
        · rw [h5, cond_false] at h ⊢
          refine T.eq (zoZ s i h0 h1 hl) (T.br (fun h6 => ?_) fun h6 => h _ ?_)
          · have h6 := zOT h6
            have hsl := zob sgs (s.b.drop i.toNat)
            have esg : sgF sgs (s.b.drop i.toNat) = sg (s.b.drop i.toNat) := rfl
            have hpos : 0 < sg (s.b.drop i.toNat) := by omega
            have hsl2 := hsl
            rw [elen] at hsl2
            refine T.ck (by omega) (T.asd (by omega) (T.ck (by omega) (h _ ?_)))
            rw [zDT hpos, cond_true]
            dsimp only
            rw [etake, ← erest (sg (s.b.drop i.toNat)) hsl]
          · have h6 := zOF h6
            rw [zDF (show ¬ 0 < sg (s.b.drop i.toNat) by omega)]
            simp only [cond_false]; omega

def toksF (n : Nat) : Nat → List UInt8 → List GTok → List GTok × Int × Int
  | 0, _, _ => ([], 0, 0)
  | f + 1, b, acc => match wh .out b with
    | [] => (acc ++ [⟨0, ⟨[]⟩, (n : Int)⟩], 0, 0)
    | c :: r => match oneS (c :: r) with
      | none => ([], (n : Int) - ((c :: r).length : Int), 6)
      | some (k, t, r') => toksF n f r' (acc ++ [⟨k, ⟨t⟩, (n : Int) - ((c :: r).length : Int)⟩])
theorem zgW (n f : Nat) (b : List UInt8) (acc : List GTok) : toksF n (f + 1) b acc = match wh .out b with
    | [] => (acc ++ [⟨0, ⟨[]⟩, (n : Int)⟩], 0, 0)
    | c :: r => match oneS (c :: r) with
      | none => ([], (n : Int) - ((c :: r).length : Int), 6)
      | some (k, t, r') => toksF n f r' (acc ++ [⟨k, ⟨t⟩, (n : Int) - ((c :: r).length : Int)⟩]) := rfl
def toks (b : List UInt8) : List GTok × Int × Int := bif decide (8000 < b.length) then ([], 0, 5) else toksF b.length (b.length + 1) b []
theorem zfK : ∀ (b : List UInt8) (st : Wst), (wh st b).length ≤ b.length
  | [], st => by cases st <;> simp [wh]
  | c :: r, .out => by
    have h1 := zfK r .out
    have h2 := zfK r .start
    simp only [wh]
    cases isWh c <;> simp only [cond_true, cond_false]
    · cases decide (c = 45) && decide (hd r = 45) <;> simp only [cond_true, cond_false, List.length_cons] <;> omega
    · simp only [List.length_cons]; omega
  | c :: r, .start => by have := zfK r .ins; simp only [wh, List.length_cons]; omega
  | c :: r, .ins => by
    have h1 := zfK r .out
    have h2 := zfK r .fin
    have h3 := zfK r .ins
    simp only [wh, List.length_cons]
    cases decide (c = 10) <;> simp only [cond_true, cond_false]
    · cases decide (c = 45) && decide (hd r = 45) <;> simp only [cond_true, cond_false] <;> omega
    · omega
  | c :: r, .fin => by have := zfK r .out; simp only [wh, List.length_cons]; omega
theorem zf7 : ∀ (b : List UInt8) (st : Wst), ∃ n, wh st b = b.drop n
  | [], st => ⟨0, by cases st <;> simp [wh]⟩
  | c :: r, .out => by
    obtain ⟨n1, h1⟩ := zf7 r .out
    obtain ⟨n2, h2⟩ := zf7 r .start
    simp only [wh]
    cases isWh c <;> simp only [cond_true, cond_false]
    · cases decide (c = 45) && decide (hd r = 45) <;> simp only [cond_true, cond_false]
      · exact ⟨0, rfl⟩
      · exact ⟨n2 + 1, h2⟩
    · exact ⟨n1 + 1, h1⟩
  | c :: r, .start => by obtain ⟨n, h⟩ := zf7 r .ins; exact ⟨n + 1, h⟩
  | c :: r, .ins => by
    obtain ⟨n1, h1⟩ := zf7 r .out
    obtain ⟨n2, h2⟩ := zf7 r .fin
    obtain ⟨n3, h3⟩ := zf7 r .ins
    simp only [wh]
    cases decide (c = 10) <;> simp only [cond_true, cond_false]
    · cases decide (c = 45) && decide (hd r = 45) <;> simp only [cond_true, cond_false]
      · exact ⟨n3 + 1, h3⟩
      · exact ⟨n2 + 1, h2⟩
    · exact ⟨n1 + 1, h1⟩
  | c :: r, .fin => by obtain ⟨n, h⟩ := zf7 r .out; exact ⟨n + 1, h⟩
theorem zkh : ∀ (b : List UInt8) (f : Bool) (acc t r : List UInt8), qd f b acc = some (t, r) → ∃ n, r = b.drop n
  | [], f, acc, t, r, h => by cases f <;> simp [qd] at h
  | c :: b, true, acc, t, r, h => by
    simp only [qd] at h
    obtain ⟨n, e⟩ := zkh b _ _ _ _ h
    exact ⟨n + 1, e⟩
  | c :: b, false, acc, t, r, h => by
    simp only [qd] at h
    by_cases h1 : c = 34
    · simp only [zDT h1, cond_true] at h
      by_cases h2 : hd b = 34
      · simp only [zDT h2, cond_true] at h
        obtain ⟨n, e⟩ := zkh b _ _ _ _ h
        exact ⟨n + 1, e⟩
      · simp only [zDF h2, cond_false] at h
        cases hv : Lib.validD acc with
        | true => rw [hv] at h; simp at h; exact ⟨1, h.2.symm⟩
        | false => rw [hv] at h; cases h
    · simp only [zDF h1, cond_false] at h
      obtain ⟨n, e⟩ := zkh b _ _ _ _ h
      exact ⟨n + 1, e⟩
theorem zoD {b t r : List UInt8} {k : Int} (h : oneS b = some (k, t, r)) : ∃ n, r = b.drop n := by
  unfold oneS at h
  simp only at h
  cases h1 : zaA (hd b) with
  | true =>
    rw [h1, cond_true] at h
    cases h2 : nmBad b with
    | true => rw [h2] at h; cases h
    | false =>
      rw [h2] at h
      simp only [cond_false, Option.some.injEq, Prod.mk.injEq] at h
      exact ⟨_, h.2.2.symm⟩
  | false =>
    rw [h1, cond_false] at h
    cases h2 : isDigit (hd b) || (decide (hd b = 45) && isDigit (hd (b.drop 1))) with
    | true =>
      rw [h2, cond_true] at h
      cases h3 : numLen b with
      | none => rw [h3] at h; cases h
      | some n =>
        rw [h3] at h
        simp only [Option.some.injEq, Prod.mk.injEq] at h
        exact ⟨_, h.2.2.symm⟩
    | false =>
      rw [h2, cond_false] at h
      by_cases h3 : hd b = 39
      · rw [zDT h3, cond_true] at h
        cases h4 : hexBad (b.drop 1) with
        | true => rw [h4] at h; cases h
        | false =>
          rw [h4] at h
          simp only [cond_false, Option.some.injEq, Prod.mk.injEq, List.drop_drop] at h
          exact ⟨_, h.2.2.symm⟩
      · rw [zDF h3, cond_false] at h
        by_cases h4 : hd b = 34
        · rw [zDT h4, cond_true] at h
          cases h5 : qd false (b.drop 1) [] with
          | none => rw [h5] at h; cases h
          | some q =>
            rw [h5] at h
            obtain ⟨t', r'⟩ := q
            simp only [Option.some.injEq, Prod.mk.injEq] at h
            obtain ⟨n, e⟩ := zkh _ _ _ _ _ h5
            rw [List.drop_drop] at e
            exact ⟨_, h.2.2.symm.trans e⟩
        · rw [zDF h4, cond_false] at h
          by_cases h5 : 0 < sg b
          · rw [zDT h5, cond_true] at h
            simp only [Option.some.injEq, Prod.mk.injEq] at h
            exact ⟨_, h.2.2.symm⟩
          · rw [zDF h5] at h; cases h
theorem zlx {b r : List UInt8} {n : Nat} (h : r = b.drop n) : b.drop (b.length - r.length) = r := by
  subst h
  rw [List.length_drop]
  rcases Nat.lt_or_ge b.length n with h2 | h2
  · rw [List.drop_eq_nil_of_le (show b.length ≤ n by omega), List.drop_eq_nil_of_le (by omega)]
  · congr 1; omega

theorem zhH (s : Str) : zcN s = some (toks s.b) := by
  refine tx ?_
  unfold zcN toks
  refine T.br (fun h => T.some ?_) fun h => ?_
  · have h := zOT h
    rw [zDT (show 8000 < s.b.length by omega)]; rfl
  have hl := zOF h
  rw [zDF (show ¬ 8000 < s.b.length by omega), cond_false]
  refine T.lp (ι := List GTok × Int) (fun (q : List GTok × Int) => 0 ≤ q.2 ∧ q.2 ≤ (s.b.length : Int) ∧ (q.1.length : Int) ≤ q.2 ∧ ∃ f, (s.b.drop q.2.toNat).length < f ∧ toksF s.b.length (s.b.length + 1) s.b [] = toksF s.b.length f (s.b.drop q.2.toNat) q.1) (fun (q : List GTok × Int) => ((s.b.length : Int) - q.2).toNat) ⟨Int.le_refl _, by dsimp only; omega, by simp, s.b.length + 1, by simp, rfl⟩ (by dsimp only; omega) fun L q hq hL => ?_
  obtain ⟨l, k⟩ := q
  obtain ⟨h1, h2, h3, f, h4, h5⟩ := hq
  simp only at h1 h2 h3 h4 h5 ⊢
  rw [h5] at hL ⊢
  cases f with
  | zero => omega
  | succ f =>
    have hwl := zfK (s.b.drop k.toNat) .out
    rw [List.length_drop] at hwl h4
    obtain ⟨nw, hw⟩ := zf7 (s.b.drop k.toNat) .out
    rw [List.drop_drop] at hw
    have hsw := zlx hw
    refine T.eq (znM s k h1 h2 (by omega)) ?_
    rw [zgW] at hL ⊢
    cases hwh : wh .out (s.b.drop k.toNat) with
    | nil =>
      simp only [hwh] at hL ⊢
      refine T.br (fun _ => T.abl (by simp only [List.length_cons, List.length_nil]; omega) (T.some rfl)) fun h6 => ?_
      have := zOF h6
      simp at this
    | cons c r =>
      simp only [hwh] at hL ⊢ 
      rw [hwh] at hwl hsw
      have hcl : 0 < (c :: r).length := by simp
      refine T.br (fun h6 => by have := zOT h6; omega) fun _ => ?_
      have hi : ((s.b.length : Int) - ((c :: r).length : Int)).toNat = s.b.length - (c :: r).length := by omega
      refine T.cal (zqi s ((s.b.length : Int) - ((c :: r).length : Int)) (by omega) (by omega) (by omega)) fun q _ hq => ?_
      rw [hi, hsw] at hq
      cases ho : oneS (c :: r) with
      | none =>
        rw [ho] at hq
        simp only [ho] at hL ⊢
        simp only at hq
        exact T.br (fun _ => T.some rfl) fun h7 => by have := zOF h7; omega
      | some p =>
        obtain ⟨kd, t, r'⟩ := p
        rw [ho] at hq
        simp only [ho] at hL ⊢
        simp only at hq
        subst hq
        have hol := zk8 ho
        obtain ⟨no, hso⟩ := zoD ho
        have hso2 : r' = s.b.drop (s.b.length - (c :: r).length + no) := by rw [hso, ← List.drop_drop, hsw]
        have hsd := zlx hso2
        refine T.br (fun h7 => by have := zOT h7; dsimp only at this; omega) fun _ => T.abl (by simp only [List.length_cons, List.length_nil]; omega) (hL _ ⟨by dsimp only; omega, by dsimp only; omega, ?_, f, ?_, ?_⟩ (by dsimp only; omega))
        · dsimp only; rw [List.length_append, List.length_singleton]; omega
        · dsimp only
          rw [show ((s.b.length : Int) - (r'.length : Int)).toNat = s.b.length - r'.length by omega, hsd]
          omega
        · dsimp only
          rw [show ((s.b.length : Int) - (r'.length : Int)).toNat = s.b.length - r'.length by omega, hsd]
end Go.Proofs.Q


namespace Go.Proofs.Q
open Go.Sy
set_option linter.unusedVariables false

inductive KT : List UInt8 → List (Int × List UInt8) → Prop
  | fin {b : List UInt8} : wh .out b = [] → KT b []
  | tok {b r r' t : List UInt8} {c : UInt8} {k : Int} {ks : List (Int × List UInt8)} : wh .out b = c :: r → oneS (c :: r) = some (k, t, r') → KT r' ks → KT b ((k, t) :: ks)
def kt (t : GTok) : Int × List UInt8 := (t.kind, t.text.b)
theorem znY {n : Nat} {b : List UInt8} {ks : List (Int × List UInt8)} (h : KT b ks) : ∀ f acc, b.length < f → ∃ l, toksF n f b acc = (acc ++ l, 0, 0) ∧ l.map kt = ks ++ [(0, [])] := by
  induction h with
  | @fin b h =>
    intro f acc hf
    obtain ⟨f, rfl⟩ : ∃ g, f = g + 1 := ⟨f - 1, by omega⟩
    rw [zgW, h]
    exact ⟨_, rfl, rfl⟩
  | @tok b r r' t c k ks h1 h2 _ ih =>
    intro f acc hf
    obtain ⟨f, rfl⟩ : ∃ g, f = g + 1 := ⟨f - 1, by omega⟩
    have h3 := zk8 h2
    have h4 := zfK b .out
    rw [h1] at h4
    obtain ⟨l, e1, e2⟩ := ih f (acc ++ [⟨k, ⟨t⟩, (n : Int) - ((c :: r).length : Int)⟩]) (by omega)
    rw [zgW, h1]
    simp only [h2]
    rw [e1]
    exact ⟨⟨k, ⟨t⟩, (n : Int) - ((c :: r).length : Int)⟩ :: l, by rw [List.append_assoc]; rfl, by rw [List.map_cons, e2]; rfl⟩
theorem zpj {b : List UInt8} {ks : List (Int × List UInt8)} (h : KT b ks) (hl : b.length ≤ 8000) : ∃ l, toks b = (l, 0, 0) ∧ l.map kt = ks ++ [(0, [])] := by
  unfold toks
  rw [zDF (show ¬ 8000 < b.length by omega), cond_false]
  obtain ⟨l, e1, e2⟩ := znY (n := b.length) h (b.length + 1) [] (by omega)
  exact ⟨l, by rw [e1, List.nil_append], e2⟩

/-! ### White -/
theorem KT.sp {b : List UInt8} {ks : List (Int × List UInt8)} (h : KT b ks) : KT (32 :: b) ks := by
  cases h with
  | fin h => exact .fin h
  | tok h1 h2 h3 => exact .tok h1 h2 h3
theorem zjO {c : UInt8} {r : List UInt8} (h1 : isWh c = false) (h2 : c ≠ 45 ∨ hd r ≠ 45) : wh .out (c :: r) = c :: r := by
  have e : (decide (c = 45) && decide (hd r = 45)) = false := by
    rcases h2 with h | h
    · rw [zDF h]; rfl
    · rw [zDF h, Bool.and_false]
  show (bif isWh c then wh .out r else bif decide (c = 45) && decide (hd r = 45) then wh .start r else c :: r) = _
  rw [h1, e]; rfl
theorem zpW {w x : List UInt8} : hd (w ++ x) = hd (w ++ [hd x]) := by
  cases w with
  | nil => rfl
  | cons c w => rfl

/-! ### Names -/
def nmAll : List UInt8 → UInt8 → Bool
  | [], _ => true
  | c :: w, d => inName c (w ++ [d]) && nmAll w d
def stopN : List UInt8 → Bool
  | [] => true
  | d :: r => !inName d r
theorem zm2 {c : UInt8} {r s : List UInt8} (h : hd r = hd s) : inName c r = inName c s := by unfold inName; rw [h]
theorem znL {x : List UInt8} (hs : stopN x = true) : ∀ {w : List UInt8}, nmAll w (hd x) = true → nm (w ++ x) = w.length
  | [], _ => by
    cases x with
    | nil => rfl
    | cons d r =>
      have : inName d r = false := by
        have hs2 : (!inName d r) = true := hs
        cases h : inName d r with
        | true => rw [h] at hs2; cases hs2
        | false => rfl
      show (bif inName d r then nm r + 1 else 0) = 0
      rw [this]; rfl
  | c :: w, h => by
    unfold nmAll at h
    rw [Bool.and_eq_true] at h
    show (bif inName c (w ++ x) then nm (w ++ x) + 1 else 0) = w.length + 1
    rw [zm2 zpW, h.1, znL hs h.2]; rfl
def kindN (w : List UInt8) : Int := bif isWord w then 5 else bif decide (hd w ≤ 90) then 1 else 2
theorem zfT {w x : List UInt8} (h : w ≠ []) : hd (w ++ x) = hd w := by
  cases w with
  | nil => exact absurd rfl h
  | cons c w => rfl
theorem zj4 {w : List UInt8} (h : zaA (hd w) = true) : w ≠ [] := fun e => by subst e; cases h
theorem zoc {w x : List UInt8} (h0 : zaA (hd w) = true) (h1 : nmAll w (hd x) = true) (h2 : stopN x = true) (h3 : w.getLast? ≠ some 45) (h4 : w.length ≤ 60) : oneS (w ++ x) = some (kindN w, w, x) := by
  have hn := znL h2 h1
  have hb : nmBad (w ++ x) = false := by
    unfold nmBad
    rw [hn, List.take_left, zDF h3, zDF (by omega)]; rfl
  unfold oneS
  simp only
  rw [zfT (zj4 h0), h0, hb, hn, List.take_left, List.drop_left]
  rfl
theorem zmU {c : UInt8} (h : zaA c = true) : isWh c = false ∧ c ≠ 45 := by
  unfold zaA at h
  unfold isWh
  simp only [Bool.or_eq_true, Bool.and_eq_true, decide_eq_true_eq, UInt8.le_iff_toNat_le] at h
  have e : ∀ n : UInt8, n.toNat ≤ 45 → c ≠ n := fun n hn e => by
    subst e
    have e1 : (97 : UInt8).toNat = 97 := rfl
    have e2 : (65 : UInt8).toNat = 65 := rfl
    omega
  rw [zDF (e 32 (by decide)), zDF (e 9 (by decide)), zDF (e 10 (by decide)), zDF (e 13 (by decide))]
  exact ⟨rfl, e 45 (by decide)⟩
theorem KT.name {w x : List UInt8} {ks : List (Int × List UInt8)} (h0 : zaA (hd w) = true) (h1 : nmAll w (hd x) = true) (h2 : stopN x = true) (h3 : w.getLast? ≠ some 45) (h4 : w.length ≤ 60) (h : KT x ks) : KT (w ++ x) ((kindN w, w) :: ks) := by
  cases hw : w with
  | nil => rw [hw] at h0; cases h0
  | cons c r =>
    have hc : zaA c = true := by rw [hw] at h0; exact h0
    obtain ⟨e1, e2⟩ := zmU hc
    have := zoc h0 h1 h2 h3 h4
    rw [hw] at this
    exact .tok (zjO e1 (.inl e2)) this h

/-! ### Numbers -/
def digs2 (d : List UInt8) : Bool := d.all isDigit
theorem zkt {x : List UInt8} (hs : isDigit (hd x) = false) : ∀ {d : List UInt8}, digs2 d = true → dg (d ++ x) = d.length
  | [], _ => by
    cases x with
    | nil => rfl
    | cons c r =>
      show (bif isDigit c then dg r + 1 else 0) = 0
      have : isDigit c = false := hs
      rw [this]; rfl
  | c :: d, h => by
    unfold digs2 at h
    rw [List.all_cons, Bool.and_eq_true] at h
    show (bif isDigit c then dg (d ++ x) + 1 else 0) = d.length + 1
    rw [h.1, zkt hs h.2]; rfl
def numOk (m : Bool) (d : List UInt8) : Bool := digs2 d && decide (1 ≤ d.length) && decide (d.length ≤ 19) && (decide (d.length ≤ 1) || !decide (hd d = 48)) && (!m || !decide (hd d = 48)) && decide ((uval d).toNat ≤ (if m then 9223372036854775808 else 9223372036854775807))
theorem ziq {m : Bool} {d x : List UInt8} (h : numOk m d = true) (h1 : isDigit (hd x) = false) (h2 : zaA (hd x) = false) : numBad m (d ++ x) = false := by
  unfold numOk at h
  simp only [Bool.and_eq_true, decide_eq_true_eq] at h
  obtain ⟨⟨⟨⟨⟨h3, h4⟩, h5⟩, h6⟩, h7⟩, h8⟩ := h
  have hne : d ≠ [] := fun e => by subst e; simp at h4
  have hn := zkt h1 h3
  unfold numBad
  rw [hn, zfT hne, List.drop_left, List.take_left, h2, zDF (show ¬ d.length < 1 by omega), zDF (show ¬ 19 < d.length by omega)]
  have e1 : (decide (1 < d.length) && decide (hd d = 48)) = false := by
    rw [Bool.or_eq_true] at h6
    rcases h6 with h | h
    · rw [zDF (by have := zOT h; omega)]; rfl
    · have : decide (hd d = 48) = false := by simpa using h
      rw [this, Bool.and_false]
  have e2 : (m && decide (hd d = 48)) = false := by
    rw [Bool.or_eq_true] at h7
    rcases h7 with h | h
    · have : m = false := by simpa using h
      rw [this]; rfl
    · have : decide (hd d = 48) = false := by simpa using h
      rw [this, Bool.and_false]
  have e3 : decide ((9223372036854775808 : UInt64) < uval d) = false := by
    refine zDF fun h => ?_
    have h := UInt64.lt_iff_toNat_lt.1 h
    have e : (9223372036854775808 : UInt64).toNat = 9223372036854775808 := rfl
    cases m with
    | true => rw [if_pos rfl] at h8; omega
    | false => rw [if_neg (by decide)] at h8; omega
  have e4 : (!m && decide (uval d = 9223372036854775808)) = false := by
    cases m with
    | true => rfl
    | false =>
      rw [if_neg (by decide)] at h8
      have : ¬ uval d = 9223372036854775808 := fun e => by
        rw [e] at h8
        have e : (9223372036854775808 : UInt64).toNat = 9223372036854775808 := rfl
        omega
      rw [zDF this]; rfl
  rw [e1, e2, e3, e4]; rfl
theorem zhL {c : UInt8} (h : isDigit c = true) : zaA c = false ∧ isWh c = false ∧ c ≠ 45 := by
  unfold isDigit at h
  simp only [Bool.and_eq_true, decide_eq_true_eq, UInt8.le_iff_toNat_le] at h
  have a1 : (48 : UInt8).toNat = 48 := rfl
  have a2 : (57 : UInt8).toNat = 57 := rfl
  have e : ∀ n : UInt8, n.toNat ≤ 45 → c ≠ n := fun n hn e => by subst e; omega
  refine ⟨?_, ?_, e 45 (by decide)⟩
  · unfold zaA
    have b1 : (97 : UInt8).toNat = 97 := rfl
    have b2 : (65 : UInt8).toNat = 65 := rfl
    rw [zDF (show ¬ (97 : UInt8) ≤ c from fun h => by have := UInt8.le_iff_toNat_le.1 h; omega), zDF (show ¬ (65 : UInt8) ≤ c from fun h => by have := UInt8.le_iff_toNat_le.1 h; omega)]; rfl
  · unfold isWh
    rw [zDF (e 32 (by decide)), zDF (e 9 (by decide)), zDF (e 10 (by decide)), zDF (e 13 (by decide))]; rfl
theorem zeb {m : Bool} {d : List UInt8} (h : numOk m d = true) : d ≠ [] := fun e => by subst e; cases m <;> cases h
theorem zgf {m : Bool} {d : List UInt8} (h : numOk m d = true) : isDigit (hd d) = true := by
  cases d with
  | nil => exact absurd rfl (zeb h)
  | cons c r =>
    unfold numOk digs2 at h
    simp only [Bool.and_eq_true, List.all_cons] at h
    exact h.1.1.1.1.1.1
theorem zo1 {d x : List UInt8} (h : numOk false d = true) (h1 : isDigit (hd x) = false) (h2 : zaA (hd x) = false) : oneS (d ++ x) = some (3, d, x) := by
  have hc := zgf h
  obtain ⟨e1, e2, e3⟩ := zhL hc
  have hn : numLen (d ++ x) = some d.length := by
    unfold numLen
    have hd2 : digs2 d = true := by
      unfold numOk at h
      simp only [Bool.and_eq_true] at h
      exact h.1.1.1.1.1
    rw [zfT (zeb h), zDF e3, cond_false, ziq h h1 h2, cond_false, zkt h1 hd2]
  unfold oneS
  simp only
  rw [zfT (zeb h), e1, hc, Bool.true_or, cond_true, cond_false, hn]
  simp only [List.take_left, List.drop_left]
theorem zpg {d x : List UInt8} (h : numOk true d = true) (h1 : isDigit (hd x) = false) (h2 : zaA (hd x) = false) : oneS (45 :: (d ++ x)) = some (3, 45 :: d, x) := by
  have hc := zgf h
  have hn : numLen (45 :: (d ++ x)) = some (d.length + 1) := by
    unfold numLen
    have hd2 : digs2 d = true := by
      unfold numOk at h
      simp only [Bool.and_eq_true] at h
      exact h.1.1.1.1.1
    show (bif numBad true (d ++ x) then none else some (dg (d ++ x) + 1)) = _
    rw [ziq h h1 h2, cond_false, zkt h1 hd2]
  unfold oneS
  have e : isDigit (hd ((45 :: (d ++ x)).drop 1)) = true := by
    show isDigit (hd (d ++ x)) = true
    rw [zfT (zeb h)]; exact hc
  simp only
  rw [show zaA (hd (45 :: (d ++ x))) = false from rfl, show isDigit (hd (45 :: (d ++ x))) = false from rfl, show decide (hd (45 :: (d ++ x)) = 45) = true from rfl, e, hn]
  show some (3, (45 :: (d ++ x)).take (d.length + 1), (45 :: (d ++ x)).drop (d.length + 1)) = _
  rw [List.take_succ_cons, List.drop_succ_cons, List.take_left, List.drop_left]
theorem KT.num {d x : List UInt8} {ks : List (Int × List UInt8)} (h : numOk false d = true) (h1 : isDigit (hd x) = false) (h2 : zaA (hd x) = false) (hk : KT x ks) : KT (d ++ x) ((3, d) :: ks) := by
  have := zo1 h h1 h2
  have hc := zgf h
  cases hw : d with
  | nil => exact absurd hw (zeb h)
  | cons c r =>
    rw [hw] at this hc
    obtain ⟨_, e2, e3⟩ := zhL hc
    exact .tok (zjO e2 (.inl e3)) this hk
theorem KT.neg {d x : List UInt8} {ks : List (Int × List UInt8)} (h : numOk true d = true) (h1 : isDigit (hd x) = false) (h2 : zaA (hd x) = false) (hk : KT x ks) : KT (45 :: (d ++ x)) ((3, 45 :: d) :: ks) := by
  have hc := zgf h
  refine .tok (zjO rfl (.inr ?_)) (zpg h h1 h2) hk
  rw [zfT (zeb h)]
  exact (zhL hc).2.2

/-! ### Signs -/
/-- May that stand behind a sign? -/
def sgN (s : List UInt8) (d : UInt8) : Bool := !(decide (s = [91]) && decide (d = 91)) && !(decide (s = [93]) && decide (d = 93)) && !(decide (s = [46, 46]) && decide (d = 46)) && !(decide (s = [58]) && decide (d = 58))
theorem zpY {s : List UInt8} (hs : s ∈ sgs) {x : List UInt8} (h : sgN s (hd x) = true) : sg (s ++ x) = s.length := by
  have n1 : ∀ (p c : UInt8) (r : List UInt8), hd r ≠ c → isPre [p, c] (p :: r) = false := fun p c r h => by
    cases r with
    | nil => show (bif decide (p = p) then false else false) = false; cases decide (p = p) <;> rfl
    | cons d r =>
      have : ¬ c = d := fun e => h e.symm
      show (bif decide (p = p) then (bif decide (c = d) then true else false) else false) = false
      rw [zDF this]; cases decide (p = p) <;> rfl
  have n2 : ∀ (p q c : UInt8) (r : List UInt8), hd r ≠ c → isPre [p, q, c] (p :: q :: r) = false := fun p q c r h => by
    cases r with
    | nil => show (bif decide (p = p) then (bif decide (q = q) then false else false) else false) = false; cases decide (p = p) <;> cases decide (q = q) <;> rfl
    | cons d r =>
      have : ¬ c = d := fun e => h e.symm
      show (bif decide (p = p) then (bif decide (q = q) then (bif decide (c = d) then true else false) else false) else false) = false
      rw [zDF this]; cases decide (p = p) <;> cases decide (q = q) <;> rfl
  have n3 : ∀ (p q c : UInt8) (r : List UInt8), hd r ≠ q → isPre [p, q, c] (p :: r) = false := fun p q c r h => by
    cases r with
    | nil => show (bif decide (p = p) then false else false) = false; cases decide (p = p) <;> rfl
    | cons d r =>
      have : ¬ q = d := fun e => h e.symm
      show (bif decide (p = p) then (bif decide (q = d) then isPre [c] r else false) else false) = false
      rw [zDF this]; cases decide (p = p) <;> rfl
  unfold sgN at h
  simp only [Bool.and_eq_true] at h
  obtain ⟨⟨⟨h1, h2⟩, h3⟩, h4⟩ := h
  have sp : ∀ {s' : List UInt8} {d : UInt8}, s = s' → (!(decide (s = s') && decide (hd x = d))) = true → hd x ≠ d := fun {s' d} e h hd => by
    rw [zDT e, zDT hd] at h; cases h
  simp only [sgs, List.mem_cons, List.not_mem_nil, or_false] at hs
  rcases hs with e | e | e | e | e | e | e | e | e | e | e | e | e
  · subst e; rfl
  · subst e; rfl
  · have := sp e h3
    subst e
    show (bif isPre [46, 46, 46] (46 :: 46 :: x) then 3 else 2) = 2
    rw [n2 _ _ _ _ this]; rfl
  · subst e; rfl
  · subst e; rfl
  · subst e; rfl
  · subst e; rfl
  · have := sp e h1
    subst e
    show (bif isPre [91, 91] (91 :: x) then 2 else 1) = 1
    rw [n1 _ _ _ this]; rfl
  · have := sp e h2
    subst e
    show (bif isPre [93, 93] (93 :: x) then 2 else 1) = 1
    rw [n1 _ _ _ this]; rfl
  · subst e; rfl
  · subst e; rfl
  · subst e; rfl
  · have := sp e h4
    subst e
    show (bif isPre [58, 58, 61] (58 :: x) then 3 else 1) = 1
    rw [n3 _ _ _ _ this]; rfl
theorem zoM {s : List UInt8} (hs : s ∈ sgs) {x : List UInt8} (h : sgN s (hd x) = true) : oneS (s ++ x) = some (6, s, x) ∧ wh .out (s ++ x) = s ++ x := by
  have hg := zpY hs h
  have hl : 0 < s.length := by
    simp only [sgs, List.mem_cons, List.not_mem_nil, or_false] at hs
    rcases hs with e | e | e | e | e | e | e | e | e | e | e | e | e <;> subst e <;> decide
  have key : (bif decide (0 < sg (s ++ x)) then some ((6 : Int), (s ++ x).take (sg (s ++ x)), (s ++ x).drop (sg (s ++ x))) else none) = some (6, s, x) := by
    rw [hg, zDT hl, cond_true, List.take_left, List.drop_left]
  simp only [sgs, List.mem_cons, List.not_mem_nil, or_false] at hs
  rcases hs with e | e | e | e | e | e | e | e | e | e | e | e | e <;> subst e <;> exact ⟨key, rfl⟩
theorem KT.sign {s : List UInt8} (hs : s ∈ sgs) {x : List UInt8} {ks : List (Int × List UInt8)} (h : sgN s (hd x) = true) (hk : KT x ks) : KT (s ++ x) ((6, s) :: ks) := by
  obtain ⟨h1, h2⟩ := zoM hs h
  cases hw : s ++ x with
  | nil => rw [hw] at h1; cases h1
  | cons c r =>
    rw [hw] at h1 h2
    exact .tok h2 h1 hk

def esc : List UInt8 → List UInt8
  | [] => []
  | c :: s => if c = 34 then 34 :: 34 :: esc s else c :: esc s
theorem zl0 {x : List UInt8} (hx : hd x ≠ 34) : ∀ (s acc : List UInt8), qd false (esc s ++ 34 :: x) acc = bif Lib.validD (acc ++ s) then some (acc ++ s, x) else none
  | [], acc => by
    show (bif decide ((34 : UInt8) = 34) then bif decide (hd x = 34) then qd true x acc else bif Lib.validD acc then some (acc, x) else none else _) = _
    rw [zDF hx, List.append_nil]; rfl
  | c :: s, acc => by
    by_cases hc : c = 34
    · subst hc
      have := zl0 hx s (acc ++ [34])
      rw [List.append_assoc] at this
      exact this
    · have := zl0 hx s (acc ++ [c])
      rw [List.append_assoc] at this
      unfold esc
      rw [if_neg hc]
      show (bif decide (c = 34) then _ else qd false (esc s ++ 34 :: x) (acc ++ [c])) = _
      rw [zDF hc]
      exact this
theorem zpu {s x : List UInt8} (hx : hd x ≠ 34) (hv : Lib.validD s = true) : oneS (34 :: (esc s ++ 34 :: x)) = some (7, s, x) := by
  have := zl0 hx s []
  rw [List.nil_append, hv, cond_true] at this
  show (match qd false (esc s ++ 34 :: x) [] with
    | none => none
    | some (t, r) => some ((7 : Int), t, r)) = _
  rw [this]
theorem KT.str {s x : List UInt8} {ks : List (Int × List UInt8)} (hx : hd x ≠ 34) (hv : Lib.validD s = true) (hk : KT x ks) : KT (34 :: (esc s ++ 34 :: x)) ((7, s) :: ks) :=
  .tok (zjO rfl (.inl (by decide))) (zpu hx hv) hk
end Go.Proofs.Q


namespace Go.Proofs.Q
open Go.Sy
set_option linter.unusedVariables false

abbrev KS := List (Int × List UInt8)
structure Sg (L : List GTok) (a : Int) (ks : KS) : Prop where
  a0 : 0 ≤ a
  len : L.length ≤ 9000
  dr : (L.drop a.toNat).map kt = ks ++ [(0, [])]
theorem Sg.get {L a k ks} (h : Sg L a (k :: ks)) : ∃ t, L[a.toNat]? = some t ∧ kt t = k := by
  have h1 := h.dr
  cases hd : L.drop a.toNat with
  | nil => rw [hd] at h1; cases h1
  | cons t r =>
    rw [hd] at h1
    have e : L[a.toNat]? = some t := by
      have := List.getElem?_drop (xs := L) (i := a.toNat) (j := 0)
      rw [hd] at this
      simpa using this.symm
    exact ⟨t, e, (List.cons.inj h1).1⟩
theorem Sg.end_ {L a} (h : Sg L a []) : ∃ t, L[a.toNat]? = some t ∧ t.kind = 0 := by
  have h1 := h.dr
  cases hd : L.drop a.toNat with
  | nil => rw [hd] at h1; cases h1
  | cons t r =>
    rw [hd] at h1
    have e : L[a.toNat]? = some t := by
      have := List.getElem?_drop (xs := L) (i := a.toNat) (j := 0)
      rw [hd] at this
      simpa using this.symm
    exact ⟨t, e, congrArg Prod.fst (List.cons.inj h1).1⟩
theorem Sg.size {L a ks} (h : Sg L a ks) : a.toNat + ks.length + 1 = L.length := by
  have h1 := congrArg List.length h.dr
  simp only [List.length_map, List.length_drop, List.length_append, List.length_singleton] at h1
  omega
theorem Sg.tl {L a k ks} (h : Sg L a (k :: ks)) : Sg L (a + 1) ks := by
  refine ⟨by have := h.a0; omega, h.len, ?_⟩
  have h1 := h.dr
  have e : (a + 1).toNat = a.toNat + 1 := by have := h.a0; omega
  rw [e, ← List.drop_drop, List.map_drop, h1]; rfl
theorem Sg.app {L a} : ∀ {xs ks : KS}, Sg L a (xs ++ ks) → Sg L (a + xs.length) ks := by
  intro xs
  induction xs generalizing a with
  | nil => intro ks h; simpa using h
  | cons x xs ih =>
    intro ks h
    have := ih (ks := ks) (Sg.tl (k := x) h)
    rw [List.length_cons]
    rw [show a + ((xs.length + 1 : Nat) : Int) = a + 1 + (xs.length : Int) by omega]; exact this
theorem zmt {t : GTok} {k s} (h : kt t = (k, s)) : t.kind = k ∧ t.text = ⟨s⟩ := by
  unfold kt at h
  injection h with h1 h2
  exact ⟨h1, by cases ht : t.text with | mk b => rw [ht] at h2; exact congrArg Str.mk h2⟩
theorem zfA {α : Type} {L : List α} {a : Int} {t : α} (h0 : 0 ≤ a) (h : L[a.toNat]? = some t) : getI L a = some t := by
  unfold getI
  cases a with
  | ofNat n => exact h
  | negSucc n => omega

section small
variable {L : List GTok} {a : Int} {m : GMod} {ks : KS} {k : Int} {s t : List UInt8} {p : Int}
theorem zfz (h : Sg L a ((k, t) :: ks)) {e : Int} : ∃ y, zah ⟨L, a, m, e, p⟩ = some (y, ⟨L, a, m, e, p⟩) ∧ y.kind = k ∧ y.text = ⟨t⟩ := by
  obtain ⟨y, h1, h2⟩ := h.get
  refine ⟨y, ?_, zmt h2⟩
  unfold zah
  dsimp only
  rw [zfA h.a0 h1]; rfl
theorem zmQ (h : Sg L a ((k, t) :: ks)) {e : Int} : ∃ y, zaK ⟨L, a, m, e, p⟩ = some (y, ⟨L, a + 1, m, e, p⟩) ∧ y.kind = k ∧ y.text = ⟨t⟩ := by
  obtain ⟨y, h1, h2⟩ := h.get
  refine ⟨y, ?_, zmt h2⟩
  have hs := h.size
  have h0 := h.a0
  have hl := h.len
  simp only [List.length_cons] at hs
  refine T.fin ?_
  unfold zaK
  refine T.eq (zfA h.a0 h1) (T.ck (by dsimp only; omega) (T.jp0 (T.br (fun _ => T.ck (by dsimp only; omega) (T.some rfl)) fun h3 => ?_)))
  have h3 := zOF h3
  exact absurd (by dsimp only; omega) h3
def isK (k : Int) (t s : List UInt8) : Bool := (decide (k = 5) || decide (k = 6)) && decide (t = s)
theorem zdm (h : Sg L a ((k, t) :: ks)) (hn : isK k t s = false) : zF ⟨L, a, m, 0, p⟩ ⟨s⟩ = some (false, ⟨L, a, m, 0, p⟩) := by
  obtain ⟨y, h1, h2, h3⟩ := zfz (m := m) (p := p) (e := 0) h
  unfold isK at hn
  refine T.fin ?_
  unfold zF
  refine T.eq h1 ?_
  dsimp only
  rw [h2, h3]
  refine T.jp (fun b => b = (decide (k = 5) || decide (k = 6))) (fun J hJ => T.br (fun _ => T.jp0 (T.br (fun h => hJ _ (by rw [h]; rfl)) fun h => hJ _ (by rw [h]; rfl))) fun h => by cases h) fun b hb => ?_
  subst hb
  refine T.jp (fun b => b = false) (fun J hJ => T.br (fun h => hJ _ ?_) fun h => hJ _ rfl) fun b hb => ?_
  · rw [h] at hn
    refine zDF fun e => ?_
    injection e with e
    rw [zDT e] at hn; cases hn
  · subst hb; exact T.some rfl
theorem zcY (h : Sg L a ((k, s) :: ks)) (hk : (decide (k = 5) || decide (k = 6)) = true) : zF ⟨L, a, m, 0, p⟩ ⟨s⟩ = some (true, ⟨L, a + 1, m, 0, p⟩) := by
  obtain ⟨y, h1, h2, h3⟩ := zfz (m := m) (p := p) (e := 0) h
  obtain ⟨y', h4, _⟩ := zmQ (m := m) (p := p) (e := 0) h
  refine T.fin ?_
  unfold zF
  refine T.eq h1 ?_
  dsimp only
  rw [h2, h3]
  refine T.jp (fun b => b = true) (fun J hJ => T.br (fun _ => T.jp0 (T.br (fun h => hJ _ rfl) fun h => hJ _ (by rw [h] at hk; simpa using hk))) fun h => by cases h) fun b hb => ?_
  subst hb
  refine T.jp (fun b => b = true) (fun J hJ => T.br (fun h => hJ _ (zDT rfl)) fun h => by cases h) fun b hb => ?_
  subst hb
  refine T.br (fun _ => T.eq h4 (T.some rfl)) fun h => by cases h
theorem zcC (h : Sg L a ((k, s) :: ks)) (hk : (decide (k = 5) || decide (k = 6)) = true) : zO ⟨L, a, m, 0, p⟩ ⟨s⟩ = some ⟨L, a + 1, m, 0, p⟩ := by
  refine T.fin ?_
  unfold zO
  refine T.jp0 (T.br (fun _ => T.eq (zcY h hk) ?_) fun h => by cases h)
  exact T.br (fun h => by cases h) fun _ => T.some rfl
theorem zge (h : Sg L a ((k, s) :: ks)) : zaJ ⟨L, a, m, 0, p⟩ k = some (⟨s⟩, ⟨L, a + 1, m, 0, p⟩) := by
  obtain ⟨y, h1, h2, h3⟩ := zfz (m := m) (p := p) (e := 0) h
  obtain ⟨y', h4, h5, h6⟩ := zmQ (m := m) (p := p) (e := 0) h
  refine T.fin ?_
  unfold zaJ
  refine T.eq h1 ?_
  dsimp only
  rw [h2]
  refine T.jp (fun b => b = false) (fun J hJ => T.br (fun h => by cases h) fun _ => hJ _ (by rw [zDT rfl]; rfl)) fun b hb => ?_
  subst hb
  refine T.br (fun h => by cases h) fun _ => T.eq h4 (T.some ?_)
  rw [h6]
theorem zma {v : Int} (h : Sg L a ((3, s) :: ks)) (hs : s ≠ []) (hv : zcP ⟨s⟩ = some v) : zaR ⟨L, a, m, 0, p⟩ = some (v, ⟨L, a + 1, m, 0, p⟩) := by
  refine T.fin ?_
  unfold zaR
  refine T.eq (zge h) (T.br (fun h => ?_) fun _ => T.eq hv (T.some rfl))
  have h := zOT h
  injection h with h
  exact absurd h hs
end small

/-! ### Bounds and sizes -/
section bounds
variable {L : List GTok} {a : Int} {m : GMod} {ks : KS}
structure Num (s : List UInt8) (v : Int) : Prop where
  ne : s ≠ []
  val : zcP ⟨s⟩ = some v
end bounds
end Go.Proofs.Q


namespace Go.Proofs.Q
open Go.Sy
set_option linter.unusedVariables false

def zm (μ : GMark) : GNode := ⟨0, ⟨[]⟩, μ, ⟨false, false, false, false, 0, 0⟩, [], [], 0, false, 0⟩
@[reducible] def noM : GMark := ⟨false, 0, 0⟩
def addN (m : GMod) (ns : List GNode) : GMod := ⟨m.name, m.tagging, m.names, m.types, m.nodes ++ ns⟩
theorem ziv (m : GMod) : addN m [] = m := by unfold addN; rw [List.append_nil]
theorem zgw (m : GMod) (a b : List GNode) : addN (addN m a) b = addN m (a ++ b) := by unfold addN; dsimp only; rw [List.append_assoc]
theorem zej (m : GMod) (a : List GNode) : (addN m a).nodes.length = m.nodes.length + a.length := by unfold addN; dsimp only; rw [List.length_append]

structure TypK (h : Nat) (ts : KS) (sz : Nat) (ns : Nat → List GNode) : Prop where
  len : ∀ i, (ns i).length = sz
  go : ∀ {n : Nat} {d : Int} {L : List GTok} {a : Int} {m : GMod} {k : Int} {t : List UInt8} {ks : KS}, 4 * h ≤ n → 0 ≤ d → d + h ≤ 17 → Sg L a (ts ++ (k, t) :: ks) → isK k t [40] = false → m.nodes.length + sz ≤ 300 →
    zaz n ⟨L, a, m, 0, 0⟩ d = some ((m.nodes.length : Int), ⟨L, a + ts.length, addN m (ns m.nodes.length), 0, 0⟩)
structure BaseK (h : Nat) (ts : KS) (sz : Nat) (ns : Nat → List GNode) (f : GMark → Nat → GNode) : Prop where
  len : ∀ i, (ns i).length = sz
  go : ∀ {n : Nat} {d : Int} {L : List GTok} {a : Int} {m : GMod} {k : Int} {t : List UInt8} {ks : KS} (μ : GMark), 4 * h + 3 ≤ n → 0 ≤ d → d + h ≤ 16 → Sg L a (ts ++ (k, t) :: ks) → isK k t [40] = false → m.nodes.length + sz ≤ 300 →
    zaM n ⟨L, a, m, 0, 0⟩ (zm μ) d = some (⟨L, a + ts.length, addN m (ns m.nodes.length), 0, 0⟩, f μ m.nodes.length)
def Beg (k : Int) (t : List UInt8) : Prop := ∀ y : GTok, y.kind = k → y.text = ⟨t⟩ → zd0 y = some true
theorem zmm {α : Type} (p : List α) (x y : α) (r : List α) : (p ++ x :: r).set p.length y = p ++ y :: r := by
  rw [List.set_append_right _ _ (Nat.le_refl _), Nat.sub_self]; rfl
theorem zgV {α : Type} (p : List α) (x : α) (r : List α) : (p ++ x :: r)[p.length]? = some x := by
  rw [List.getElem?_append_right (Nat.le_refl _), Nat.sub_self]; rfl
theorem zmB (n : Nat) : zaz (n + 1) = zbt (zaB n) (zaz n) (zaM n) (zaC n) := rfl
theorem zmM {h : Nat} {bts : KS} {sz : Nat} {ns : Nat → List GNode} {f : GMark → Nat → GNode} (hb : BaseK h bts sz ns f) {n : Nat} {d : Int} {L : List GTok} {a : Int} {m : GMod} {k : Int} {t : List UInt8} {ks : KS} (μ : GMark) (h1 : 4 * h + 3 ≤ n) (h2 : 0 ≤ d) (h3 : d + h ≤ 16) (hA : Sg L a (bts ++ (k, t) :: ks)) (hk : isK k t [40] = false) (hm : m.nodes.length + (sz + 1) ≤ 300) (z : GNode) :
    T (fun r => r = ((m.nodes.length : Int), (⟨L, a + bts.length, addN m (f μ (m.nodes.length + 1) :: ns (m.nodes.length + 1)), 0, 0⟩ : GPar)))
      (cal (zaM n ⟨L, a, addN m [z], 0, 0⟩ (zm μ) d) fun y63 => br (!decide (y63.1.e = (0 : Int))) (some ((0 : Int), y63.1)) (asr (decide (0 ≤ ((m.nodes.length : Nat) : Int) ∧ ((m.nodes.length : Nat) : Int) < ((y63.1.m.nodes.length : Nat) : Int))) <| cal (y63.1.m.nodes[((m.nodes.length : Nat) : Int).toNat]?) fun y74 => some (((m.nodes.length : Nat) : Int), (GPar.mk y63.1.l y63.1.at_ (GMod.mk y63.1.m.name y63.1.m.tagging y63.1.m.names y63.1.m.types (y63.1.m.nodes.set (((m.nodes.length : Nat) : Int).toNat) y63.2)) y63.1.e y63.1.p)))) := by
  have e1 : (addN m [z]).nodes.length = m.nodes.length + 1 := by rw [zej]; rfl
  have hg := hb.go μ h1 h2 h3 hA hk (m := addN m [z]) (by rw [e1]; omega)
  rw [e1, zgw] at hg
  refine T.eq hg (T.brF rfl (T.asd ⟨by omega, ?_⟩ ?_))
  · dsimp only
    rw [zej]; simp only [List.length_append, List.length_cons]; omega
  · have e2 : (addN m ([z] ++ ns (m.nodes.length + 1))).nodes = m.nodes ++ z :: ns (m.nodes.length + 1) := rfl
    dsimp only
    rw [Int.toNat_natCast, e2, zgV, zmm]
    exact T.some rfl
theorem zp4 {h : Nat} {k0 : Int} {t0 : List UInt8} {bts : KS} {sz : Nat} {ns : Nat → List GNode} {f : GMark → Nat → GNode} (hb : BaseK h ((k0, t0) :: bts) sz ns f) (hg : Beg k0 t0) (hn : isK k0 t0 [91] = false) :
    TypK (h + 1) ((k0, t0) :: bts) (sz + 1) (fun i => f noM (i + 1) :: ns (i + 1)) := by
  refine ⟨fun i => by rw [List.length_cons, hb.len], ?_⟩
  intro n d L a m k t ks h1 h2 h3 hA hk hm
  obtain ⟨n, rfl⟩ : ∃ n', n = n' + 1 := ⟨n - 1, by omega⟩
  rw [zmB]
  obtain ⟨y, e1, e2, e3⟩ := zfz (m := m) (p := 0) (e := 0) hA
  refine T.fin ?_
  unfold zbt
  refine T.brF rfl (T.eq e1 (T.eq (hg y e2 e3) (T.brF rfl ?_)))
  refine T.jp (fun b => b = false) (fun J hJ => T.brF (zDF (by omega)) (hJ _ (zDF (by dsimp only; omega)))) fun b hb' => T.brF hb' ?_
  refine T.abl (by dsimp only; simp only [List.length_singleton]; omega) (T.eq (zdm hA hn) (T.jp0 (T.brF rfl ?_)))
  exact zmM hb noM (by omega) h2 (by omega) hA hk (by omega) _
theorem zp7 {h : Nat} {k0 : Int} {t0 ds : List UInt8} {v : Int} {bts : KS} {sz : Nat} {ns : Nat → List GNode} {f : GMark → Nat → GNode} (hb : BaseK h ((k0, t0) :: bts) sz ns f) (hv : Num ds v) (h0 : 0 ≤ v) (h9 : v ≤ 268435456)
    (hn : isK k0 t0 [69, 88, 80, 76, 73, 67, 73, 84] = false) (hn2 : isK k0 t0 [73, 77, 80, 76, 73, 67, 73, 84] = false) :
    TypK (h + 1) ((6, [91]) :: (3, ds) :: (6, [93]) :: (k0, t0) :: bts) (sz + 1) (fun i => f ⟨true, v, 0⟩ (i + 1) :: ns (i + 1)) := by
  refine ⟨fun i => by rw [List.length_cons, hb.len], ?_⟩
  intro n d L a m k t ks h1 h2 h3 hA hk hm
  obtain ⟨n, rfl⟩ : ∃ n', n = n' + 1 := ⟨n - 1, by omega⟩
  rw [zmB]
  obtain ⟨y, e1, e2, e3⟩ := zfz (m := m) (p := 0) (e := 0) hA
  have hbg : Beg 6 [91] := fun ⟨_, _, _⟩ h1 h2 => by
    dsimp only at h1 h2; subst h1; subst h2; kernel_rfl
  have a1 := Sg.tl hA
  have a2 := Sg.tl a1
  have a3 : Sg L (a + 1 + 1 + 1) (((k0, t0) :: bts) ++ (k, t) :: ks) := Sg.tl a2
  refine T.fin ?_
  unfold zbt
  refine T.brF rfl (T.eq e1 (T.eq (hbg y e2 e3) (T.brF rfl ?_)))
  refine T.jp (fun b => b = false) (fun J hJ => T.brF (zDF (by omega)) (hJ _ (zDF (by dsimp only; omega)))) fun b hb' => T.brF hb' ?_
  have hz : ∃ z : GNode, z = (GNode.mk (0 : Int) (Str.mk []) (GMark.mk false (0 : Int) (0 : Int)) (GCon.mk false false false false (0 : Int) (0 : Int)) ([] : (List GItem)) ([] : (List GFld)) (0 : Int) false (0 : Int)) := ⟨_, rfl⟩
  obtain ⟨z, hz⟩ := hz
  rw [← hz]
  refine T.abl (by dsimp only; simp only [List.length_singleton]; omega) (T.eq (zcY hA rfl) (T.jp0 (T.brT rfl ?_)))
  obtain ⟨y2, f1, f2, f3⟩ := zfz (m := addN m [z]) (p := 0) (e := 0) a1
  refine T.eq f1 (T.eq (zma a1 hv.ne hv.val) ?_)
  refine T.jp (fun b => b = false) (fun J hJ => T.brT rfl (T.jp (fun b => b = false) (fun J2 hJ2 => T.brF (zDF (by dsimp only; omega)) (hJ2 _ (zDF (by dsimp only; omega)))) fun b hb => hJ _ hb)) fun b hb' => ?_
  refine T.jp0 (T.brF hb' (T.eq (zcC a2 rfl) (T.eq (zdm a3 hn) (T.brF rfl (T.eq (zdm a3 hn2) (T.brF rfl ?_))))))
  have := zmM hb ⟨true, v, 0⟩ (n := n) (d := d) (m := m) (by omega) h2 (by omega) a3 hk (by omega) z
  have e : a + (((6, [91]) :: (3, ds) :: (6, [93]) :: (k0, t0) :: bts : KS).length : Int) = a + 1 + 1 + 1 + (((k0, t0) :: bts : KS).length : Int) := by
    simp only [List.length_cons]; omega
  rw [e]
  exact this

/-! ### Bases -/
section bases
variable {n : Nat}
theorem zk2 (n : Nat) : zaM (n + 1) = zbj (zaB n) (zaz n) (zaM n) (zaC n) := rfl
theorem znv : BaseK 0 [(5, [78, 85, 76, 76])] 0 (fun _ => []) (fun μ _ => { zm μ with kind := 4 }) := by
  refine ⟨fun _ => rfl, ?_⟩
  intro n d L a m k t ks μ h1 h2 h3 hA hk hm
  obtain ⟨n, rfl⟩ : ∃ n', n = n' + 1 := ⟨n - 1, by omega⟩
  rw [zk2, ziv]
  obtain ⟨y, e1, e2, e3⟩ := zfz (m := m) (p := 0) (e := 0) hA
  refine T.fin ?_
  unfold zbj
  exact T.eq e1 (T.brF rfl (T.eq (zdm hA rfl) (T.brF rfl (T.eq (zcY hA rfl) (T.brT rfl (T.some rfl))))))
end bases
end Go.Proofs.Q


namespace Go.Proofs.Q
open Go.Sy
set_option linter.unusedVariables false

structure Fl where
  name : List UInt8
  ts : KS
  sz : Nat
  ns : Nat → List GNode
  tail : KS
  opt : Bool
  has : Bool
  df : Val
def Fl.toks (f : Fl) : KS := (2, f.name) :: (f.ts ++ f.tail)
def Fl.fl (f : Fl) (g : Int) (i : Nat) : GFld := ⟨⟨f.name⟩, (i : Int), f.opt, f.has, f.df, g⟩
@[reducible] def zv : Val := Val.mk 0 0 [] [] 0 []
def addF (n : GNode) (f : GFld) : GNode := ⟨n.kind, n.name, n.mark, n.con, n.items, n.fields ++ [f], n.root, n.more, n.of⟩
structure Sep (k : Int) (t : List UInt8) : Prop where
  par : isK k t [40] = false
  opt : isK k t [79, 80, 84, 73, 79, 78, 65, 76] = false
  dft : isK k t [68, 69, 70, 65, 85, 76, 84] = false
theorem zjv : Sep 6 [44] := ⟨rfl, rfl, rfl⟩
theorem zm5 : Sep 6 [125] := ⟨rfl, rfl, rfl⟩
theorem znu : Sep 6 [93, 93] := ⟨rfl, rfl, rfl⟩
structure FldK (h : Nat) (kind : Int) (f : Fl) : Prop where
  len : ∀ i, (f.ns i).length = f.sz
  go : ∀ {n : Nat} {d : Int} {L : List GTok} {a : Int} {m : GMod} {k : Int} {t : List UInt8} {ks : KS} {nd : GNode} {g : Int}, 4 * h + 1 ≤ n → 0 ≤ d → d + h ≤ 16 → Sg L a (f.toks ++ (k, t) :: ks) → Sep k t → m.nodes.length + f.sz ≤ 300 → nd.kind = kind → nd.fields.length ≤ 1000 →
    zaB n ⟨L, a, m, 0, 0⟩ nd d g = some (⟨L, a + f.toks.length, addN m (f.ns m.nodes.length), 0, 0⟩, addF nd (f.fl g m.nodes.length))
theorem zjK (n : Nat) : zaB (n + 1) = zba (zaB n) (zaz n) (zaM n) (zaC n) := rfl
theorem zlF (n : Nat) : zaC (n + 1) = zbf (zaB n) (zaz n) (zaM n) (zaC n) := rfl
theorem znw {h sz : Nat} {ts : KS} {ns : Nat → List GNode} (hT : TypK h ts sz ns) (kind : Int) (nm : List UInt8) : FldK h kind ⟨nm, ts, sz, ns, [], false, false, zv⟩ := by
  refine ⟨hT.len, ?_⟩
  intro n d L a m k t ks nd g h1 h2 h3 hA hs hm hk hf
  obtain ⟨n, rfl⟩ : ∃ n', n = n' + 1 := ⟨n - 1, by omega⟩
  have a1 : Sg L (a + 1) (ts ++ (k, t) :: ks) := by
    have := Sg.tl hA
    simpa using this
  have a2 := a1.app
  rw [zjK]
  refine T.fin ?_
  unfold zba
  refine T.eq (zge hA) (T.ck (by omega) (T.eq (hT.go (by omega) (by omega) (by omega) a1 hs.par hm) ?_))
  refine T.jp (fun q => q = ((⟨⟨nm⟩, (m.nodes.length : Int), false, false, zv, g⟩ : GFld), (⟨L, a + 1 + ts.length, addN m (ns m.nodes.length), 0, 0⟩ : GPar))) (fun J hJ => T.br (fun _ => hJ _ rfl) fun _ => T.eq (zdm a2 hs.opt) (T.brF rfl (T.eq (zdm a2 hs.dft) (T.brF rfl (hJ _ rfl))))) fun q hq => ?_
  subst hq
  refine T.abl (by simp only [List.length_singleton]; omega) (T.some ?_)
  have e : a + ((Fl.toks ⟨nm, ts, sz, ns, [], false, false, zv⟩).length : Int) = a + 1 + (ts.length : Int) := by
    unfold Fl.toks; simp only [List.length_cons, List.length_append, List.length_nil]; omega
  rw [e]; rfl
theorem zpe {h sz : Nat} {ts : KS} {ns : Nat → List GNode} (hT : TypK h ts sz ns) {kind : Int} (h9 : kind ≠ 9) (nm : List UInt8) : FldK h kind ⟨nm, ts, sz, ns, [(5, [79, 80, 84, 73, 79, 78, 65, 76])], true, false, zv⟩ := by
  refine ⟨hT.len, ?_⟩
  intro n d L a m k t ks nd g h1 h2 h3 hA hs hm hk hf
  obtain ⟨n, rfl⟩ : ∃ n', n = n' + 1 := ⟨n - 1, by omega⟩
  have a1 : Sg L (a + 1) (ts ++ (5, [79, 80, 84, 73, 79, 78, 65, 76]) :: (k, t) :: ks) := by
    have := Sg.tl hA
    simpa using this
  have a2 := a1.app
  rw [zjK]
  refine T.fin ?_
  unfold zba
  refine T.eq (zge hA) (T.ck (by omega) (T.eq (hT.go (by omega) (by omega) (by omega) a1 rfl hm) ?_))
  refine T.jp0 (T.brF (zDF (by rw [hk]; exact h9)) (T.eq (zcY a2 rfl) (T.brT rfl ?_)))
  refine T.abl (by simp only [List.length_singleton]; omega) (T.some ?_)
  have e : a + ((Fl.toks ⟨nm, ts, sz, ns, [(5, [79, 80, 84, 73, 79, 78, 65, 76])], true, false, zv⟩).length : Int) = a + 1 + (ts.length : Int) + 1 := by
    unfold Fl.toks; simp only [List.length_cons, List.length_append, List.length_nil]; omega
  rw [e]; rfl
/-! ### Some of them, with commas -/
def sepK : List KS → KS
  | [] => []
  | [x] => x
  | x :: y :: r => x ++ (6, [44]) :: sepK (y :: r)
def Fl.stp (g : Int) (s : GMod × GNode) (f : Fl) : GMod × GNode := (addN s.1 (f.ns s.1.nodes.length), addF s.2 (f.fl g s.1.nodes.length))
def szL (l : List Fl) : Nat := (l.map Fl.sz).sum
theorem zqn {h : Nat} {kind : Int} {n : Nat} {d g : Int} {L : List GTok} {k : Int} {t : List UInt8} {ks : KS} {β : Type} {R : β → Prop} {J : GPar × GNode → Option β}
    (hn : 4 * h + 1 ≤ n) (hd : 0 ≤ d) (hdh : d + h ≤ 16) (hs : Sep k t) (hc : isK k t [44] = false) {fls : List Fl} {a : Int} {m : GMod} {nd : GNode} (hne : fls ≠ [])
    (hA : Sg L a (sepK (fls.map Fl.toks) ++ (k, t) :: ks)) (hm : m.nodes.length + szL fls ≤ 300) (hk : nd.kind = kind) (hf : nd.fields.length + fls.length ≤ 1000) (hF : ∀ f ∈ fls, FldK h kind f)
    (hJ : T R (J (⟨L, a + (sepK (fls.map Fl.toks)).length, (fls.foldl (Fl.stp g) (m, nd)).1, 0, 0⟩, (fls.foldl (Fl.stp g) (m, nd)).2))) :
    T R (lp (ι := GPar × GNode) (fun L81 q80 => br (decide (q80.1.e = (0 : Int))) (cal (zaB n q80.1 q80.2 d g) fun y91 => cal (zF y91.1 (Str.mk [44])) fun y97 => br (!y97.1) (J (y97.2, y91.2)) (L81 (y97.2, y91.2))) (J (q80.1, q80.2))) ((⟨L, a, m, 0, 0⟩, nd))) := by
  let I : GPar × GNode → Prop := fun q => ∃ (rest : List Fl) (a1 : Int) (m1 : GMod) (nd1 : GNode), q = (⟨L, a1, m1, 0, 0⟩, nd1) ∧ rest ≠ [] ∧ Sg L a1 (sepK (rest.map Fl.toks) ++ (k, t) :: ks) ∧ a1 + (sepK (rest.map Fl.toks)).length = a + (sepK (fls.map Fl.toks)).length ∧ rest.foldl (Fl.stp g) (m1, nd1) = fls.foldl (Fl.stp g) (m, nd) ∧ m1.nodes.length + szL rest ≤ 300 ∧ nd1.kind = kind ∧ nd1.fields.length + rest.length ≤ 1000 ∧ (∀ f ∈ rest, FldK h kind f)
  have hI0 : I (⟨L, a, m, 0, 0⟩, nd) := ⟨fls, a, m, nd, rfl, hne, hA, rfl, rfl, hm, hk, hf, hF⟩
  refine T.lp I (fun q => ((L.length : Int) - q.1.at_).toNat) hI0 (by have := hA.a0; have := hA.len; dsimp only; omega) fun L2 q hq hL => ?_
  obtain ⟨rest, a1, m1, nd1, rfl, hne1, hA1, ha1, hfo, hm1, hk1, hf1, hF1⟩ := hq
  dsimp only at hL ⊢
  refine T.brT rfl ?_
  cases rest with
  | nil => exact absurd rfl hne1
  | cons f r =>
    have hfk := hF1 f (List.mem_cons_self ..)
    have hsz : szL (f :: r) = f.sz + szL r := by unfold szL; simp
    rw [List.length_cons] at hf1
    cases r with
    | nil =>
      have hA2 : Sg L a1 (f.toks ++ (k, t) :: ks) := hA1
      refine T.eq (hfk.go hn hd hdh hA2 hs (by omega) hk1 (by omega)) (T.eq (zdm hA2.app hc) (T.brT rfl ?_))
      have e1 : a1 + (f.toks.length : Int) = a + (sepK (fls.map Fl.toks)).length := ha1
      have e2 : (addN m1 (f.ns m1.nodes.length), addF nd1 (f.fl g m1.nodes.length)) = fls.foldl (Fl.stp g) (m, nd) := hfo
      rw [← e1, ← e2] at hJ
      exact hJ
    | cons f2 r =>
      have hA2 : Sg L a1 (f.toks ++ (6, [44]) :: (sepK ((f2 :: r).map Fl.toks) ++ (k, t) :: ks)) := by
        have e : sepK ((f :: f2 :: r).map Fl.toks) ++ (k, t) :: ks = f.toks ++ (6, [44]) :: (sepK ((f2 :: r).map Fl.toks) ++ (k, t) :: ks) := by
          show (f.toks ++ (6, [44]) :: sepK ((f2 :: r).map Fl.toks)) ++ (k, t) :: ks = _
          rw [List.append_assoc]; rfl
        rw [e] at hA1; exact hA1
      have hA3 := hA2.app
      refine T.eq (hfk.go hn hd hdh hA2 zjv (by omega) hk1 (by omega)) (T.eq (zcY hA3 rfl) (T.brF rfl (hL _ ⟨f2 :: r, _, _, _, rfl, by simp, hA3.tl, ?_, hfo, ?_, hk1, ?_, fun x hx => hF1 x (List.mem_cons_of_mem _ hx)⟩ ?_)))
      · have e : (sepK ((f :: f2 :: r).map Fl.toks)).length = f.toks.length + ((sepK ((f2 :: r).map Fl.toks)).length + 1) := by
          show (f.toks ++ (6, [44]) :: sepK ((f2 :: r).map Fl.toks)).length = _
          rw [List.length_append, List.length_cons]
        rw [e] at ha1
        omega
      · rw [zej, hfk.len]; omega
      · unfold addF; dsimp only; rw [List.length_append, List.length_singleton]; rw [List.length_cons] at hf1 ⊢; omega
      · have := hA3.size
        have := hA3.a0
        have := hA1.a0
        dsimp only
        omega

/-! ### What stands within a bracket -/
inductive FI where
  | one (x : Fl)
  | dots
  | grp (l : List Fl)
def FI.toks : FI → KS
  | .one x => x.toks
  | .dots => [(6, [46, 46, 46])]
  | .grp l => (6, [91, 91]) :: (sepK (l.map Fl.toks) ++ [(6, [93, 93])])
def FI.stp (s : Int × GMod × GNode) : FI → Int × GMod × GNode
  | .one x => (s.1, Fl.stp 0 s.2 x)
  | .dots => (s.1, s.2.1, ⟨s.2.2.kind, s.2.2.name, s.2.2.mark, s.2.2.con, s.2.2.items, s.2.2.fields, (s.2.2.fields.length : Int), true, s.2.2.of⟩)
  | .grp l => (s.1 + 1, l.foldl (Fl.stp (s.1 + 1)) s.2)
def FI.fls : FI → List Fl
  | .one x => [x]
  | .dots => []
  | .grp l => l
def szI (l : List FI) : Nat := szL (l.flatMap FI.fls)
def okI (h : Nat) (kind : Int) : Bool → List FI → Prop
  | _, [] => True
  | b, .one x :: r => FldK h kind x ∧ okI h kind b r
  | b, .dots :: r => b = false ∧ okI h kind true r
  | b, .grp l :: r => b = true ∧ l ≠ [] ∧ (∀ f ∈ l, FldK h kind f) ∧ okI h kind true r
theorem zjc {h : Nat} {kind : Int} {g : Int} : ∀ {l : List Fl} {m : GMod} {nd : GNode}, (∀ f ∈ l, FldK h kind f) →
    (l.foldl (Fl.stp g) (m, nd)).1.nodes.length = m.nodes.length + szL l ∧ (l.foldl (Fl.stp g) (m, nd)).2.kind = nd.kind ∧ (l.foldl (Fl.stp g) (m, nd)).2.more = nd.more ∧ (l.foldl (Fl.stp g) (m, nd)).2.fields.length = nd.fields.length + l.length
  | [], m, nd, _ => ⟨rfl, rfl, rfl, rfl⟩
  | f :: r, m, nd, hF => by
    obtain ⟨h1, h2, h3, h4⟩ := zjc (g := g) (l := r) (m := addN m (f.ns m.nodes.length)) (nd := addF nd (f.fl g m.nodes.length)) fun x hx => hF x (List.mem_cons_of_mem _ hx)
    have e : (f :: r).foldl (Fl.stp g) (m, nd) = r.foldl (Fl.stp g) (addN m (f.ns m.nodes.length), addF nd (f.fl g m.nodes.length)) := rfl
    rw [e, h1, h2, h3, h4]
    refine ⟨?_, rfl, rfl, ?_⟩
    · rw [zej, (hF f (List.mem_cons_self ..)).len]; unfold szL; simp; omega
    · unfold addF; dsimp only; simp; omega
def endN (nd : GNode) : GNode := if nd.more then nd else ⟨nd.kind, nd.name, nd.mark, nd.con, nd.items, nd.fields, (nd.fields.length : Int), nd.more, nd.of⟩
theorem zkG {x : FI} : ∃ k t r, x.toks = (k, t) :: r ∧ isK k t [125] = false ∧ (∀ f, x = .one f → k = 2) := by
  cases x with
  | one x => exact ⟨_, _, _, rfl, rfl, fun _ _ => rfl⟩
  | dots => exact ⟨_, _, _, rfl, rfl, fun _ h => by cases h⟩
  | grp l => exact ⟨_, _, _, rfl, rfl, fun _ h => by cases h⟩
theorem znS {h : Nat} {kind : Int} {n : Nat} {d : Int} {L : List GTok} {ks : KS} (hn : 4 * h + 2 ≤ n) (hd : 0 ≤ d) (hdh : d + h ≤ 16) {l : List FI} {a : Int} {m : GMod} {nd : GNode} (hne : l ≠ [])
    (hA : Sg L a (sepK (l.map FI.toks) ++ (6, [125]) :: ks)) (hm : m.nodes.length + szI l ≤ 300) (hk : nd.kind = kind) (hf : nd.fields.length + (l.flatMap FI.fls).length ≤ 1000) (hmo : nd.more = false) (hF : okI h kind false l) :
    zaC n ⟨L, a, m, 0, 0⟩ nd d = some (⟨L, a + (sepK (l.map FI.toks)).length + 1, (l.foldl FI.stp (0, m, nd)).2.1, 0, 0⟩, endN (l.foldl FI.stp (0, m, nd)).2.2) := by
  obtain ⟨n, rfl⟩ : ∃ n', n = n' + 1 := ⟨n - 1, by omega⟩
  rw [zlF]
  have hfst : ∃ k t r, sepK (l.map FI.toks) ++ (6, [125]) :: ks = (k, t) :: r ∧ isK k t [125] = false := by
    cases l with
    | nil => exact absurd rfl hne
    | cons x r =>
      obtain ⟨k, t, r', e, h1, _⟩ := zkG (x := x)
      cases r with
      | nil => exact ⟨k, t, r' ++ (6, [125]) :: ks, by show x.toks ++ _ = _; rw [e]; rfl, h1⟩
      | cons y r => exact ⟨k, t, _, by show (x.toks ++ (6, [44]) :: sepK ((y :: r).map FI.toks)) ++ _ = _; rw [e]; rfl, h1⟩
  obtain ⟨k0, t0, r0, e0, hno⟩ := hfst
  have hA0 := hA
  rw [e0] at hA0
  refine T.fin ?_
  unfold zbf
  refine T.eq (zdm hA0 hno) (T.brF rfl ?_)
  refine T.jp (fun q => q = ((⟨L, a + (sepK (l.map FI.toks)).length, (l.foldl FI.stp (0, m, nd)).2.1, 0, 0⟩ : GPar), (l.foldl FI.stp (0, m, nd)).2.2)) (fun J hJ => ?_) fun q hq => ?_
  · let I : Int × GPar × GNode → Prop := fun q => ∃ (rest : List FI) (g1 a1 : Int) (m1 : GMod) (nd1 : GNode), q = (g1, ⟨L, a1, m1, 0, 0⟩, nd1) ∧ rest ≠ [] ∧ 0 ≤ g1 ∧ g1 ≤ a1 ∧ Sg L a1 (sepK (rest.map FI.toks) ++ (6, [125]) :: ks) ∧ a1 + (sepK (rest.map FI.toks)).length = a + (sepK (l.map FI.toks)).length ∧ rest.foldl FI.stp (g1, m1, nd1) = l.foldl FI.stp (0, m, nd) ∧ m1.nodes.length + szI rest ≤ 300 ∧ nd1.kind = kind ∧ nd1.fields.length + (rest.flatMap FI.fls).length ≤ 1000 ∧ okI h kind nd1.more rest
    have hI0 : I (0, ⟨L, a, m, 0, 0⟩, nd) := ⟨l, 0, a, m, nd, rfl, hne, Int.le_refl _, hA.a0, hA, rfl, rfl, hm, hk, hf, by rw [hmo]; exact hF⟩
    refine T.lp I (fun q => ((L.length : Int) - q.2.1.at_).toNat) hI0 (by have := hA.a0; have := hA.len; dsimp only; omega) fun L2 q hq hL => ?_
    obtain ⟨rest, g1, a1, m1, nd1, rfl, hne1, hg0, hg1, hA1, ha1, hfo, hm1, hk1, hf1, hF1⟩ := hq
    dsimp only at hL ⊢
    refine T.brT rfl ?_
    cases rest with
    | nil => exact absurd rfl hne1
    | cons x r =>
      -- behind the first one
      have hsz : szI (x :: r) = szL x.fls + szI r := by unfold szI szL; simp
      have hfl : ((x :: r).flatMap FI.fls).length = x.fls.length + (r.flatMap FI.fls).length := by simp
      rw [hsz] at hm1
      rw [hfl] at hf1
      have hnext : ∃ k t ks', sepK ((x :: r).map FI.toks) ++ (6, [125]) :: ks = x.toks ++ (k, t) :: ks' ∧ Sep k t ∧ ((r = [] ∧ k = 6 ∧ t = [125] ∧ ks' = ks) ∨ (r ≠ [] ∧ k = 6 ∧ t = [44] ∧ ks' = sepK (r.map FI.toks) ++ (6, [125]) :: ks)) := by
        cases r with
        | nil => exact ⟨6, [125], ks, rfl, zm5, .inl ⟨rfl, rfl, rfl, rfl⟩⟩
        | cons y r => exact ⟨6, [44], _, by show (x.toks ++ (6, [44]) :: sepK ((y :: r).map FI.toks)) ++ _ = _; rw [List.append_assoc]; rfl, zjv, .inr ⟨by simp, rfl, rfl, rfl⟩⟩
      obtain ⟨k, t, ks', ek, hsep, hcase⟩ := hnext
      rw [ek] at hA1
      have hA2 := hA1.app
      have hA2s := hA2.size
      have hA20 := hA2.a0
      have hA10 := hA1.a0
      have hAl := hA1.len
      have hpos : 1 ≤ x.toks.length := by obtain ⟨k, t, r, e, _⟩ := zkG (x := x); rw [e]; simp
      have hstep : ∀ q : Int × GPar × GNode, q = ((FI.stp (g1, m1, nd1) x).1, ⟨L, a1 + x.toks.length, (FI.stp (g1, m1, nd1) x).2.1, 0, 0⟩, (FI.stp (g1, m1, nd1) x).2.2) → okI h kind (FI.stp (g1, m1, nd1) x).2.2.more r → (FI.stp (g1, m1, nd1) x).2.1.nodes.length = m1.nodes.length + szL x.fls → (FI.stp (g1, m1, nd1) x).2.2.kind = kind → (FI.stp (g1, m1, nd1) x).2.2.fields.length = nd1.fields.length + x.fls.length → 0 ≤ (FI.stp (g1, m1, nd1) x).1 → (FI.stp (g1, m1, nd1) x).1 ≤ a1 + x.toks.length → T (fun r => r = ((⟨L, a + (sepK (l.map FI.toks)).length + 1, (l.foldl FI.stp (0, m, nd)).2.1, 0, 0⟩ : GPar), endN (l.foldl FI.stp (0, m, nd)).2.2)) (cal (zF q.2.1 (Str.mk [44])) fun y110 => br (!y110.1) (J (y110.2, q.2.2)) (L2 (q.1, y110.2, q.2.2))) := by
        intro q hq hok hn1 hk2 hf2 hg2 hg3
        subst hq
        rcases hcase with ⟨hr, hk', ht', hks⟩ | ⟨hr, hk', ht', hks⟩
        · subst hr; subst hk'; subst ht'; subst hks
          refine T.eq (zdm hA2 rfl) (T.brT rfl (hJ _ ?_))
          have e1 : a1 + (x.toks.length : Int) = a + (sepK (l.map FI.toks)).length := ha1
          have e2 : FI.stp (g1, m1, nd1) x = l.foldl FI.stp (0, m, nd) := hfo
          rw [← e1, ← e2]
        · subst hk'; subst ht'; subst hks
          refine T.eq (zcY hA2 rfl) (T.brF rfl (hL _ ⟨r, _, _, _, _, rfl, hr, hg2, by omega, hA2.tl, ?_, hfo, by omega, hk2, by dsimp only; omega, hok⟩ (by dsimp only; omega)))
          have e : (sepK ((x :: r).map FI.toks)).length = x.toks.length + ((sepK (r.map FI.toks)).length + 1) := by
            cases r with
            | nil => exact absurd rfl hr
            | cons y r =>
              show (x.toks ++ (6, [44]) :: sepK ((y :: r).map FI.toks)).length = _
              rw [List.length_append, List.length_cons]
          rw [e] at ha1
          omega
      cases x with
      | one f =>
        obtain ⟨hfk, hF2⟩ := hF1
        have hs1 : szL (FI.fls (.one f)) = f.sz := by unfold szL FI.fls; simp
        have hgo := hfk.go (n := n) (g := 0) (m := m1) (nd := nd1) (by omega) hd hdh hA1 hsep (by rw [hs1] at hm1; omega) hk1 (by omega)
        refine T.jp (fun q => q = ((FI.stp (g1, m1, nd1) (.one f)).1, ⟨L, a1 + (FI.toks (.one f)).length, (FI.stp (g1, m1, nd1) (.one f)).2.1, 0, 0⟩, (FI.stp (g1, m1, nd1) (.one f)).2.2)) (fun J2 hJ2 => ?_) fun q hq => hstep q hq (by show okI h kind nd1.more r; exact hF2) (by show (addN m1 (f.ns m1.nodes.length)).nodes.length = _; rw [zej, hfk.len]; unfold FI.fls szL; simp) hk1 (by show (addF nd1 _).fields.length = _; unfold addF FI.fls; simp) hg0 (by show g1 ≤ _; omega)
        have hA1' : Sg L a1 ((2, f.name) :: (f.ts ++ f.tail ++ (k, t) :: ks')) := hA1
        refine T.jp (fun q => q = (false, (⟨L, a1, m1, 0, 0⟩ : GPar))) (fun J3 hJ3 => T.br (fun _ => T.eq (zdm hA1' rfl) (hJ3 _ rfl)) fun _ => hJ3 _ rfl) fun q hq => ?_
        subst hq
        refine T.brF rfl (T.jp (fun q => q = (false, (⟨L, a1, m1, 0, 0⟩ : GPar))) (fun J3 hJ3 => T.br (fun _ => T.eq (zdm hA1' rfl) (hJ3 _ rfl)) fun _ => hJ3 _ rfl) fun q hq => ?_)
        subst hq
        exact T.brF rfl (T.eq hgo (hJ2 _ rfl))
      | dots =>
        obtain ⟨hmo1, hF2⟩ := hF1
        refine T.jp (fun q => q = ((FI.stp (g1, m1, nd1) .dots).1, ⟨L, a1 + (FI.toks .dots).length, (FI.stp (g1, m1, nd1) .dots).2.1, 0, 0⟩, (FI.stp (g1, m1, nd1) .dots).2.2)) (fun J2 hJ2 => ?_) fun q hq => hstep q hq hF2 rfl hk1 rfl hg0 (by show g1 ≤ _; omega)
        have hA1' : Sg L a1 ((6, [46, 46, 46]) :: (k, t) :: ks') := hA1
        refine T.jp0 (T.brT (by rw [hmo1]; rfl) (T.eq (zcY hA1' rfl) (T.brT rfl (hJ2 _ rfl))))
      | grp fl =>
        obtain ⟨hmo1, hfl0, hFl, hF2⟩ := hF1
        obtain ⟨f1, f2, f3, f4⟩ := zjc (g := g1 + 1) (m := m1) (nd := nd1) hFl
        refine T.jp (fun q => q = ((FI.stp (g1, m1, nd1) (.grp fl)).1, ⟨L, a1 + (FI.toks (.grp fl)).length, (FI.stp (g1, m1, nd1) (.grp fl)).2.1, 0, 0⟩, (FI.stp (g1, m1, nd1) (.grp fl)).2.2)) (fun J2 hJ2 => ?_) fun q hq => hstep q hq (by show okI h kind (fl.foldl (Fl.stp (g1 + 1)) (m1, nd1)).2.more r; rw [f3, hmo1]; exact hF2) (by show (fl.foldl (Fl.stp (g1 + 1)) (m1, nd1)).1.nodes.length = _; rw [f1]; rfl) (by show (fl.foldl (Fl.stp (g1 + 1)) (m1, nd1)).2.kind = _; rw [f2]; exact hk1) (by show (fl.foldl (Fl.stp (g1 + 1)) (m1, nd1)).2.fields.length = _; rw [f4]; rfl) (by show 0 ≤ g1 + 1; omega) (by show g1 + 1 ≤ _; omega)
        have hA1' : Sg L a1 ((6, [91, 91]) :: (sepK (fl.map Fl.toks) ++ (6, [93, 93]) :: (k, t) :: ks')) := by
          have e : FI.toks (.grp fl) ++ (k, t) :: ks' = (6, [91, 91]) :: (sepK (fl.map Fl.toks) ++ (6, [93, 93]) :: (k, t) :: ks') := by
            show ((6, [91, 91]) :: (sepK (fl.map Fl.toks) ++ [(6, [93, 93])])) ++ (k, t) :: ks' = _
            simp
          rw [← e]; exact hA1
        have hA3 := hA1'.tl
        have hA4 := hA3.app
        refine T.jp (fun q => q = (false, (⟨L, a1, m1, 0, 0⟩ : GPar))) (fun J3 hJ3 => T.br (fun _ => T.eq (zdm hA1' rfl) (hJ3 _ rfl)) fun _ => hJ3 _ rfl) fun q hq => ?_
        subst hq
        refine T.brF rfl (T.jp0 (T.brT hmo1 (T.eq (zcY hA1' rfl) (T.brT rfl (T.ck (by omega) ?_)))))
        refine T.jp (fun q => q = ((⟨L, a1 + 1 + (sepK (fl.map Fl.toks)).length, (fl.foldl (Fl.stp (g1 + 1)) (m1, nd1)).1, 0, 0⟩ : GPar), (fl.foldl (Fl.stp (g1 + 1)) (m1, nd1)).2)) (fun J3 hJ3 => ?_) fun q hq => ?_
        · have hsl : szL (FI.fls (.grp fl)) = szL fl := rfl
          have hll : (FI.fls (.grp fl)).length = fl.length := rfl
          exact zqn (h := h) (kind := kind) (by omega) hd hdh znu rfl hfl0 hA3 (by omega) hk1 (by omega) hFl (hJ3 _ rfl)
        · subst hq
          refine T.eq (zcC hA4 rfl) (hJ2 _ ?_)
          have e : a1 + ((FI.toks (.grp fl)).length : Int) = a1 + 1 + (sepK (fl.map Fl.toks)).length + 1 := by
            unfold FI.toks; simp only [List.length_cons, List.length_append, List.length_nil]; omega
          rw [e]; rfl
  · subst hq
    refine T.eq (zcC hA.app rfl) ?_
    unfold endN
    cases hmf : (l.foldl FI.stp (0, m, nd)).2.2.more with
    | true => exact T.brF rfl (T.some (by rw [if_pos rfl]))
    | false => exact T.brT rfl (T.some (by rw [if_neg (by decide)]))
end Go.Proofs.Q


namespace Go.Proofs.Q
open Go.Sy
set_option linter.unusedVariables false

def nsF : List Fl → Nat → List GNode
  | [], _ => []
  | x :: r, i => x.ns i ++ nsF r (i + x.sz)
def ndF (g : Int) : List Fl → Nat → GNode → GNode
  | [], _, nd => nd
  | x :: r, i, nd => ndF g r (i + x.sz) (addF nd (x.fl g i))
def nsI (l : List FI) (i : Nat) : List GNode := nsF (l.flatMap FI.fls) i
def ndI : Int → List FI → Nat → GNode → GNode
  | _, [], _, nd => nd
  | g, .one x :: r, i, nd => ndI g r (i + x.sz) (addF nd (x.fl 0 i))
  | g, .dots :: r, i, nd => ndI g r i ⟨nd.kind, nd.name, nd.mark, nd.con, nd.items, nd.fields, (nd.fields.length : Int), true, nd.of⟩
  | g, .grp l :: r, i, nd => ndI (g + 1) r (i + szL l) (ndF (g + 1) l i nd)
theorem ziE (x : Fl) (r : List Fl) : szL (x :: r) = x.sz + szL r := by unfold szL; simp
theorem zj8 {h : Nat} {kind : Int} : ∀ {l : List Fl} {i : Nat}, (∀ f ∈ l, FldK h kind f) → (nsF l i).length = szL l
  | [], _, _ => rfl
  | x :: r, i, hF => by
    have := zj8 (l := r) (i := i + x.sz) fun y hy => hF y (List.mem_cons_of_mem _ hy)
    show (x.ns i ++ nsF r (i + x.sz)).length = _
    rw [List.length_append, this, (hF x (List.mem_cons_self ..)).len, ziE]
theorem zmE : ∀ {a b : List Fl} {i : Nat}, nsF (a ++ b) i = nsF a i ++ nsF b (i + szL a)
  | [], b, i => by show nsF b i = [] ++ nsF b (i + 0); rw [List.nil_append]; rfl
  | x :: r, b, i => by
    show x.ns i ++ nsF (r ++ b) (i + x.sz) = x.ns i ++ nsF r (i + x.sz) ++ _
    rw [zmE, ziE, List.append_assoc, Nat.add_assoc]
theorem zoJ {h : Nat} {kind g : Int} : ∀ {l : List Fl} {m : GMod} {nd : GNode}, (∀ f ∈ l, FldK h kind f) → l.foldl (Fl.stp g) (m, nd) = (addN m (nsF l m.nodes.length), ndF g l m.nodes.length nd)
  | [], m, nd, _ => by rw [nsF, ziv]; rfl
  | x :: r, m, nd, hF => by
    have hx := hF x (List.mem_cons_self ..)
    have := zoJ (g := g) (l := r) (m := addN m (x.ns m.nodes.length)) (nd := addF nd (x.fl g m.nodes.length)) fun y hy => hF y (List.mem_cons_of_mem _ hy)
    show r.foldl (Fl.stp g) (addN m (x.ns m.nodes.length), addF nd (x.fl g m.nodes.length)) = _
    rw [this, zej, hx.len, zgw]; rfl
theorem zjU {h : Nat} {kind : Int} : ∀ {l : List FI} {b : Bool} {g : Int} {m : GMod} {nd : GNode}, okI h kind b l → (l.foldl FI.stp (g, m, nd)).2 = (addN m (nsI l m.nodes.length), ndI g l m.nodes.length nd)
  | [], _, g, m, nd, _ => by
    show (m, nd) = (addN m [], nd)
    rw [ziv]
  | .one x :: r, b, g, m, nd, hF => by
    obtain ⟨hx, hr⟩ := hF
    have := zjU (l := r) (b := b) (g := g) (m := addN m (x.ns m.nodes.length)) (nd := addF nd (x.fl 0 m.nodes.length)) hr
    show (r.foldl FI.stp (g, addN m (x.ns m.nodes.length), addF nd (x.fl 0 m.nodes.length))).2 = _
    rw [this, zej, hx.len, zgw]; rfl
  | .dots :: r, b, g, m, nd, hF => zjU (l := r) (b := true) (g := g) (m := m) hF.2
  | .grp l :: r, b, g, m, nd, hF => by
    obtain ⟨_, _, hl, hr⟩ := hF
    have hf := zoJ (g := g + 1) (m := m) (nd := nd) hl
    have := zjU (l := r) (b := true) (g := g + 1) (m := addN m (nsF l m.nodes.length)) (nd := ndF (g + 1) l m.nodes.length nd) hr
    show (r.foldl FI.stp (g + 1, l.foldl (Fl.stp (g + 1)) (m, nd))).2 = _
    rw [hf, this, zej, zj8 hl, zgw]
    unfold nsI
    rw [show (FI.grp l :: r).flatMap FI.fls = l ++ r.flatMap FI.fls from rfl, zmE]; rfl
theorem zie {h : Nat} {kind : Int} : ∀ {l : List FI} {b : Bool}, okI h kind b l → ∀ f ∈ l.flatMap FI.fls, FldK h kind f
  | [], _, _, f, hf => by cases hf
  | .one x :: r, b, ⟨hx, hr⟩, f, hf => by
    rcases List.mem_cons.1 (show f ∈ x :: r.flatMap FI.fls from hf) with e | e
    · rw [e]; exact hx
    · exact zie hr f e
  | .dots :: r, b, hF, f, hf => zie hF.2 f hf
  | .grp l :: r, b, ⟨_, _, hl, hr⟩, f, hf => by
    rcases List.mem_append.1 (show f ∈ l ++ r.flatMap FI.fls from hf) with e | e
    · exact hl f e
    · exact zie hr f e
def kwF (kind : Int) : List UInt8 := if kind = 7 then [83, 69, 81, 85, 69, 78, 67, 69] else if kind = 8 then [83, 69, 84] else [67, 72, 79, 73, 67, 69]
def fldsT (kind : Int) (l : List FI) : KS := (5, kwF kind) :: (6, [123]) :: (sepK (l.map FI.toks) ++ [(6, [125])])
theorem zll {h : Nat} {kind : Int} (hk : kind = 7 ∨ kind = 8 ∨ kind = 9) {l : List FI} (hne : l ≠ []) (hF : okI h kind false l) (hs : szI l ≤ 300) (hl : (l.flatMap FI.fls).length ≤ 1000) :
    BaseK h (fldsT kind l) (szI l) (nsI l) (fun μ i => endN (ndI 0 l i { zm μ with kind := kind })) := by
  refine ⟨fun i => zj8 (zie hF), ?_⟩
  intro n d L a m k t ks μ h1 h2 h3 hA hkt hm
  obtain ⟨n, rfl⟩ : ∃ n', n = n' + 1 := ⟨n - 1, by omega⟩
  rw [zk2]
  obtain ⟨y, e1, e2, e3⟩ := zfz (m := m) (p := 0) (e := 0) hA
  have a1 := Sg.tl hA
  have a2 : Sg L (a + 1 + 1) (sepK (l.map FI.toks) ++ (6, [125]) :: (k, t) :: ks) := by
    have := Sg.tl a1
    simpa using this
  have hgo := znS (h := h) (kind := kind) (n := n) (d := d) (m := m) (nd := { zm μ with kind := kind }) (by omega) h2 (by omega) hne a2 (by omega) rfl (by show 0 + _ ≤ _; omega) rfl hF
  rw [zjU hF] at hgo
  have e : a + ((fldsT kind l).length : Int) = a + 1 + 1 + ((sepK (l.map FI.toks)).length : Int) + 1 := by
    unfold fldsT; simp only [List.length_cons, List.length_append, List.length_nil]; omega
  rw [e]
  have no : ∀ s : List UInt8, isK 5 (kwF kind) s = false → zF ⟨L, a, m, 0, 0⟩ ⟨s⟩ = some (false, ⟨L, a, m, 0, 0⟩) := fun s hs => zdm hA hs
  refine T.fin ?_
  unfold zbj
  rcases hk with rfl | rfl | rfl
  · exact T.eq e1 (T.brF rfl (T.eq (no _ rfl) (T.brF rfl (T.eq (no _ rfl) (T.brF rfl (T.eq (no _ rfl) (T.brF rfl (T.eq (no _ rfl) (T.brF rfl (T.eq (no _ rfl) (T.brF rfl (T.eq (no _ rfl) (T.brF rfl (T.eq (no _ rfl) (T.brF rfl (T.eq (no _ rfl) (T.brF rfl (T.eq (zcY hA rfl) (T.brT rfl (T.eq (zcY a1 rfl) (T.brT rfl (T.eq hgo (T.some rfl)))))))))))))))))))))))
  · exact T.eq e1 (T.brF rfl (T.eq (no _ rfl) (T.brF rfl (T.eq (no _ rfl) (T.brF rfl (T.eq (no _ rfl) (T.brF rfl (T.eq (no _ rfl) (T.brF rfl (T.eq (no _ rfl) (T.brF rfl (T.eq (no _ rfl) (T.brF rfl (T.eq (zcY hA rfl) (T.brT rfl (T.eq (zcC a1 rfl) (T.eq hgo (T.some rfl))))))))))))))))))
  · exact T.eq e1 (T.brF rfl (T.eq (no _ rfl) (T.brF rfl (T.eq (no _ rfl) (T.brF rfl (T.eq (no _ rfl) (T.brF rfl (T.eq (no _ rfl) (T.brF rfl (T.eq (no _ rfl) (T.brF rfl (T.eq (no _ rfl) (T.brF rfl (T.eq (no _ rfl) (T.brF rfl (T.eq (zcY hA rfl) (T.brT rfl (T.eq (zcC a1 rfl) (T.eq hgo (T.some rfl))))))))))))))))))))

/-! ### Modules -/
structure As where
  name : List UInt8
  ts : KS
  sz : Nat
  ns : Nat → List GNode
  h : Nat
structure AsK (x : As) : Prop where
  t : TypK x.h x.ts x.sz x.ns
  h : x.h ≤ 17
def As.toks (x : As) : KS := (1, x.name) :: (6, [58, 58, 61]) :: x.ts
def typesA : List As → Nat → List Int
  | [], _ => []
  | x :: r, i => (i : Int) :: typesA r (i + x.sz)
def nodesA : List As → Nat → List GNode
  | [], _ => []
  | x :: r, i => x.ns i ++ nodesA r (i + x.sz)
def szA (l : List As) : Nat := (l.map As.sz).sum
def tagT (g : Int) : KS := if g = 1 then [(5, [73, 77, 80, 76, 73, 67, 73, 84]), (5, [84, 65, 71, 83])] else if g = 2 then [(5, [65, 85, 84, 79, 77, 65, 84, 73, 67]), (5, [84, 65, 71, 83])] else if g = 3 then [(5, [69, 88, 80, 76, 73, 67, 73, 84]), (5, [84, 65, 71, 83])] else []
def tagOf (g : Int) : Int := if g = 1 then 1 else if g = 2 then 2 else 0
def modT (nm : List UInt8) (g : Int) (l : List As) : KS := (1, nm) :: (5, [68, 69, 70, 73, 78, 73, 84, 73, 79, 78, 83]) :: (tagT g ++ (6, [58, 58, 61]) :: (5, [66, 69, 71, 73, 78]) :: (l.flatMap As.toks ++ [(5, [69, 78, 68])]))
def modM (nm : List UInt8) (g : Int) (l : List As) : GMod := ⟨⟨nm⟩, tagOf g, l.map fun x => ⟨x.name⟩, typesA l 0, nodesA l 0⟩
theorem zh1 : ∀ {a : List As} {x : As} {i : Nat}, typesA (a ++ [x]) i = typesA a i ++ [((i + szA a : Nat) : Int)]
  | [], x, i => by show [(i : Int)] = [] ++ [((i + 0 : Nat) : Int)]; rfl
  | y :: r, x, i => by
    show (i : Int) :: typesA (r ++ [x]) (i + y.sz) = (i : Int) :: (typesA r (i + y.sz) ++ _)
    rw [zh1]
    have : szA (y :: r) = y.sz + szA r := by unfold szA; simp
    rw [this, Nat.add_assoc]
theorem zhZ : ∀ {a : List As} {x : As} {i : Nat}, nodesA (a ++ [x]) i = nodesA a i ++ x.ns (i + szA a)
  | [], x, i => by show x.ns i ++ [] = [] ++ x.ns (i + 0); rw [List.append_nil]; rfl
  | y :: r, x, i => by
    show y.ns i ++ nodesA (r ++ [x]) (i + y.sz) = y.ns i ++ nodesA r (i + y.sz) ++ _
    rw [zhZ]
    have : szA (y :: r) = y.sz + szA r := by unfold szA; simp
    rw [this, Nat.add_assoc, List.append_assoc]
theorem zi2 : ∀ {a : List As} {i : Nat}, (∀ x ∈ a, AsK x) → (nodesA a i).length = szA a
  | [], _, _ => rfl
  | y :: r, i, h => by
    have := zi2 (a := r) (i := i + y.sz) fun x hx => h x (List.mem_cons_of_mem _ hx)
    show (y.ns i ++ nodesA r (i + y.sz)).length = _
    rw [List.length_append, this, (h y (List.mem_cons_self ..)).t.len]; unfold szA; simp
theorem zno {s : Str} {nm : List UInt8} {g : Int} (hg : 0 ≤ g ∧ g ≤ 3) {l : List As} (hk : KT s.b (modT nm g l)) (hs : s.b.length ≤ 8000) (hl : l.length ≤ 40) (hz : szA l ≤ 300) (hF : ∀ x ∈ l, AsK x) :
    zcn s = some (modM nm g l, 0, 0) := by
  obtain ⟨ts, e1, e2⟩ := zpj hk hs
  have htk := (zi9 s).get? (zhH s) (by rw [e1])
  rw [e1] at htk
  have hlen : ts.length ≤ 8001 := htk.len
  have hA : Sg ts 0 (modT nm g l) := ⟨Int.le_refl _, by omega, by rw [show (0 : Int).toNat = 0 from rfl, List.drop_zero]; exact e2⟩
  refine T.fin ?_
  unfold zcn
  refine T.eq (zhH s) ?_
  rw [e1]
  have a1 := Sg.tl hA
  have a2 := Sg.tl a1
  refine T.brF rfl (T.eq (zge hA) (T.eq (zcC a1 rfl) ?_))
  have a3 := Sg.app (L := ts) (xs := tagT g) a2
  refine T.jp (fun x => x = (⟨ts, 0 + 1 + 1 + (tagT g).length, ⟨⟨nm⟩, tagOf g, [], [], []⟩, 0, 0⟩ : GPar)) (fun J hJ => ?_) fun x hx => ?_
  · have hc : g = 0 ∨ g = 1 ∨ g = 2 ∨ g = 3 := by omega
    rcases hc with rfl | rfl | rfl | rfl
    · have b : Sg ts (0 + 1 + 1) ((6, [58, 58, 61]) :: (5, [66, 69, 71, 73, 78]) :: (l.flatMap As.toks ++ [(5, [69, 78, 68])])) := a2
      exact T.eq (zdm b rfl) (T.brF rfl (T.eq (zdm b rfl) (T.brF rfl (T.eq (zdm b rfl) (T.brF rfl (hJ _ rfl))))))
    · have b : Sg ts (0 + 1 + 1) ((5, [73, 77, 80, 76, 73, 67, 73, 84]) :: (5, [84, 65, 71, 83]) :: (6, [58, 58, 61]) :: (5, [66, 69, 71, 73, 78]) :: (l.flatMap As.toks ++ [(5, [69, 78, 68])])) := a2
      exact T.eq (zdm b rfl) (T.brF rfl (T.eq (zcY b rfl) (T.brT rfl (T.eq (zcC b.tl rfl) (hJ _ rfl)))))
    · have b : Sg ts (0 + 1 + 1) ((5, [65, 85, 84, 79, 77, 65, 84, 73, 67]) :: (5, [84, 65, 71, 83]) :: (6, [58, 58, 61]) :: (5, [66, 69, 71, 73, 78]) :: (l.flatMap As.toks ++ [(5, [69, 78, 68])])) := a2
      exact T.eq (zdm b rfl) (T.brF rfl (T.eq (zdm b rfl) (T.brF rfl (T.eq (zcY b rfl) (T.brT rfl (T.eq (zcC b.tl rfl) (hJ _ rfl)))))))
    · have b : Sg ts (0 + 1 + 1) ((5, [69, 88, 80, 76, 73, 67, 73, 84]) :: (5, [84, 65, 71, 83]) :: (6, [58, 58, 61]) :: (5, [66, 69, 71, 73, 78]) :: (l.flatMap As.toks ++ [(5, [69, 78, 68])])) := a2
      exact T.eq (zcY b rfl) (T.brT rfl (T.eq (zcC b.tl rfl) (hJ _ rfl)))
  subst hx
  have a4 := Sg.tl a3
  have a5 := Sg.tl a4
  refine T.eq (zcC a3 rfl) (T.eq (zcC a4 rfl) ?_)
  generalize hb : (0 : Int) + 1 + 1 + ((tagT g).length : Int) + 1 + 1 = b at a5
  have hb0 := a5.a0
  have hbz := a5.size
  refine T.lp (ι := GPar) (fun x => ∃ (dn rest : List As) (a : Int), l = dn ++ rest ∧ x = ⟨ts, a, ⟨⟨nm⟩, tagOf g, dn.map fun x => ⟨x.name⟩, typesA dn 0, nodesA dn 0⟩, 0, 0⟩ ∧ Sg ts a (rest.flatMap As.toks ++ [(5, [69, 78, 68])])) (fun x => ((ts.length : Int) - x.at_).toNat) ⟨[], l, b, rfl, rfl, a5⟩ (by dsimp only; omega) fun L x hx hL => ?_
  obtain ⟨dn, rest, a, hdr, rfl, ha⟩ := hx
  dsimp only at hL ⊢
  cases rest with
  | nil =>
    rw [List.append_nil] at hdr
    subst hdr
    have ha' : Sg ts a [(5, [69, 78, 68])] := ha
    refine T.jp0 (T.brT rfl (T.eq (zcY ha' rfl) (T.brF rfl ?_)))
    obtain ⟨y, y1, y2⟩ := ha'.tl.end_
    refine T.jp0 (T.brT rfl (T.eq (y := (y, (⟨ts, a + 1, ⟨⟨nm⟩, tagOf g, l.map fun x => ⟨x.name⟩, typesA l 0, nodesA l 0⟩, 0, 0⟩ : GPar))) (by unfold zah; dsimp only; rw [zfA ha'.tl.a0 y1]; rfl) ?_))
    refine T.jp0 (T.brF (by dsimp only; rw [y2]; rfl) (T.brF rfl (T.some rfl)))
  | cons x rest =>
    have hx := hF x (by rw [hdr]; exact List.mem_append_right _ (List.mem_cons_self ..))
    have hll : dn.length + (rest.length + 1) ≤ 40 := by rw [hdr, List.length_append, List.length_cons] at hl; exact hl
    have hzz : szA dn + x.sz ≤ 300 := by
      have : szA l = szA dn + (x.sz + szA rest) := by rw [hdr]; unfold szA; simp
      omega
    have hdk : ∀ y ∈ dn, AsK y := fun y hy => hF y (by rw [hdr]; exact List.mem_append_left _ hy)
    have hnl : (nodesA dn 0).length = szA dn := zi2 hdk
    have htl : (typesA dn 0).length = dn.length := by
      have : ∀ (a : List As) (i : Nat), (typesA a i).length = a.length := fun a => by
        induction a with
        | nil => intro i; rfl
        | cons y r ih => intro i; show (typesA r (i + y.sz)).length + 1 = _; rw [ih]; rfl
      exact this _ _
    have ha1 : Sg ts a ((1, x.name) :: (6, [58, 58, 61]) :: (x.ts ++ (rest.flatMap As.toks ++ [(5, [69, 78, 68])]))) := by
      have e : (x :: rest).flatMap As.toks ++ [(5, [69, 78, 68])] = (1, x.name) :: (6, [58, 58, 61]) :: (x.ts ++ (rest.flatMap As.toks ++ [(5, [69, 78, 68])])) := by
        show As.toks x ++ rest.flatMap As.toks ++ _ = _
        unfold As.toks; simp
      rw [e] at ha; exact ha
    have ha2 := Sg.tl ha1
    have ha3 := Sg.tl ha2
    have hnx : ∃ k t ks', rest.flatMap As.toks ++ [(5, [69, 78, 68])] = (k, t) :: ks' ∧ isK k t [40] = false := by
      cases rest with
      | nil => exact ⟨5, [69, 78, 68], [], rfl, rfl⟩
      | cons y r => exact ⟨1, y.name, _, rfl, rfl⟩
    obtain ⟨k, t, ks', ek, hkt⟩ := hnx
    have ha3' := ha3
    rw [ek] at ha3'
    obtain ⟨y, f1, f2, f3⟩ := zfz (m := ⟨⟨nm⟩, tagOf g, dn.map fun x => ⟨x.name⟩, typesA dn 0, nodesA dn 0⟩) (p := 0) (e := 0) ha1
    have hty := hx.t.go (n := fuel) (d := 0) (m := ⟨⟨nm⟩, tagOf g, dn.map fun x => ⟨x.name⟩, typesA dn 0, nodesA dn 0⟩) (by have := hx.h; unfold fuel; omega) (Int.le_refl _) (by have := hx.h; omega) ha3' hkt (by dsimp only; rw [hnl]; exact hzz)
    dsimp only at hty
    rw [hnl] at hty
    have hsz := ha3.size
    have hal := ha3.app.size
    have ha0 := ha1.a0
    refine T.jp0 (T.brT rfl (T.eq (zdm ha1 rfl) (T.brT rfl (T.eq f1 (T.eq (zge ha1) ?_)))))
    refine T.jp (fun b => b = false) (fun J hJ => T.brT rfl (hJ _ (zDF (by dsimp only; rw [List.length_map]; omega)))) fun b hb2 => ?_
    subst hb2
    refine T.jp0 (T.brF rfl (T.eq (zcC ha2 rfl) (T.eq hty (T.abl ?_ (T.abl ?_ (hL _ ⟨dn ++ [x], rest, a + 1 + 1 + (x.ts.length : Int), by rw [hdr, List.append_assoc]; rfl, ?_, ha3.app⟩ ?_))))))
    · show (dn.map fun x => (⟨x.name⟩ : Str)).length + 1 ≤ _; rw [List.length_map]; omega
    · show (typesA dn 0).length + 1 ≤ _; rw [htl]; omega
    · dsimp only
      rw [List.map_append, zh1, zhZ, Nat.zero_add]; rfl
    · dsimp only; omega
end Go.Proofs.Q


namespace Go.Proofs.Q
open Go.Sy
set_option linter.unusedVariables false

structure N10 (m : GMod) (k : Int) (h : Nat) (sz : Nat) (tt : Nat → List GTyp) : Prop where
  len : ∀ i, (tt i).length = sz
  go : ∀ {n : Nat} {d : Int} {l : List GTyp}, 3 * h ≤ n → 0 ≤ d → d + h ≤ 17 → l.length + sz ≤ 300 → zbu n ⟨m, l, 0⟩ k d = some ((l.length : Int), ⟨m, l ++ tt l.length, 0⟩)
structure M10 (m : GMod) (nd : GNode) (h : Nat) (sz : Nat) (t : Nat → GTyp) (tt : Nat → List GTyp) : Prop where
  len : ∀ i, (tt i).length = sz
  go : ∀ {n : Nat} {d : Int} {l : List GTyp}, 3 * h + 2 ≤ n → 0 ≤ d → d + h ≤ 16 → l.length + (sz + 1) ≤ 300 → zbx n ⟨m, l, 0⟩ nd d = some ((l.length : Int), ⟨m, l ++ t l.length :: tt l.length, 0⟩)
theorem ziR (n : Nat) : zbu (n + 1) = zbo (zbd n) (zbu n) (zbx n) := rfl
theorem ziX (n : Nat) : zbx (n + 1) = zbp (zbd n) (zbu n) (zbx n) := rfl
theorem zkj (n : Nat) : zbd (n + 1) = zbn (zbd n) (zbu n) (zbx n) := rfl
theorem zpy {m : GMod} {k : Nat} {nd : GNode} (hk : m.nodes[k]? = some nd) (h11 : nd.kind ≠ 11) (hm : nd.mark.has = false) {h sz : Nat} {t : Nat → GTyp} {tt : Nat → List GTyp} (hM : M10 m nd h sz t tt) : N10 m (k : Int) (h + 1) (sz + 1) (fun i => t i :: tt i) := by
  refine ⟨fun i => by rw [List.length_cons, hM.len], ?_⟩
  intro n d l h1 h2 h3 h4
  obtain ⟨n, rfl⟩ : ∃ n', n = n' + 1 := ⟨n - 1, by omega⟩
  rw [ziR]
  refine T.fin ?_
  unfold zbo
  refine T.brF rfl (T.eq (zfA (by omega) (by rw [Int.toNat_natCast]; exact hk)) (T.jp0 (T.brF (zDF h11) (T.eq (hM.go (by omega) h2 (by omega) h4) ?_))))
  refine T.jp0 (T.brT rfl (T.jp0 ?_))
  dsimp only
  rw [hm]
  exact T.brF rfl (T.some rfl)
theorem zo6 {m : GMod} {k : Nat} {nd : GNode} {v : Int} (hk : m.nodes[k]? = some nd) (h11 : nd.kind ≠ 11) (hm : nd.mark = ⟨true, v, 0⟩) (hg : m.tagging ≠ 0) (h0 : 0 ≤ v) (h9 : v ≤ 268435456) {h sz : Nat} {t : Nat → GTyp} {tt : Nat → List GTyp} (hM : M10 m nd h sz t tt) (ht : ∀ i, ∃ u, (t i).tags = [u]) :
    N10 m (k : Int) (h + 1) (sz + 1) (fun i => { t i with tags := [⟨2, v⟩] } :: tt i) := by
  refine ⟨fun i => by rw [List.length_cons, hM.len], ?_⟩
  intro n d l h1 h2 h3 h4
  obtain ⟨n, rfl⟩ : ∃ n', n = n' + 1 := ⟨n - 1, by omega⟩
  rw [ziR]
  refine T.fin ?_
  unfold zbo
  refine T.brF rfl (T.eq (zfA (by omega) (by rw [Int.toNat_natCast]; exact hk)) (T.jp0 (T.brF (zDF h11) (T.eq (hM.go (by omega) h2 (by omega) h4) ?_))))
  refine T.jp0 (T.brT rfl (T.jp0 ?_))
  dsimp only
  rw [hm]
  obtain ⟨u, hu⟩ := ht l.length
  have hll : ((l ++ t l.length :: tt l.length).length : Int) = l.length + 1 + (tt l.length).length := by rw [List.length_append, List.length_cons]; omega
  have hs : zbM ⟨m, l ++ t l.length :: tt l.length, 0⟩ (l.length : Int) = some (1, ⟨m, l ++ t l.length :: tt l.length, 0⟩) := by
    refine T.fin ?_
    unfold zbM
    refine T.asd ⟨by omega, by dsimp only; omega⟩ (T.eq (y := t l.length) (by rw [Int.toNat_natCast]; exact zgV _ _ _) (T.brT ?_ (T.some rfl)))
    rw [hu]; rfl
  have hw : zeI [u] v 1 = some ([⟨2, v⟩], 0) := by
    refine T.fin ?_
    unfold zeI
    refine T.jp (fun b => b = false) (fun J hJ => T.brF (zDF (by omega)) (hJ _ (zDF (by omega)))) fun b hb => ?_
    subst hb
    exact T.jp0 (T.brF rfl (T.jp0 (T.brT rfl (T.brF rfl (T.brT rfl (T.asr rfl (T.asr rfl (T.some rfl))))))))
  refine T.brT rfl (T.jp (ι := Int × GMk) (fun q => q = (1, ⟨m, l ++ t l.length :: tt l.length, 0⟩)) (fun J hJ => T.brF rfl (T.jp0 (T.brT rfl (T.brT ?_ (T.eq hs (hJ _ rfl)))))) fun q hq => ?_)
  · rw [zDF hg]; rfl
  subst hq
  have hwr : zbR ⟨m, l ++ t l.length :: tt l.length, 0⟩ (l.length : Int) v 1 = some ⟨m, l ++ { t l.length with tags := [⟨2, v⟩] } :: tt l.length, 0⟩ := by
    refine T.fin ?_
    unfold zbR
    refine T.brF rfl (T.asd ⟨by omega, by dsimp only; omega⟩ (T.eq (y := t l.length) (by rw [Int.toNat_natCast]; exact zgV _ _ _) ?_))
    rw [hu]
    refine T.eq hw (T.brF rfl (T.asd ⟨by omega, by dsimp only; omega⟩ (T.eq (y := t l.length) (by rw [Int.toNat_natCast]; exact zgV _ _ _) (T.some ?_))))
    rw [Int.toNat_natCast, zmm]
  exact T.eq hwr (T.some rfl)

/-! ### Leaves -/
def fldT (nd : GNode) (tg : List Tag) (fs : List GFld) : GTyp := ⟨nd.kind, tg, nd.con, [], fs, nd.root, nd.more, 0⟩
def univ (k : Int) : Tag := ⟨0, if k = 1 then 1 else if k = 2 then 2 else if k = 5 then 4 else if k = 4 then 5 else if k = 10 then 16 else if k = 7 then 16 else 17⟩
theorem zpE {k : Int} (hk : k = 1 ∨ k = 2 ∨ k = 4 ∨ k = 5 ∨ k = 7 ∨ k = 8 ∨ k = 10) : zcE k = some (univ k) := by
  rcases hk with e | e | e | e | e | e | e <;> subst e <;> rfl
def tgs (k : Int) : List Tag := if k = 9 then [] else [univ k]
theorem ziD {m : GMod} {nd : GNode} {F Nd Md} {d : Int} {l : List GTyp} (hk : nd.kind = 1 ∨ nd.kind = 2 ∨ nd.kind = 4 ∨ nd.kind = 5 ∨ nd.kind = 7 ∨ nd.kind = 8 ∨ nd.kind = 9 ∨ nd.kind = 10) (hd : d ≤ 16) (hl : l.length < 300) {R : Int × GMk → Prop}
    (h : T R (jp (ι := GMk) (fun J21 => jp (ι := Bool) (fun J23 => br (decide (nd.kind = (2 : Int))) (J23 ((decide (nd.kind = (2 : Int))))) (br (decide (nd.kind = (5 : Int))) (J23 ((decide (nd.kind = (5 : Int))))) (br (decide (nd.kind = (6 : Int))) (J23 ((decide (nd.kind = (6 : Int))))) (J23 ((decide (nd.kind = (10 : Int)))))))) (fun q22 => br q22 (cal (zeu nd.con (!decide (nd.kind = (2 : Int)))) fun y24 => jp (ι := GMk) (fun J26 => br (!decide (y24 = (0 : Int))) (cal (zaF ⟨m, l ++ [fldT nd (tgs nd.kind) []], 0⟩ y24) fun y27 => J26 (y27)) (J26 (⟨m, l ++ [fldT nd (tgs nd.kind) []], 0⟩))) (fun q25 => br (decide (nd.kind = (10 : Int))) (ck ((d + (1 : Int))) <| cal (Nd q25 nd.of (d + (1 : Int))) fun y29 => br (decide (y29.2.e = (0 : Int))) (asr (decide (0 ≤ ((l.length : Nat) : Int) ∧ ((l.length : Nat) : Int) < ((y29.2.l.length : Nat) : Int))) <| cal (y29.2.l[((l.length : Nat) : Int).toNat]?) fun y32 => J21 ((GMk.mk y29.2.m (y29.2.l.set (((l.length : Nat) : Int).toNat) ({ y32 with of := y29.1 })) y29.2.e))) (J21 (y29.2))) (J21 (q25)))) (br (decide (nd.kind = (3 : Int))) (cal (zb6 ⟨m, l ++ [fldT nd (tgs nd.kind) []], 0⟩ nd) fun y33 => asr (decide (y33.2.l.length = (l ++ [fldT nd (tgs nd.kind) []]).length)) <| asr (decide (0 ≤ ((l.length : Nat) : Int) ∧ ((l.length : Nat) : Int) < (((l ++ [fldT nd (tgs nd.kind) []]).length : Nat) : Int))) <| cal (y33.2.l[((l.length : Nat) : Int).toNat]?) fun y36 => J21 ((GMk.mk y33.2.m (y33.2.l.set (((l.length : Nat) : Int).toNat) ({ y36 with items := y33.1 })) y33.2.e))) (jp (ι := Bool) (fun J38 => br (decide (nd.kind = (7 : Int))) (J38 ((decide (nd.kind = (7 : Int))))) (br (decide (nd.kind = (8 : Int))) (J38 ((decide (nd.kind = (8 : Int))))) (J38 ((decide (nd.kind = (9 : Int))))))) (fun q37 => br q37 (cal (F ⟨m, l ++ [fldT nd (tgs nd.kind) []], 0⟩ ((l.length : Nat) : Int) nd d) fun y39 => J21 (y39)) (J21 (⟨m, l ++ [fldT nd (tgs nd.kind) []], 0⟩))))))) (fun q20 => some (((l.length : Nat) : Int), q20)))) :
    T R (zbp F Nd Md ⟨m, l, 0⟩ nd d) := by
  unfold zbp
  refine T.jp (fun b => b = false) (fun J hJ => T.brF (zDF (by omega)) (hJ _ (zDF (by dsimp only; omega)))) fun b hb => T.brF hb ?_
  refine T.jp (ι := GTyp) (fun q => q = fldT nd (tgs nd.kind) []) (fun J hJ => T.br (fun h9 => ?_) fun h9 => hJ _ ?_) fun q hq => ?_
  · have h9 : ¬ nd.kind = 9 := by simpa using h9
    exact T.eq (zpE (by omega)) (hJ _ (by unfold tgs; rw [if_neg h9]; rfl))
  · have h9 : nd.kind = 9 := by simpa using h9
    unfold tgs; rw [if_pos h9]; rfl
  · subst hq
    exact T.jp0 (T.abl (by dsimp only; simp only [List.length_singleton]; omega) h)
theorem znh {m : GMod} {nd : GNode} (hk : nd.kind = 1 ∨ nd.kind = 4) : M10 m nd 0 0 (fun _ => fldT nd (tgs nd.kind) []) (fun _ => []) := by
  refine ⟨fun _ => rfl, ?_⟩
  intro n d l h1 h2 h3 h4
  obtain ⟨n, rfl⟩ : ∃ n', n = n' + 1 := ⟨n - 1, by omega⟩
  rw [ziX]
  refine T.fin (ziD (by omega) (by omega) (by omega) ?_)
  refine T.jp0 (T.jp (fun b => b = false) (fun J hJ => T.brF (zDF (by omega)) (T.brF (zDF (by omega)) (T.brF (zDF (by omega)) (hJ _ (zDF (by omega)))))) fun b hb => T.brF hb (T.brF (zDF (by omega)) ?_))
  exact T.jp (fun b => b = false) (fun J hJ => T.brF (zDF (by omega)) (T.brF (zDF (by omega)) (hJ _ (zDF (by omega))))) fun b hb => T.brF hb (T.some rfl)

/-! ### Fields -/
structure Ch where
  f : GFld
  sz : Nat
  tt : Nat → List GTyp
def tsC : List Ch → Nat → List GTyp
  | [], _ => []
  | c :: r, i => c.tt i ++ tsC r (i + c.sz)
def flC : List Ch → Nat → List GFld
  | [], _ => []
  | c :: r, i => { c.f with ty := (i : Int) } :: flC r (i + c.sz)
def szC (l : List Ch) : Nat := (l.map Ch.sz).sum
structure ChK (m : GMod) (h : Nat) (c : Ch) : Prop where
  n : N10 m c.f.ty h c.sz c.tt
  has : c.f.has = false
theorem zli : ∀ {a : List Ch} {x : Ch} {i : Nat}, tsC (a ++ [x]) i = tsC a i ++ x.tt (i + szC a)
  | [], x, i => by show x.tt i ++ [] = [] ++ x.tt (i + 0); rw [List.append_nil]; rfl
  | y :: r, x, i => by
    show y.tt i ++ tsC (r ++ [x]) (i + y.sz) = y.tt i ++ tsC r (i + y.sz) ++ _
    rw [zli]
    have : szC (y :: r) = y.sz + szC r := by unfold szC; simp
    rw [this, Nat.add_assoc, List.append_assoc]
theorem zkR : ∀ {a : List Ch} {x : Ch} {i : Nat}, flC (a ++ [x]) i = flC a i ++ [{ x.f with ty := ((i + szC a : Nat) : Int) }]
  | [], x, i => rfl
  | y :: r, x, i => by
    show _ :: flC (r ++ [x]) (i + y.sz) = _ :: (flC r (i + y.sz) ++ _)
    rw [zkR]
    have : szC (y :: r) = y.sz + szC r := by unfold szC; simp
    rw [this, Nat.add_assoc]
theorem zj3 : ∀ {a : List Ch} {i : Nat}, (flC a i).length = a.length
  | [], _ => rfl
  | y :: r, i => by show (flC r (i + y.sz)).length + 1 = _; rw [zj3]; rfl
theorem zj0 {m : GMod} {h : Nat} : ∀ {a : List Ch} {i : Nat}, (∀ c ∈ a, ChK m h c) → (tsC a i).length = szC a
  | [], _, _ => rfl
  | y :: r, i, hc => by
    have := zj0 (a := r) (i := i + y.sz) fun x hx => hc x (List.mem_cons_of_mem _ hx)
    show (y.tt i ++ tsC r (i + y.sz)).length = _
    rw [List.length_append, this, (hc y (List.mem_cons_self ..)).n.len]; unfold szC; simp
theorem zof {m : GMod} {nd : GNode} {h : Nat} {chs : List Ch} (hf : nd.fields = chs.map Ch.f) (hc : ∀ c ∈ chs, ChK m h c) (hg : m.tagging ≠ 2) (h9 : nd.kind = 9 → chs ≠ []) (hnm : (chs.map fun c => c.f.name).Nodup) {n : Nat} {d : Int} {l : List GTyp} {tg : List Tag} (h1 : 3 * h + 1 ≤ n) (h2 : 0 ≤ d) (h3 : d + h ≤ 16) (h4 : l.length + (szC chs + 1) ≤ 300)
    (hcl : chs.length ≤ 1000) (hap : zbl ⟨m, l ++ fldT nd tg (flC chs (l.length + 1)) :: tsC chs (l.length + 1), 0⟩ (fldT nd tg (flC chs (l.length + 1))) = some (true, ⟨m, l ++ fldT nd tg (flC chs (l.length + 1)) :: tsC chs (l.length + 1), 0⟩)) :
    zbd n ⟨m, l ++ [fldT nd tg []], 0⟩ (l.length : Int) nd d = some ⟨m, l ++ fldT nd tg (flC chs (l.length + 1)) :: tsC chs (l.length + 1), 0⟩ := by
  obtain ⟨n, rfl⟩ : ∃ n', n = n' + 1 := ⟨n - 1, by omega⟩
  rw [zkj]
  have hfl : nd.fields.length = chs.length := by rw [hf, List.length_map]
  refine T.fin ?_
  unfold zbn
  refine T.lp (ι := Bool × Int) (fun q => q.1 = true ∧ 0 ≤ q.2 ∧ q.2 ≤ nd.fields.length) (fun q => ((nd.fields.length : Int) - q.2).toNat) ⟨by dsimp only; rw [zDF hg]; rfl, Int.le_refl _, by dsimp only; omega⟩ (by dsimp only; omega) fun L q ⟨q0, q1, q2⟩ hL => ?_
  obtain ⟨mk, i⟩ := q
  dsimp only at q0 q1 q2 hL ⊢
  subst q0
  refine T.br (fun hb => ?_) fun hb => ?_
  · have hb := zOT hb
    exact T.get q1 hb fun f hf => T.jp (fun b => b = true) (fun J hJ => T.brT rfl (hJ _ rfl)) fun b hb => T.ck (by omega) (hL _ ⟨hb, by dsimp only; omega, by dsimp only; omega⟩ (by dsimp only; omega))
  refine T.jp (fun b => b = false) (fun J hJ => T.br (fun h => hJ _ (zDF fun e => ?_)) fun _ => hJ _ rfl) fun b hb1 => ?_
  · have := h9 (zOT h)
    exact this (List.length_eq_zero_iff.1 (by omega))
  subst hb1
  refine T.jp0 (T.brF rfl (T.jp0 (T.brF rfl ?_)))
  refine T.lp (ι := List GFld × Int × GMk) (fun q => ∃ a b : List Ch, chs = a ++ b ∧ q = (flC a (l.length + 1), (a.length : Int), ⟨m, l ++ fldT nd tg [] :: tsC a (l.length + 1), 0⟩)) (fun q => ((nd.fields.length : Int) - q.2.1).toNat) ⟨[], chs, rfl, rfl⟩ (by dsimp only; omega) fun L2 q hq hL2 => ?_
  obtain ⟨a, b, hab, rfl⟩ := hq
  dsimp only at hL2 ⊢
  have hca : ∀ c ∈ a, ChK m h c := fun c hc' => hc c (by rw [hab]; exact List.mem_append_left _ hc')
  have hlab : chs.length = a.length + b.length := by rw [hab, List.length_append]
  cases b with
  | nil =>
    rw [List.append_nil] at hab
    subst hab
    refine T.jp (fun b => b = false) (fun J hJ => T.brF (zDF (by omega)) (hJ _ rfl)) fun b hb2 => T.brF hb2 (T.brT rfl ?_)
    have hl2 : ((l ++ fldT nd tg [] :: tsC chs (l.length + 1)).length : Int) = l.length + 1 + (tsC chs (l.length + 1)).length := by rw [List.length_append, List.length_cons]; omega
    refine T.asd ⟨by omega, by omega⟩ (T.eq (y := fldT nd tg []) (by rw [Int.toNat_natCast]; exact zgV _ _ _) ?_)
    rw [Int.toNat_natCast, zmm]
    refine T.asd ⟨by omega, by rw [List.length_append, List.length_cons]; omega⟩ (T.eq (zgV _ _ _) (T.eq hap (T.brF rfl (T.some rfl))))
  | cons c b =>
    have hck := hc c (by rw [hab]; exact List.mem_append_right _ (List.mem_cons_self ..))
    rw [List.length_cons] at hlab
    refine T.jp (fun b => b = true) (fun J hJ => T.brT (zDT (by omega)) (hJ _ rfl)) fun b' hb2 => T.brT hb2 ?_
    refine T.eq (y := c.f) (zfA (by omega) (by rw [Int.toNat_natCast, hf, hab, List.map_append, List.getElem?_append_right (by rw [List.length_map]; exact Nat.le_refl _), List.length_map, Nat.sub_self]; rfl)) ?_
    refine T.lp (ι := Int × GMk) (fun q => 0 ≤ q.1 ∧ q.1 ≤ a.length ∧ q.2 = ⟨m, l ++ fldT nd tg [] :: tsC a (l.length + 1), 0⟩) (fun q => ((a.length : Int) - q.1).toNat) ⟨Int.le_refl _, by dsimp only; omega, rfl⟩ (by dsimp only; omega) fun L3 q ⟨s1, s2, s3⟩ hL3 => ?_
    obtain ⟨j, y⟩ := q
    dsimp only at s1 s2 s3 hL3 ⊢
    subst s3
    refine T.br (fun hb4 => ?_) fun hb4 => ?_
    · have hb4 := zOT hb4
      refine T.jp (ι := GMk) (fun z => z = ⟨m, l ++ fldT nd tg [] :: tsC a (l.length + 1), 0⟩) (fun J hJ => T.get s1 (by omega) fun g hg' => T.brF (zDF fun e => ?_) (hJ _ rfl)) fun z hz => T.ck (by omega) (hL3 _ ⟨by dsimp only; omega, by dsimp only; omega, hz⟩ (by dsimp only; omega))
      rw [hf, hab, List.map_append, List.getElem?_append_left (by rw [List.length_map]; omega)] at hg'
      have hga := List.mem_of_getElem? hg'
      obtain ⟨c', hc', rfl⟩ := List.mem_map.1 hga
      rw [hab, List.map_append, List.nodup_append] at hnm
      exact hnm.2.2 _ (List.mem_map.2 ⟨c', hc', rfl⟩) _ (List.mem_cons_self ..) e
    have hta := zj0 (i := l.length + 1) hca
    have hsz : szC chs = szC a + (c.sz + szC b) := by rw [hab]; unfold szC; simp
    have hl3 : (l ++ fldT nd tg [] :: tsC a (l.length + 1)).length = l.length + 1 + szC a := by rw [List.length_append, List.length_cons, hta]; omega
    have hgo := hck.n.go (n := n) (d := d + 1) (l := l ++ fldT nd tg [] :: tsC a (l.length + 1)) (by omega) (by omega) (by omega) (by omega)
    rw [hl3] at hgo
    refine T.ck (by omega) (T.eq hgo (T.jp (fun b => b = false) (fun J hJ => T.brT rfl (hJ _ hck.has)) fun b4 hb5 => ?_))
    subst hb5
    refine T.jp0 (T.brF rfl (T.jp (fun b => b = false) (fun J hJ => T.brT rfl (hJ _ rfl)) fun b5 hb6 => T.jp0 (T.brF hb6 (T.abl ?_ (T.ck (by omega) (hL2 _ ⟨a ++ [c], b, by rw [hab, List.append_assoc]; rfl, ?_⟩ (by dsimp only; omega)))))))
    · rw [zj3]; simp only [List.length_singleton]; omega
    · rw [zkR, zli, List.length_append]
      simp only [List.append_assoc, List.cons_append, List.length_singleton]
      rfl
theorem zla {m : GMod} {nd : GNode} {h : Nat} {chs : List Ch} (hk : nd.kind = 7 ∨ nd.kind = 8 ∨ nd.kind = 9) (h9 : nd.kind = 9 → chs ≠ []) (hf : nd.fields = chs.map Ch.f) (hc : ∀ c ∈ chs, ChK m h c) (hg : m.tagging ≠ 2) (hnm : (chs.map fun c => c.f.name).Nodup) (hcl : chs.length ≤ 1000)
    (hap : ∀ l : List GTyp, l.length + (szC chs + 1) ≤ 300 → zbl ⟨m, l ++ fldT nd (tgs nd.kind) (flC chs (l.length + 1)) :: tsC chs (l.length + 1), 0⟩ (fldT nd (tgs nd.kind) (flC chs (l.length + 1))) = some (true, ⟨m, l ++ fldT nd (tgs nd.kind) (flC chs (l.length + 1)) :: tsC chs (l.length + 1), 0⟩)) :
    M10 m nd h (szC chs) (fun i => fldT nd (tgs nd.kind) (flC chs (i + 1))) (fun i => tsC chs (i + 1)) := by
  refine ⟨fun i => zj0 hc, ?_⟩
  intro n d l h1 h2 h3 h4
  obtain ⟨n, rfl⟩ : ∃ n', n = n' + 1 := ⟨n - 1, by omega⟩
  rw [ziX]
  refine T.fin (ziD (by omega) (by omega) (by omega) ?_)
  refine T.jp0 (T.jp (fun b => b = false) (fun J hJ => T.brF (zDF (by omega)) (T.brF (zDF (by omega)) (T.brF (zDF (by omega)) (hJ _ (zDF (by omega)))))) fun b hb => T.brF hb (T.brF (zDF (by omega)) ?_))
  refine T.jp (fun b => b = true) (fun J hJ => T.br (fun h => hJ _ h) fun h => T.br (fun h => hJ _ h) fun h' => hJ _ (zDT (by have := zOF h; have := zOF h'; omega))) fun b hb => T.brT hb ?_
  exact T.eq (zof hf hc hg h9 hnm (by omega) h2 (by omega) h4 hcl (hap l h4)) (T.some rfl)
end Go.Proofs.Q


namespace Go.Proofs.Q
open Go.Sy
set_option linter.unusedVariables false

theorem zoz {α β : Type} (f : α → List β) {l l' : List α} (h : l.Sublist l') : (l.flatMap f).Sublist (l'.flatMap f) := by
  induction h with
  | slnil => exact List.Sublist.refl _
  | cons a _ ih => rw [List.flatMap_cons]; exact ih.trans (List.sublist_append_right _ _)
  | cons_cons a _ ih => rw [List.flatMap_cons, List.flatMap_cons]; exact (List.Sublist.refl _).append ih
theorem zpU {h : Nat} {l : List GTyp} {fs gs : List GFld} {o : Bool} (hw : ∀ f ∈ fs, wld h l f.ty = false) (hn : (fs.flatMap fun f => bgs h l f.ty).Nodup) (hs : gs.Sublist fs) : tld h l gs o = true := by
  unfold tld
  have h1 : (gs.any fun f => wld h l f.ty && (o || decide (1 < gs.length))) = false := by
    rw [List.any_eq_false]
    intro f hf
    rw [hw f (hs.subset hf)]; simp
  have h2 : (gs.flatMap fun f => bgs h l f.ty).Nodup := hn.sublist (zoz _ hs)
  rw [h1, zDT h2]; rfl
theorem znR {h a b : Nat} {x : GMk} {t : GTyp} (hk : Kids (SubT h x.l) (t.fields.map fun f => f.ty) a b) (hh : h ≤ 1000) (hl : x.l.length ≤ 1000) (hb : b ≤ x.l.length) (r0 : 0 ≤ t.root) (r1 : t.kind = 7 → t.root ≤ t.fields.length)
    (hw : ∀ f ∈ t.fields, wld h x.l f.ty = false) (hn : (t.fields.flatMap fun f => bgs h x.l f.ty).Nodup) : zbl x t = some (true, x) := by
  refine T.fin ?_
  unfold zbl
  have hfl := zhn hk
  rw [List.length_map] at hfl
  have hfl1 : t.fields.length ≤ 1000 := by omega
  have hll := zia t
  have hts : ∀ (gs : List GFld) (o : Bool), gs.Sublist t.fields → tld h x.l gs o = true := fun gs o hs => zpU hw hn hs
  refine T.br (fun _ => T.eq (zik hk hh hl hb) (T.some (by rw [hts _ _ (List.Sublist.refl _)]))) fun hk7 => ?_
  have hk7 : t.kind = 7 := by simpa using hk7
  have hsub : ∀ (n m : Nat) (o : Bool), zbv x ((t.fields.take n).drop m) o = some (true, x) := fun n m o => by
    obtain ⟨c, d, k1, k2⟩ := KidsT.sub n m hk
    rw [← List.map_take, ← List.map_drop] at k1
    rw [zik k1 hh hl (by omega), hts _ _ ((List.drop_sublist _ _).trans (List.take_sublist _ _))]
  refine T.eq (ziZ t hfl1) (T.lp (ι := Int × GMk) (fun q => 0 ≤ q.1 ∧ q.1 ≤ t.fields.length ∧ q.2 = x) (fun q => ((t.fields.length : Int) - q.1).toNat) ⟨Int.le_refl _, by dsimp only; omega, rfl⟩ (by dsimp only; omega) fun L q ⟨q1, q2, q3⟩ hL => ?_)
  obtain ⟨k, y⟩ := q
  dsimp only at q1 q2 q3 hL ⊢
  subst q3
  refine T.br (fun hb1 => ?_) fun hb1 => ?_
  · have hb1 := zOT hb1
    refine T.jp (ι := GMk) (fun z => z = y) (fun J hJ => T.get q1 (by omega) fun c hc => T.br (fun _ => hJ _ rfl) fun _ => T.ck (by omega) ?_) fun z hz => T.ck (by omega) (hL _ ⟨by dsimp only; omega, by dsimp only; omega, hz⟩ (by dsimp only; omega))
    refine T.lp (fun (e : Int) => k + 1 ≤ e ∧ e ≤ t.fields.length) (fun (e : Int) => ((t.fields.length : Int) - e).toNat) ⟨Int.le_refl _, by omega⟩ (by omega) fun L2 e ⟨e1, e2⟩ hL2 => ?_
    refine T.jp (fun q => q = true → e < t.fields.length) (fun J2 h2 => T.br (fun h3 => T.get (by omega) (by have := zOT h3; omega) fun _ _ => h2 _ fun _ => zOT h3) fun _ => h2 _ fun h => by cases h) fun q hq => ?_
    exact T.br (fun h3 => T.ck (by have := hq h3; omega) (hL2 _ (by have := hq h3; omega) (by have := hq h3; omega))) fun _ => T.ck (by omega) (T.asd (by omega) (T.eq (hsub _ _ _) (T.brF rfl (hJ _ rfl))))
  · refine T.jp (ι := Bool × GMk) (fun z => z = (true, y)) (fun J hJ => T.br (fun _ => hJ _ rfl) fun _ => T.eq (zmL t hfl1 r0 (r1 hk7)) ?_) fun z hz => T.some (by rw [hz])
    have := zl4 t t.root.toNat
    have := r1 hk7
    exact T.asd ⟨by omega, by omega, Int.le_refl _⟩ (T.eq (hsub _ _ _) (hJ _ rfl))

/-! ### Modules without references -/
theorem zmF {l : List GNode} (h : ∀ n ∈ l, n.kind ≠ 11) : ∀ (k : Nat) (i : Int), nmx l k i = []
  | 0, _ => rfl
  | k + 1, i => by
    unfold nmx
    split
    · rfl
    · rename_i n hn
      have hm : n ∈ l := by
        split at hn
        · exact List.mem_of_getElem? hn
        · cases hn
      rw [if_neg (h n hm)]
      rw [List.flatMap_eq_nil_iff]
      exact fun x _ => zmF h k x
theorem zho {P : Int → Bool} : ∀ (n : Nat) (k : Int), (∀ i, k ≤ i → i < k + n → P i = false) → first P n k = none
  | 0, _, _ => rfl
  | n + 1, k, h => by
    unfold first
    rw [h k (Int.le_refl _) (by omega)]
    exact zho n (k + 1) fun i h1 h2 => h i (by omega) (by omega)
theorem zqv {m : GMod} (h : ∀ n ∈ m.nodes, n.kind ≠ 11) (hn : m.names.Nodup) : wr m = (0, 0) := by
  have hz : ∀ t, nms m t = [] := fun t => zmF h 17 t
  have h1 : first (twice m) m.names.length 0 = none := zho _ _ fun i h0 hi => by
    unfold twice
    have hi' : i.toNat < m.names.length := by omega
    rw [List.getElem?_eq_getElem hi']
    refine zDF fun hf => ?_
    rcases zgi m.names m.names[i.toNat] with ⟨_, h2⟩ | ⟨h2, h3, h4, _⟩
    · exact h2 (List.getElem_mem _)
    · obtain ⟨h5, h6⟩ := List.getElem?_eq_some_iff.1 h4
      have := (List.getElem_inj hn).1 h6
      omega
  have h2 : first (zf5 m) m.names.length 0 = none := zho _ _ fun i _ _ => by
    unfold zf5
    split
    · unfold lost; rw [hz]; rfl
    · rfl
  have h3 : first (cycle m) m.names.length 0 = none := zho _ _ fun i _ _ => by
    refine ziA (b := false) ⟨(fun h => by cases h), fun hr => ?_⟩
    have hne : ∀ a b, ¬ Ed (gr m) a b := fun a b ⟨_, l, e1, e2⟩ => by
      unfold gr at e1
      rw [List.getElem?_map] at e1
      cases ht : m.types[a.toNat]? with
      | none => rw [ht] at e1; cases e1
      | some t =>
        rw [ht] at e1
        have : l = uses m t := (Option.some.inj e1).symm
        subst this
        unfold uses at e2
        rw [hz] at e2; cases e2
    cases hr with
    | one e => exact absurd e (hne _ _)
    | tail _ e => exact absurd e (hne _ _)
  unfold wr
  rw [h1, h2, h3]
theorem zn5 {m : GMod} (w : WF m) (h : ∀ n ∈ m.nodes, n.kind ≠ 11) (hn : m.names.Nodup) : ∃ l, zew m = some (l, 0, 0) := by
  refine ⟨topo (gr m) m.names.length [], ?_⟩
  rw [zjp w]
  unfold ordr
  rw [zqv h hn, if_pos rfl]
structure Mk where
  sz : Nat
  tt : Nat → List GTyp
def rootsM : List Mk → Nat → List Int
  | [], _ => []
  | c :: r, i => (i : Int) :: rootsM r (i + c.sz)
def tsM : List Mk → Nat → List GTyp
  | [], _ => []
  | c :: r, i => c.tt i ++ tsM r (i + c.sz)
def szM (l : List Mk) : Nat := (l.map Mk.sz).sum
theorem zhR : ∀ {a : List Mk} {x : Mk} {i : Nat}, rootsM (a ++ [x]) i = rootsM a i ++ [((i + szM a : Nat) : Int)]
  | [], x, i => rfl
  | y :: r, x, i => by
    show (i : Int) :: rootsM (r ++ [x]) (i + y.sz) = (i : Int) :: (rootsM r (i + y.sz) ++ _)
    rw [zhR]
    have : szM (y :: r) = y.sz + szM r := by unfold szM; simp
    rw [this, Nat.add_assoc]
theorem zlk : ∀ {a : List Mk} {x : Mk} {i : Nat}, tsM (a ++ [x]) i = tsM a i ++ x.tt (i + szM a)
  | [], x, i => by show x.tt i ++ [] = [] ++ x.tt (i + 0); rw [List.append_nil]; rfl
  | y :: r, x, i => by
    show y.tt i ++ tsM (r ++ [x]) (i + y.sz) = y.tt i ++ tsM r (i + y.sz) ++ _
    rw [zlk]
    have : szM (y :: r) = y.sz + szM r := by unfold szM; simp
    rw [this, Nat.add_assoc, List.append_assoc]
structure MkK (m : GMod) (k : Int) (c : Mk) : Prop where
  go : ∃ h, h ≤ 17 ∧ N10 m k h c.sz c.tt
theorem znQ {m : GMod} (w : WF m) (h : ∀ n ∈ m.nodes, n.kind ≠ 11) (hn : m.names.Nodup) {mk : List Mk} (hl : mk.length = m.names.length) (hc : ∀ (i : Nat) k c, m.types[i]? = some k → mk[i]? = some c → MkK m k c) (hs : szM mk ≤ 300) :
    zc1 m = some (⟨m.name, m.names, rootsM mk 0, tsM mk 0⟩, 0, 0) := by
  obtain ⟨lo, ho⟩ := zn5 w h hn
  have hn40 := w.names
  have htl := w.types
  refine T.fin ?_
  unfold zc1
  refine T.eq ho (T.brF rfl (T.jp0 (T.abl (by rw [List.length_nil]; omega) ?_)))
  refine T.lp (ι := Int × GTab × GMk) (fun q => ∃ a b : List Mk, mk = a ++ b ∧ q = ((a.length : Int), ⟨m.name, m.names, rootsM a 0, []⟩, ⟨m, tsM a 0, 0⟩)) (fun q => ((m.names.length : Int) - q.1).toNat) ⟨[], mk, rfl, rfl⟩ (by dsimp only; omega) fun L q hq hL => ?_
  obtain ⟨a, b, hab, rfl⟩ := hq
  dsimp only at hL ⊢
  have hlab : mk.length = a.length + b.length := by rw [hab, List.length_append]
  have htsl : ∀ (a : List Mk) (i : Nat), (∀ (j : Nat) c, a[j]? = some c → ∀ i, (c.tt i).length = c.sz) → (tsM a i).length = szM a := fun a => by
    induction a with
    | nil => intro i _; rfl
    | cons y r ih =>
      intro i hy
      show (y.tt i ++ tsM r (i + y.sz)).length = _
      rw [List.length_append, ih _ fun j c hj => hy (j + 1) c hj, hy 0 y rfl]; unfold szM; simp
  have hrl : ∀ (a : List Mk) (i : Nat), (rootsM a i).length = a.length := fun a => by
    induction a with
    | nil => intro i; rfl
    | cons y r ih => intro i; show (rootsM r (i + y.sz)).length + 1 = _; rw [ih]; rfl
  cases b with
  | nil =>
    rw [List.append_nil] at hab
    subst hab
    exact T.brF (zDF (by omega)) (T.some rfl)
  | cons c b =>
    rw [List.length_cons] at hlab
    have hia : a.length < m.types.length := by omega
    have htk : m.types[a.length]? = some m.types[a.length] := List.getElem?_eq_getElem hia
    have hmc : mk[a.length]? = some c := by rw [hab]; exact zgV _ _ _
    obtain ⟨h0, hh17, hN⟩ := (hc a.length _ c htk hmc).go
    have hal : (tsM a 0).length = szM a := htsl a 0 fun j c' hj i => by
      have hj' : mk[j]? = some c' := by rw [hab, List.getElem?_append_left (List.getElem?_eq_some_iff.1 hj).1]; exact hj
      have hjl : j < m.types.length := by have := (List.getElem?_eq_some_iff.1 hj').1; omega
      obtain ⟨h1, _, hN'⟩ := (hc j _ c' (List.getElem?_eq_getElem hjl) hj').go
      exact hN'.len i
    have hsz : szM mk = szM a + (c.sz + szM b) := by rw [hab]; unfold szM; simp
    have hgo := hN.go (n := fuel) (d := 0) (l := tsM a 0) (by unfold fuel; omega) (Int.le_refl _) (by omega) (by omega)
    rw [hal] at hgo
    refine T.brT (zDT (by omega)) (T.jp0 (T.eq (zfA (by omega) (by rw [Int.toNat_natCast]; exact htk)) (T.eq hgo (T.abl (by rw [hrl]; simp only [List.length_singleton]; omega) ?_))))
    refine T.brF rfl (T.ck (by omega) (hL _ ⟨a ++ [c], b, by rw [hab, List.append_assoc]; rfl, ?_⟩ (by dsimp only; omega)))
    rw [zhR, zlk, Nat.zero_add, List.length_append]; rfl
theorem znn {s : Str} {m : GMod} (hl : s.b.length ≤ 3000) (hp : zcn s = some (m, 0, 0)) {t : GTab} (hm : zc1 m = some (t, 0, 0)) (ht : t.types.length ≤ 120) : zaX s = some (t, true) := by
  refine T.fin ?_
  unfold zaX
  refine T.brF (zDF (by omega)) (T.eq hp (T.brF rfl (T.eq hm ?_)))
  exact T.jp (fun b => b = true) (fun J hJ => T.brT rfl (hJ _ (zDT (by dsimp only; omega)))) fun b hb => T.some (by rw [hb])
theorem zou {s : Str} {m : GMod} (hp : zcn s = some (m, 0, 0)) : WF m := (zjB s).get? hp
end Go.Proofs.Q


namespace Go.Proofs.Q
open Go.Sy
set_option linter.unusedVariables false
set_option maxRecDepth 4000

def dgl (v : Nat) : List UInt8 := match zb3 20 (UInt64.ofNat v) with
  | some s => s.b
  | none => []
def nameOk (w : List UInt8) (k : Int) : Bool := zaA (hd w) && nmAll w 32 && !decide (w.getLast? = some 45) && decide (w.length ≤ 60) && decide (kindN w = k)
def dgOk (v : Nat) : Bool := (match zb3 20 (UInt64.ofNat v) with
  | some s => decide (s.b = dgl v)
  | none => false) && numOk false (dgl v) && decide (zcP ⟨dgl v⟩ = some (v : Int)) && decide ((dgl v).length ≤ 3) && nameOk (102 :: dgl v) 2 && nameOk (84 :: dgl v) 1 && nameOk (105 :: dgl v) 2 && nameOk (97 :: dgl v) 2 && decide (dval (dgl v) = v)
theorem zqb : (List.range 256).all dgOk = true := by kernel_rfl
structure Dg (v : Nat) : Prop where
  eq : zb3 fuel (UInt64.ofNat v) = some ⟨dgl v⟩
  num : numOk false (dgl v) = true
  val : Num (dgl v) v
  len : (dgl v).length ≤ 3
  f : nameOk (102 :: dgl v) 2 = true
  t : nameOk (84 :: dgl v) 1 = true
  i : nameOk (105 :: dgl v) 2 = true
  a : nameOk (97 :: dgl v) 2 = true
  inj : dval (dgl v) = v
theorem zhQ : ∀ {n m : Nat} {v : UInt64} {s : Str}, zb3 n v = some s → n ≤ m → zb3 m v = some s
  | 0, _, _, _, h, _ => by cases h
  | n + 1, m, v, s, h, hm => by
    obtain ⟨m, rfl⟩ : ∃ m', m = m' + 1 := ⟨m - 1, by omega⟩
    have h : zdZ (zb3 n) v = some s := h
    show zdZ (zb3 m) v = some s
    unfold zdZ at h ⊢
    cases hb : decide (v < (10 : UInt64)) with
    | true => rw [hb] at h; exact h
    | false =>
      rw [hb] at h
      have h : jp (ι := Str) (fun J3 => asr (!decide ((10 : UInt64) = 0)) <| asr (!decide ((10 : UInt64) = 0)) <| cal (zb3 n (v / (10 : UInt64))) fun y6 => asr (Nat.ble (y6.b.length + (Str.mk ([((48 : UInt64) + (v % (10 : UInt64))).toUInt8] : (List UInt8))).b.length) 4611686018427387904) <| J3 ((Str.mk (y6.b ++ (Str.mk ([((48 : UInt64) + (v % (10 : UInt64))).toUInt8] : (List UInt8))).b)))) (fun q2 => some (q2)) = some s := h
      refine zp1 h fun J hJ h => zZ h fun h1 h => zZ h fun h2 h => zb h fun y hy h => ?_
      subst hJ
      have := zhQ hy (by omega : n ≤ m)
      show asr (!decide ((10 : UInt64) = 0)) (asr (!decide ((10 : UInt64) = 0)) (cal (zb3 m (v / (10 : UInt64))) _)) = _
      rw [this]
      exact h
theorem dgs (v : Nat) (hv : v < 256) : Dg v := by
  have h := List.all_eq_true.1 zqb v (List.mem_range.2 hv)
  unfold dgOk at h
  simp only [Bool.and_eq_true, decide_eq_true_eq] at h
  obtain ⟨⟨⟨⟨⟨⟨⟨⟨h1, h2⟩, h3⟩, h4⟩, h5⟩, h6⟩, h7⟩, h8⟩, h9⟩ := h
  have he : zb3 20 (UInt64.ofNat v) = some ⟨dgl v⟩ := by
    cases hd : zb3 20 (UInt64.ofNat v) with
    | none => rw [hd] at h1; cases h1
    | some s =>
      rw [hd] at h1
      have : s.b = dgl v := zOT h1
      rw [← this]
  exact ⟨zhQ he (by unfold fuel; omega), h2, ⟨zeb h2, h3⟩, h4, h5, h6, h7, h8, h9⟩
theorem zo9 {v w : Nat} (hv : v < 256) (hw : w < 256) (h : dgl v = dgl w) : v = w := by
  rw [← (dgs v hv).inj, ← (dgs w hw).inj, h]

theorem KT.word {w x : List UInt8} {k : Int} {ks : KS} (h : nameOk w k = true) (hx : KT (32 :: x) ks) : KT (w ++ 32 :: x) ((k, w) :: ks) := by
  unfold nameOk at h
  simp only [Bool.and_eq_true, decide_eq_true_eq, Bool.not_eq_true', decide_eq_false_iff_not] at h
  obtain ⟨⟨⟨⟨h1, h2⟩, h3⟩, h4⟩, h5⟩ := h
  have := KT.name (x := 32 :: x) h1 h2 rfl h3 h4 hx
  rw [h5] at this
  exact this
theorem KT.dgt {v : Nat} {x : List UInt8} {ks : KS} (hv : v < 256) (h1 : isDigit (hd x) = false) (h2 : zaA (hd x) = false) (hx : KT x ks) : KT (dgl v ++ x) ((3, dgl v) :: ks) := KT.num (dgs v hv).num h1 h2 hx
end Go.Proofs.Q


namespace Go.Proofs.Q
open Go.Sy
set_option linter.unusedVariables false

@[reducible] def nullT : KS := [(5, [78, 85, 76, 76])]
@[reducible] def optT : KS := [(5, [79, 80, 84, 73, 79, 78, 65, 76])]
def nodeV (v : Nat) : GNode := { zm ⟨true, (v : Int), 0⟩ with kind := 4 }
def markT (v : Nat) : KS := (6, [91]) :: (3, dgl v) :: (6, [93]) :: nullT
def nullF (nm : List UInt8) (v : Nat) (o : Bool) : Fl := ⟨nm, markT v, 1, fun _ => [nodeV v], if o then optT else [], o, false, zv⟩
theorem zlb {v : Nat} (hv : v < 256) : TypK 1 (markT v) 1 (fun _ => [nodeV v]) := zp7 znv (dgs v hv).val (by omega) (by omega) rfl rfl
theorem zle {nm : List UInt8} {v : Nat} {o : Bool} (hv : v < 256) {kind : Int} (h9 : o = true → kind ≠ 9) : FldK 1 kind (nullF nm v o) := by
  cases o with
  | false => exact znw (zlb hv) kind nm
  | true => exact zpe (zlb hv) (h9 rfl) nm
def leafV (v : Nat) : GTyp := ⟨4, [⟨2, (v : Int)⟩], ⟨false, false, false, false, 0, 0⟩, [], [], 0, false, 0⟩
theorem zoV (v : Nat) : TypOk (leafV v) where
  tags := fun _ => by unfold leafV; simp
  tlen := by unfold leafV; simp
  root0 := Int.le_refl _
  rootF := fun h => by unfold leafV at h; simp at h
  rootI := fun h => by unfold leafV at h; simp at h
  fields := fun _ => rfl
  items := fun _ => rfl
  ilen := by unfold leafV; simp
  nums := fun it h => by unfold leafV at h; cases h
  dflt := fun f h => by unfold leafV at h; cases h
  rootZ := fun _ _ => rfl
theorem zoq {l : List GTyp} {i v : Nat} (h : l[i]? = some (leafV v)) : SubT 1 l i (i + 1) := ⟨_, h, zoV v, by unfold kidsT leafV; rfl⟩
def chV (f : GFld) (v : Nat) : Ch := ⟨f, 1, fun _ => [leafV v]⟩
def chsV : List GFld → List Nat → List Ch
  | f :: r, v :: s => chV f v :: chsV r s
  | _, _ => []
theorem zlT : ∀ {gf : List GFld} {vs : List Nat}, gf.length = vs.length → (chsV gf vs).map Ch.f = gf
  | [], [], _ => rfl
  | f :: r, v :: s, h => by show f :: (chsV r s).map Ch.f = _; rw [zlT (by simpa using h)]
theorem zkZ : ∀ {gf : List GFld} {vs : List Nat}, gf.length = vs.length → (chsV gf vs).length = vs.length
  | [], [], _ => rfl
  | f :: r, v :: s, h => by show (chsV r s).length + 1 = _; rw [zkZ (by simpa using h)]; rfl
theorem zig : ∀ {gf : List GFld} {vs : List Nat} {i : Nat}, gf.length = vs.length → tsC (chsV gf vs) i = vs.map leafV
  | [], [], _, _ => rfl
  | f :: r, v :: s, i, h => by show leafV v :: tsC (chsV r s) (i + 1) = _; rw [zig (by simpa using h)]; rfl
theorem zjQ : ∀ {gf : List GFld} {vs : List Nat}, gf.length = vs.length → szC (chsV gf vs) = vs.length
  | [], [], _ => rfl
  | f :: r, v :: s, h => by
    show szC (chV f v :: chsV r s) = _
    have : szC (chV f v :: chsV r s) = 1 + szC (chsV r s) := by unfold szC; simp [chV]
    rw [this, zjQ (by simpa using h), List.length_cons]; omega
theorem zmN : ∀ {gf : List GFld} {vs : List Nat} {i : Nat}, gf.length = vs.length → (∀ (j : Nat) f, gf[j]? = some f → f.ty = ((i + j : Nat) : Int)) → flC (chsV gf vs) i = gf
  | [], [], _, _, _ => rfl
  | f :: r, v :: s, i, h, hty => by
    show { f with ty := (i : Int) } :: flC (chsV r s) (i + 1) = _
    rw [zmN (by simpa using h) fun j g hg => by rw [hty (j + 1) g hg]; omega]
    have : f.ty = (i : Int) := hty 0 f rfl
    rw [← this]
theorem zjF {L : List GTyp} : ∀ {gf : List GFld} {vs : List Nat} {i : Nat}, gf.length = vs.length → (∀ (j : Nat) v, vs[j]? = some v → L[i + j]? = some (leafV v)) →
    Kids (SubT 1 L) ((flC (chsV gf vs) i).map fun f => f.ty) i (i + vs.length) ∧ (flC (chsV gf vs) i).flatMap (fun f => bgs 1 L f.ty) = vs.map (fun (v : Nat) => (⟨2, (v : Int)⟩ : Tag)) ∧ ∀ f ∈ flC (chsV gf vs) i, wld 1 L f.ty = false
  | [], [], _, _, _ => ⟨rfl, rfl, fun f h => by cases h⟩
  | f :: r, v :: s, i, h, hL => by
    have h0 := hL 0 v rfl
    rw [Nat.add_zero] at h0
    obtain ⟨k1, k2, k3⟩ := zjF (L := L) (gf := r) (vs := s) (i := i + 1) (by simpa using h) fun j w hw => by
      have := hL (j + 1) w hw
      rw [show i + 1 + j = i + (j + 1) by omega]; exact this
    have e : flC (chsV (f :: r) (v :: s)) i = { f with ty := (i : Int) } :: flC (chsV r s) (i + 1) := rfl
    rw [e]
    refine ⟨⟨i + 1, rfl, zoq h0, by rw [List.length_cons, show i + (s.length + 1) = i + 1 + s.length by omega]; exact k1⟩, ?_, fun g hg => ?_⟩
    · rw [List.flatMap_cons, k2, zlP h0]; rfl
    · rcases List.mem_cons.1 hg with e | e
      · rw [e, zoS h0]; rfl
      · exact k3 g e
theorem nodupV {vs : List Nat} (h : vs.Nodup) : (vs.map (fun (v : Nat) => (⟨2, (v : Int)⟩ : Tag))).Nodup := by
  unfold List.Nodup at h ⊢
  rw [List.pairwise_map]
  exact h.imp fun hne e => hne (by injection e with _ e; omega)
structure PF (gf : List GFld) (vs : List Nat) : Prop where
  len : gf.length = vs.length
  ty : ∀ (j : Nat) f, gf[j]? = some f → f.ty = ((1 + j : Nat) : Int)
  has : ∀ f ∈ gf, f.has = false
  nm : (gf.map fun f => f.name).Nodup
  nd : vs.Nodup
  v : ∀ v ∈ vs, v < 256
  l : vs.length ≤ 100
theorem zl1 {nd : GNode} {gf : List GFld} {vs : List Nat} (h : PF gf vs) (hk : nd.kind = 7 ∨ nd.kind = 8 ∨ nd.kind = 9) (h9 : nd.kind = 9 → vs ≠ []) (hf : nd.fields = gf) (hm : nd.mark.has = false) (r0 : 0 ≤ nd.root) (r1 : nd.root ≤ vs.length) {m : GMod} (hmd : m = ⟨⟨[77]⟩, 1, [⟨[65]⟩], [0], nd :: vs.map nodeV⟩) (w : WF m) :
    zc1 m = some (⟨⟨[77]⟩, [⟨[65]⟩], [0], fldT nd (tgs nd.kind) gf :: vs.map leafV⟩, 0, 0) := by
  subst hmd
  have hlen := zkZ h.len
  have hN : ∀ c ∈ chsV gf vs, ChK ⟨⟨[77]⟩, 1, [⟨[65]⟩], [0], nd :: vs.map nodeV⟩ 1 c := by
    have key : ∀ (g : List GFld) (s : List Nat) (i : Nat), g.length = s.length → (∀ (j : Nat) f, g[j]? = some f → f.ty = ((i + j : Nat) : Int) ∧ f.has = false) → (∀ (j : Nat) v, s[j]? = some v → (nd :: vs.map nodeV)[i + j]? = some (nodeV v) ∧ v < 256) → ∀ c ∈ chsV g s, ChK ⟨⟨[77]⟩, 1, [⟨[65]⟩], [0], nd :: vs.map nodeV⟩ 1 c := by
      intro g
      induction g with
      | nil => intro s i _ _ _ c hc; cases s <;> cases hc
      | cons f r ih =>
        intro s i hs hg hv c hc
        cases s with
        | nil => cases hs
        | cons v s =>
          rcases List.mem_cons.1 hc with e | e
          · subst e
            obtain ⟨g1, g2⟩ := hg 0 f rfl
            obtain ⟨v1, v2⟩ := hv 0 v rfl
            refine ⟨?_, g2⟩
            show N10 _ f.ty 1 1 _
            rw [g1]
            exact zo6 (nd := nodeV v) (v := (v : Int)) v1 (by unfold nodeV; simp) rfl (by simp) (by omega) (by omega) (znh (.inr rfl)) (fun i => ⟨_, rfl⟩)
          · exact ih s (i + 1) (by simpa using hs) (fun j g hj => by have := hg (j + 1) g hj; rw [show i + 1 + j = i + (j + 1) by omega]; exact this) (fun j w hj => by have := hv (j + 1) w hj; rw [show i + 1 + j = i + (j + 1) by omega]; exact this) c e
    refine key gf vs 1 h.len (fun j f hj => ⟨h.ty j f hj, h.has f (List.mem_of_getElem? hj)⟩) fun j v hj => ⟨?_, h.v v (List.mem_of_getElem? hj)⟩
    rw [Nat.add_comm, List.getElem?_cons_succ, List.getElem?_map, hj]; rfl
  have hM := zla (m := ⟨⟨[77]⟩, 1, [⟨[65]⟩], [0], nd :: vs.map nodeV⟩) (nd := nd) (h := 1) (chs := chsV gf vs) hk (fun e => by intro e2; rw [e2] at hlen; exact h9 e (List.length_eq_zero_iff.1 hlen.symm)) (by rw [zlT h.len]; exact hf) hN (by simp) (by
    have : ((chsV gf vs).map fun c => c.f.name) = ((chsV gf vs).map Ch.f).map fun f => f.name := by rw [List.map_map]; rfl
    rw [this, zlT h.len]; exact h.nm) (by have := h.l; omega) fun l hl => by
      rw [zjQ h.len] at hl
      have hLv : ∀ (T : GTyp) (j : Nat) v, vs[j]? = some v → (l ++ T :: tsC (chsV gf vs) (l.length + 1))[l.length + 1 + j]? = some (leafV v) := fun T j v hj => by
        rw [zig h.len, List.getElem?_append_right (by omega), show l.length + 1 + j - l.length = j + 1 by omega, List.getElem?_cons_succ, List.getElem?_map, hj]; rfl
      obtain ⟨k1, k2, k3⟩ := zjF (L := l ++ fldT nd (tgs nd.kind) (flC (chsV gf vs) (l.length + 1)) :: tsC (chsV gf vs) (l.length + 1)) (i := l.length + 1) h.len (hLv _)
      have htl : (tsC (chsV gf vs) (l.length + 1)).length = vs.length := by rw [zig h.len, List.length_map]
      refine znR (h := 1) (x := ⟨_, l ++ fldT nd (tgs nd.kind) (flC (chsV gf vs) (l.length + 1)) :: tsC (chsV gf vs) (l.length + 1), 0⟩) k1 (by omega) ?_ ?_ r0 (fun _ => ?_) k3 ?_
      · dsimp only; rw [List.length_append, List.length_cons, htl]; omega
      · dsimp only; rw [List.length_append, List.length_cons, htl]; omega
      · show nd.root ≤ (flC (chsV gf vs) (l.length + 1)).length; rw [zj3, hlen]; exact r1
      · show ((flC (chsV gf vs) (l.length + 1)).flatMap _).Nodup
        rw [k2]; exact nodupV h.nd
  have hU := zpy (m := ⟨⟨[77]⟩, 1, [⟨[65]⟩], [0], nd :: vs.map nodeV⟩) (k := 0) (nd := nd) rfl (by omega) hm hM
  have := znQ w (fun n hn => by
    rcases List.mem_cons.1 hn with e | e
    · rw [e]; omega
    · obtain ⟨v, _, rfl⟩ := List.mem_map.1 e
      unfold nodeV; simp) (by simp) (mk := [⟨_, _⟩]) rfl (fun i k c hk hc => by
      cases i with
      | zero =>
        cases hk; cases hc
        exact ⟨2, by omega, hU⟩
      | succ i => cases hc) (by
        have : szM [⟨szC (chsV gf vs) + 1, fun i => fldT nd (tgs nd.kind) (flC (chsV gf vs) (i + 1)) :: tsC (chsV gf vs) (i + 1)⟩] = szC (chsV gf vs) + 1 := by unfold szM; simp
        rw [this, zjQ h.len]
        have := h.l
        omega)
  rw [this]
  show some ((⟨⟨[77]⟩, [⟨[65]⟩], [((0 : Nat) : Int)], fldT nd (tgs nd.kind) (flC (chsV gf vs) (0 + 1)) :: (tsC (chsV gf vs) (0 + 1) ++ [])⟩ : GTab), (0 : Int), (0 : Int)) = _
  rw [zig h.len, zmN h.len fun j f hj => h.ty j f hj, List.append_nil]; rfl
end Go.Proofs.Q


namespace Go.Proofs.Q
open Go.Sy
set_option linter.unusedVariables false
set_option maxRecDepth 4000

def fTxt (o : Bool) (i v : Nat) : List UInt8 := 102 :: (dgl i ++ ([32, 91] ++ (dgl v ++ ([93, 32, 78, 85, 76, 76] ++ (if o then [32, 79, 80, 84, 73, 79, 78, 65, 76] else [])))))
theorem znZ {c : UInt8} (h : isDigit c = true) : sgN [91] c = true := by
  have : c ≠ 91 := fun e => by subst e; cases h
  unfold sgN
  rw [zDF this]
  simp
theorem zh9 {o : Bool} {i v : Nat} (hi : i < 256) (hv : v < 256) {x : List UInt8} {ks : KS} (hx : KT x ks) (h0 : (∃ r, x = 44 :: r) ∨ ∃ r, x = 32 :: r) : KT (fTxt o i v ++ x) ((nullF (102 :: dgl i) v o).toks ++ ks) := by
  have hd2 : isDigit (hd (dgl v)) = true := zgf (dgs v hv).num
  have e : fTxt o i v ++ x = (102 :: dgl i) ++ 32 :: ([91] ++ (dgl v ++ ([93, 32, 78, 85, 76, 76] ++ ((if o then [32, 79, 80, 84, 73, 79, 78, 65, 76] else []) ++ x)))) := by
    unfold fTxt; simp
  have et : (nullF (102 :: dgl i) v o).toks ++ ks = (2, 102 :: dgl i) :: (6, [91]) :: (3, dgl v) :: (6, [93]) :: (5, [78, 85, 76, 76]) :: ((if o then optT else []) ++ ks) := by
    unfold nullF Fl.toks markT; simp
  rw [e, et]
  have h2 : KT ([93, 32, 78, 85, 76, 76] ++ ((if o then [32, 79, 80, 84, 73, 79, 78, 65, 76] else []) ++ x)) ((6, [93]) :: (5, [78, 85, 76, 76]) :: ((if o then optT else []) ++ ks)) := by
    cases o with
    | true =>
      rcases h0 with ⟨r, rfl⟩ | ⟨r, rfl⟩
      · exact .tok rfl rfl (.tok rfl rfl (.tok rfl rfl hx))
      · exact .tok rfl rfl (.tok rfl rfl (.tok rfl rfl hx))
    | false =>
      rcases h0 with ⟨r, rfl⟩ | ⟨r, rfl⟩
      · exact .tok rfl rfl (.tok rfl rfl hx)
      · exact .tok rfl rfl (.tok rfl rfl hx)
  refine KT.word (dgs i hi).f (KT.sp (KT.sign (s := [91]) (by decide) ?_ (KT.dgt hv rfl rfl h2)))
  rw [zfT (zeb (dgs v hv).num)]
  exact znZ hd2
def joinT (o : Bool) : Nat → List Nat → List UInt8
  | _, [] => []
  | i, [v] => fTxt o i v
  | i, v :: w :: r => fTxt o i v ++ ([44, 32] ++ joinT o (i + 1) (w :: r))
def flsV (o : Bool) : Nat → List Nat → List Fl
  | _, [] => []
  | i, v :: r => nullF (102 :: dgl i) v o :: flsV o (i + 1) r
theorem zkM {o : Bool} : ∀ {vs : List Nat} {i : Nat} {x : List UInt8} {ks : KS}, vs ≠ [] → i + vs.length ≤ 256 → (∀ v ∈ vs, v < 256) → KT (32 :: x) ks → KT (joinT o i vs ++ 32 :: x) (sepK ((flsV o i vs).map Fl.toks) ++ ks)
  | [], _, _, _, h, _, _, _ => absurd rfl h
  | [v], i, x, ks, _, hi, hv, hx => zh9 (by simp only [List.length_cons, List.length_nil] at hi; omega) (hv v (List.mem_singleton.2 rfl)) hx (.inr ⟨_, rfl⟩)
  | v :: w :: r, i, x, ks, _, hi, hv, hx => by
    have ih := zkM (o := o) (vs := w :: r) (i := i + 1) (by simp) (by simp only [List.length_cons] at hi ⊢; omega) (fun u hu => hv u (List.mem_cons_of_mem _ hu)) hx
    have e : joinT o i (v :: w :: r) ++ 32 :: x = fTxt o i v ++ (44 :: 32 :: (joinT o (i + 1) (w :: r) ++ 32 :: x)) := by
      show (fTxt o i v ++ ([44, 32] ++ joinT o (i + 1) (w :: r))) ++ 32 :: x = _
      simp
    have et : sepK ((flsV o i (v :: w :: r)).map Fl.toks) ++ ks = (nullF (102 :: dgl i) v o).toks ++ ((6, [44]) :: (sepK ((flsV o (i + 1) (w :: r)).map Fl.toks) ++ ks)) := by
      show ((nullF (102 :: dgl i) v o).toks ++ (6, [44]) :: sepK ((flsV o (i + 1) (w :: r)).map Fl.toks)) ++ ks = _
      simp
    rw [e, et]
    exact zh9 (by simp only [List.length_cons] at hi; omega) (hv v (List.mem_cons_self ..)) (.tok rfl rfl (KT.sp ih)) (.inl ⟨_, rfl⟩)
theorem zjb {o : Bool} : ∀ {vs : List Nat} {i v : Nat}, vs ≠ [] → joinT o i (vs ++ [v]) = joinT o i vs ++ ([44, 32] ++ fTxt o (i + vs.length) v)
  | [], _, _, h => absurd rfl h
  | [u], i, v, _ => rfl
  | u :: w :: r, i, v, _ => by
    show fTxt o i u ++ ([44, 32] ++ joinT o (i + 1) ((w :: r) ++ [v])) = (fTxt o i u ++ ([44, 32] ++ joinT o (i + 1) (w :: r))) ++ _
    rw [zjb (by simp)]
    simp only [List.length_cons, List.append_assoc]
    rw [show i + 1 + (r.length + 1) = i + (r.length + 1 + 1) by omega]
theorem zea {o : Bool} {i v : Nat} (hi : i < 256) (hv : v < 256) : (fTxt o i v).length ≤ 30 := by
  have h1 := (dgs i hi).len
  have h2 := (dgs v hv).len
  unfold fTxt
  cases o <;> simp only [List.length_cons, List.length_append, List.length_nil, if_true, Bool.false_eq_true, if_false] <;> omega
theorem zhO {o : Bool} : ∀ {vs : List Nat} {i : Nat}, i + vs.length ≤ 256 → (∀ v ∈ vs, v < 256) → (joinT o i vs).length ≤ 32 * vs.length
  | [], _, _, _ => Nat.zero_le _
  | [v], i, hi, hv => by
    have := zea (o := o) (i := i) (v := v) (by simp only [List.length_cons, List.length_nil] at hi; omega) (hv v (List.mem_singleton.2 rfl))
    show (fTxt o i v).length ≤ _
    simp only [List.length_cons, List.length_nil]; omega
  | v :: w :: r, i, hi, hv => by
    have h1 := zea (o := o) (i := i) (v := v) (by simp only [List.length_cons] at hi; omega) (hv v (List.mem_cons_self ..))
    have h2 := zhO (o := o) (vs := w :: r) (i := i + 1) (by simp only [List.length_cons] at hi ⊢; omega) (fun u hu => hv u (List.mem_cons_of_mem _ hu))
    show (fTxt o i v ++ ([44, 32] ++ joinT o (i + 1) (w :: r))).length ≤ _
    simp only [List.length_append, List.length_cons, List.length_nil] at h2 ⊢
    omega

/-! ### What is parsed -/
def gflV (o : Bool) (g : Int) : Nat → Nat → List Nat → List GFld
  | _, _, [] => []
  | n, i, v :: r => (nullF (102 :: dgl n) v o).fl g i :: gflV o g (n + 1) (i + 1) r
theorem zpN {o : Bool} : ∀ {vs : List Nat} {n i : Nat}, nsF (flsV o n vs) i = vs.map nodeV
  | [], _, _ => rfl
  | v :: r, n, i => by
    show [nodeV v] ++ nsF (flsV o (n + 1) r) (i + 1) = _
    rw [zpN]; rfl
theorem zkL {o : Bool} : ∀ {vs : List Nat} {n : Nat}, (flsV o n vs).length = vs.length
  | [], _ => rfl
  | v :: r, n => by show (flsV o (n + 1) r).length + 1 = _; rw [zkL]; rfl
theorem zkr {o : Bool} : ∀ {vs : List Nat} {n : Nat}, szL (flsV o n vs) = vs.length
  | [], _ => rfl
  | v :: r, n => by
    show szL (nullF (102 :: dgl n) v o :: flsV o (n + 1) r) = _
    rw [ziE, zkr]
    show 1 + r.length = r.length + 1; omega
theorem zlI {o : Bool} {kind : Int} (h9 : o = true → kind ≠ 9) : ∀ {vs : List Nat} {n : Nat}, (∀ v ∈ vs, v < 256) → ∀ f ∈ flsV o n vs, FldK 1 kind f
  | [], _, _, f, hf => by cases hf
  | v :: r, n, hv, f, hf => by
    rcases List.mem_cons.1 hf with e | e
    · rw [e]; exact zle (hv v (List.mem_cons_self ..)) h9
    · exact zlI h9 (fun u hu => hv u (List.mem_cons_of_mem _ hu)) f e
theorem zlh {o : Bool} {g : Int} : ∀ {vs : List Nat} {n i j : Nat} {f : GFld}, (gflV o g n i vs)[j]? = some f → ∃ v, vs[j]? = some v ∧ f = (nullF (102 :: dgl (n + j)) v o).fl g (i + j)
  | [], _, _, _, _, h => by cases h
  | v :: r, n, i, 0, f, h => ⟨v, rfl, by cases h; rfl⟩
  | v :: r, n, i, j + 1, f, h => by
    obtain ⟨w, h1, h2⟩ := zlh (j := j) (show (gflV o g (n + 1) (i + 1) r)[j]? = some f from h)
    exact ⟨w, h1, by rw [h2, show n + 1 + j = n + (j + 1) by omega, show i + 1 + j = i + (j + 1) by omega]⟩
theorem zdu {o : Bool} {g : Int} : ∀ {vs : List Nat} {n i : Nat}, (gflV o g n i vs).length = vs.length
  | [], _, _ => rfl
  | v :: r, n, i => by show (gflV o g (n + 1) (i + 1) r).length + 1 = _; rw [zdu]; rfl
def asV (kind : Int) (l : List FI) : As := ⟨[65], fldsT kind l, szI l + 1, fun i => endN (ndI 0 l (i + 1) { zm noM with kind := kind }) :: nsI l (i + 1), 2⟩
theorem zqB {kind : Int} (hk : kind = 7 ∨ kind = 8 ∨ kind = 9) {l : List FI} (hne : l ≠ []) (hF : okI 1 kind false l) (hs : szI l ≤ 300) (hl : (l.flatMap FI.fls).length ≤ 1000) : AsK (asV kind l) := by
  have hb := zll hk hne hF hs hl
  have hB : Beg 5 (kwF kind) := by
    rcases hk with rfl | rfl | rfl <;> exact fun ⟨_, _, _⟩ h1 h2 => by dsimp only at h1 h2; subst h1; subst h2; kernel_rfl
  exact ⟨zp4 hb hB (by rcases hk with rfl | rfl | rfl <;> rfl), by show 2 ≤ 17; omega⟩
theorem zpD {fls : List Fl} : (fls.map FI.one).flatMap FI.fls = fls := by
  induction fls with
  | nil => rfl
  | cons f r ih => show f :: (r.map FI.one).flatMap FI.fls = _; rw [ih]
end Go.Proofs.Q


namespace Go.Proofs.Q
open Go.Sy
set_option maxRecDepth 4000
def zbb (a_a0 : Int) : Option (Str × Int) :=
  ck ((a_a0 + (1 : Int))) <| cal (zb3 fuel (UInt64.ofNat ((a_a0 + (1 : Int)) % 18446744073709551616).toNat)) fun y4 => asr (Nat.ble ((Str.mk [102]).b.length + y4.b.length) 4611686018427387904) <| asr (Nat.ble ((Str.mk ((Str.mk [102]).b ++ y4.b)).b.length + (Str.mk [32, 91]).b.length) 4611686018427387904) <| cal (zb3 fuel (UInt64.ofNat ((a_a0 + (1 : Int)) % 18446744073709551616).toNat)) fun y7 => asr (Nat.ble ((Str.mk ((Str.mk ((Str.mk [102]).b ++ y4.b)).b ++ (Str.mk [32, 91]).b)).b.length + y7.b.length) 4611686018427387904) <| asr (Nat.ble ((Str.mk ((Str.mk ((Str.mk ((Str.mk [102]).b ++ y4.b)).b ++ (Str.mk [32, 91]).b)).b ++ y7.b)).b.length + (Str.mk [93, 32, 78, 85, 76, 76, 32, 79, 80, 84, 73, 79, 78, 65, 76]).b.length) 4611686018427387904) <| some ((Str.mk ((Str.mk ((Str.mk ((Str.mk ((Str.mk [102]).b ++ y4.b)).b ++ (Str.mk [32, 91]).b)).b ++ y7.b)).b ++ (Str.mk [93, 32, 78, 85, 76, 76, 32, 79, 80, 84, 73, 79, 78, 65, 76]).b)), (a_a0 + (1 : Int)))

def zdy (a_x : Int) (a_y : Int) : Option (Bool) :=
  some ((decide (a_x = a_y)))

def zfD (a_a : (List Int)) (a_b : (List Int)) : Option (Bool) :=
  br (!decide ((a_a.length : Int) = (a_b.length : Int))) (some (false)) (lp (ι := Int) (fun L2 q1 => br (decide (q1 < (a_a.length : Int))) (cal (getI a_a q1) fun y7 => cal (getI a_b q1) fun y8 => cal (zdy y7 y8) fun y9 => br (!y9) (some (false)) (ck ((q1 + (1 : Int))) <| L2 ((q1 + (1 : Int))))) (some (true))) (((0 : Int))))

def zec (a_a : (List Int)) (a_b : (List Int)) : Option (Bool) :=
  cal (zfD a_a a_b) fun y1 => some (y1)

def zeX (a_a : (List (List Int))) (a_b : (List (List Int))) : Option (Bool) :=
  br (!decide ((a_a.length : Int) = (a_b.length : Int))) (some (false)) (lp (ι := Int) (fun L2 q1 => br (decide (q1 < (a_a.length : Int))) (cal (getI a_a q1) fun y7 => cal (getI a_b q1) fun y8 => cal (zec y7 y8) fun y9 => br (!y9) (some (false)) (ck ((q1 + (1 : Int))) <| L2 ((q1 + (1 : Int))))) (some (true))) (((0 : Int))))

def zd6 (a_a : (List (List Int))) (a_b : (List (List Int))) : Option (Bool) :=
  cal (zeX a_a a_b) fun y1 => some (y1)

def zcI (zd4 : (List Int)) (zhz : Int) : Option (Bool) :=
  asr (!decide ((3 : UInt64) = 0)) <| ck ((((UInt64.ofNat (zhz % 18446744073709551616).toNat) % (3 : UInt64)).toNat : Int)) <| br (decide ((8 : Int) < (zd4.length : Int))) (cal (zcM ) fun y3 => some (y3)) (lp (ι := Str × Int × Int) (fun L6 q5 => br (decide (q5.2.1 < (((UInt64.ofNat (zhz % 18446744073709551616).toNat) % (3 : UInt64)).toNat : Int))) (cal (zbb q5.2.2) fun y130 => asr (Nat.ble (q5.1.b.length + y130.1.b.length) 4611686018427387904) <| asr (Nat.ble ((Str.mk (q5.1.b ++ y130.1.b)).b.length + (Str.mk [44, 32]).b.length) 4611686018427387904) <| ck ((q5.2.1 + (1 : Int))) <| L6 ((Str.mk ((Str.mk (q5.1.b ++ y130.1.b)).b ++ (Str.mk [44, 32]).b)), (q5.2.1 + (1 : Int)), y130.2)) (asr (Nat.ble (q5.1.b.length + (Str.mk [46, 46, 46]).b.length) 4611686018427387904) <| lp (ι := Str × (List (List Int)) × Int × Int) (fun L136 q135 => br (decide (q135.2.2.1 < (zd4.length : Int))) (jp (ι := Str × (List (List Int)) × Int) (fun J195 => cal (getI zd4 q135.2.2.1) fun y196 => asr (!decide ((4 : UInt64) = 0)) <| ck ((((UInt64.ofNat (y196 % 18446744073709551616).toNat) % (4 : UInt64)).toNat : Int)) <| asr (Nat.ble (q135.1.b.length + (Str.mk [44, 32]).b.length) 4611686018427387904) <| br (decide ((((UInt64.ofNat (y196 % 18446744073709551616).toNat) % (4 : UInt64)).toNat : Int) = (0 : Int))) (asr (Nat.ble (q135.2.1.length + ([([q135.2.2.2] : (List Int))] : (List (List Int))).length) 68719476736) <| cal (zbb q135.2.2.2) fun y204 => asr (Nat.ble ((Str.mk (q135.1.b ++ (Str.mk [44, 32]).b)).b.length + y204.1.b.length) 4611686018427387904) <| J195 ((Str.mk ((Str.mk (q135.1.b ++ (Str.mk [44, 32]).b)).b ++ y204.1.b)), (q135.2.1 ++ ([([q135.2.2.2] : (List Int))] : (List (List Int)))), y204.2)) (asr (Nat.ble ((Str.mk (q135.1.b ++ (Str.mk [44, 32]).b)).b.length + (Str.mk [91, 91, 32]).b.length) 4611686018427387904) <| lp (ι := Str × (List Int) × Int × Int) (fun L208 q207 => br (decide (q207.2.2.1 < (((UInt64.ofNat (y196 % 18446744073709551616).toNat) % (4 : UInt64)).toNat : Int))) (jp (ι := Str) (fun J223 => br (decide ((0 : Int) < q207.2.2.1)) (asr (Nat.ble (q207.1.b.length + (Str.mk [44, 32]).b.length) 4611686018427387904) <| J223 ((Str.mk (q207.1.b ++ (Str.mk [44, 32]).b)))) (J223 (q207.1))) (fun q222 => asr (Nat.ble (q207.2.1.length + ([q207.2.2.2] : (List Int)).length) 68719476736) <| cal (zbb q207.2.2.2) fun y228 => asr (Nat.ble (q222.b.length + y228.1.b.length) 4611686018427387904) <| ck ((q207.2.2.1 + (1 : Int))) <| L208 ((Str.mk (q222.b ++ y228.1.b)), (q207.2.1 ++ ([q207.2.2.2] : (List Int))), (q207.2.2.1 + (1 : Int)), y228.2))) (asr (Nat.ble (q207.1.b.length + (Str.mk [32, 93, 93]).b.length) 4611686018427387904) <| asr (Nat.ble (q135.2.1.length + ([q207.2.1] : (List (List Int))).length) 68719476736) <| J195 ((Str.mk (q207.1.b ++ (Str.mk [32, 93, 93]).b)), (q135.2.1 ++ ([q207.2.1] : (List (List Int)))), q207.2.2.2))) (((Str.mk ((Str.mk (q135.1.b ++ (Str.mk [44, 32]).b)).b ++ (Str.mk [91, 91, 32]).b)), ([] : (List Int)), (0 : Int), q135.2.2.2)))) (fun q194 => ck ((q135.2.2.1 + (1 : Int))) <| L136 (q194.1, q194.2.1, (q135.2.2.1 + (1 : Int)), q194.2.2))) (asr (Nat.ble ((Str.mk [77, 32, 68, 69, 70, 73, 78, 73, 84, 73, 79, 78, 83, 32, 73, 77, 80, 76, 73, 67, 73, 84, 32, 84, 65, 71, 83, 32, 58, 58, 61, 32, 66, 69, 71, 73, 78, 32, 65, 32, 58, 58, 61, 32, 83, 69, 81, 85, 69, 78, 67, 69, 32, 123, 32]).b.length + q135.1.b.length) 4611686018427387904) <| asr (Nat.ble ((Str.mk ((Str.mk [77, 32, 68, 69, 70, 73, 78, 73, 84, 73, 79, 78, 83, 32, 73, 77, 80, 76, 73, 67, 73, 84, 32, 84, 65, 71, 83, 32, 58, 58, 61, 32, 66, 69, 71, 73, 78, 32, 65, 32, 58, 58, 61, 32, 83, 69, 81, 85, 69, 78, 67, 69, 32, 123, 32]).b ++ q135.1.b)).b.length + (Str.mk [32, 125, 32, 69, 78, 68]).b.length) 4611686018427387904) <| cal (zaX (Str.mk ((Str.mk ((Str.mk [77, 32, 68, 69, 70, 73, 78, 73, 84, 73, 79, 78, 83, 32, 73, 77, 80, 76, 73, 67, 73, 84, 32, 84, 65, 71, 83, 32, 58, 58, 61, 32, 66, 69, 71, 73, 78, 32, 65, 32, 58, 58, 61, 32, 83, 69, 81, 85, 69, 78, 67, 69, 32, 123, 32]).b ++ q135.1.b)).b ++ (Str.mk [32, 125, 32, 69, 78, 68]).b))) fun y240 => cal (zcM ) fun y242 => jp (ι := Bool) (fun J244 => br y242 (J244 (y240.2)) (J244 (false))) (fun q243 => jp (ι := Bool) (fun J247 => br q243 (cal (zeh y240.1 (0 : Int)) fun y249 => cal (zd6 y249 q135.2.1) fun y250 => J247 (y250)) (J247 (false))) (fun q246 => some (q246))))) (((Str.mk (q5.1.b ++ (Str.mk [46, 46, 46]).b)), ([] : (List (List Int))), (0 : Int), q5.2.2)))) (((Str.mk []), (0 : Int), (0 : Int))))
end Go.Proofs.Q

