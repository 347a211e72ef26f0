/- OrderGroups: whatever its arguments are, the law's model answers true. No condition. -/
import Derived.Test.YtnnijoepfgnlfaaDoorOgA
import Derived.Test.YtnnijoepfgnlfaaDoorOgB
import Derived.Test.YtnnijoepfgnlfaaDoorOgC
import Derived.KernelRfl
set_option linter.unusedVariables false
set_option linter.unusedSimpArgs false

namespace Go.Proofs.Q
open Go.Sy
set_option maxRecDepth 4000
def tokF (s : Str) : Option (List GTok × Int × Int) := some (toks s.b)
theorem zpI : zcN = tokF := funext zhH
def zg3 (zbe : Str) : Option (GMod × Int × Int) :=
  cal (tokF zbe) fun y2 => br (!decide (y2.2.2 = (0 : Int))) (some ((GMod.mk (Str.mk []) (0 : Int) ([] : (List Str)) ([] : (List Int)) ([] : (List GNode))), y2.2.1, y2.2.2)) (cal (zaJ (GPar.mk y2.1 (0 : Int) (GMod.mk (Str.mk []) (0 : Int) ([] : (List Str)) ([] : (List Int)) ([] : (List GNode))) (0 : Int) (0 : Int)) (1 : Int)) fun y7 => cal (zO (GPar.mk y7.2.l y7.2.at_ (GMod.mk y7.1 y7.2.m.tagging y7.2.m.names y7.2.m.types y7.2.m.nodes) y7.2.e y7.2.p) (Str.mk [68, 69, 70, 73, 78, 73, 84, 73, 79, 78, 83])) fun y10 => jp (ι := GPar) (fun J14 => cal (zF y10 (Str.mk [69, 88, 80, 76, 73, 67, 73, 84])) fun y15 => br y15.1 (cal (zO y15.2 (Str.mk [84, 65, 71, 83])) fun y18 => J14 (y18)) (cal (zF y15.2 (Str.mk [73, 77, 80, 76, 73, 67, 73, 84])) fun y21 => br y21.1 (cal (zO (GPar.mk y21.2.l y21.2.at_ (GMod.mk y21.2.m.name (1 : Int) y21.2.m.names y21.2.m.types y21.2.m.nodes) y21.2.e y21.2.p) (Str.mk [84, 65, 71, 83])) fun y24 => J14 (y24)) (cal (zF y21.2 (Str.mk [65, 85, 84, 79, 77, 65, 84, 73, 67])) fun y27 => br y27.1 (cal (zO (GPar.mk y27.2.l y27.2.at_ (GMod.mk y27.2.m.name (2 : Int) y27.2.m.names y27.2.m.types y27.2.m.nodes) y27.2.e y27.2.p) (Str.mk [84, 65, 71, 83])) fun y30 => J14 (y30)) (J14 (y27.2))))) (fun q13 => cal (zO q13 (Str.mk [58, 58, 61])) fun y33 => cal (zO y33 (Str.mk [66, 69, 71, 73, 78])) fun y36 => lp (ι := GPar) (fun L40 q39 => jp (ι := Bool × GPar) (fun J92 => br (decide (q39.e = (0 : Int))) (cal (zF q39 (Str.mk [69, 78, 68])) fun y94 => J92 ((!y94.1), y94.2)) (J92 (false, q39))) (fun q91 => br q91.1 (cal (zah q91.2) fun y97 => cal (zaJ y97.2 (1 : Int)) fun y101 => jp (ι := Bool) (fun J105 => br (decide (y101.2.e = (0 : Int))) (J105 ((decide ((40 : Int) ≤ (y101.2.m.names.length : Int))))) (J105 (false))) (fun q104 => jp (ι := GPar) (fun J108 => br q104 (cal (zay y101.2 (5 : Int) y97.1) fun y109 => J108 (y109)) (J108 (y101.2))) (fun q107 => cal (zO q107 (Str.mk [58, 58, 61])) fun y112 => cal (zaz fuel y112 (0 : Int)) fun y115 => asr (Nat.ble (y115.2.m.names.length + ([y101.1] : (List Str)).length) 68719476736) <| asr (Nat.ble (y115.2.m.types.length + ([y115.1] : (List Int)).length) 68719476736) <| L40 ((GPar.mk y115.2.l y115.2.at_ (GMod.mk y115.2.m.name y115.2.m.tagging (y115.2.m.names ++ ([y101.1] : (List Str))) (y115.2.m.types ++ ([y115.1] : (List Int))) y115.2.m.nodes) y115.2.e y115.2.p))))) (jp (ι := Bool × GPar) (fun J126 => br (decide (q91.2.e = (0 : Int))) (cal (zah q91.2) fun y128 => J126 ((!decide (y128.1.kind = (0 : Int))), y128.2)) (J126 (false, q91.2))) (fun q125 => jp (ι := GPar) (fun J132 => br q125.1 (cal (zah q125.2) fun y133 => cal (zay y133.2 (7 : Int) y133.1) fun y136 => J132 (y136)) (J132 (q125.2))) (fun q131 => br (!decide (q131.e = (0 : Int))) (some ((GMod.mk (Str.mk []) (0 : Int) ([] : (List Str)) ([] : (List Int)) ([] : (List GNode))), q131.p, q131.e)) (some (q131.m, (0 : Int), (0 : Int)))))))) ((y36))))
theorem zjg : zcn = zg3 := by
  funext zbe
  unfold zcn zg3
  rw [zpI]
def zdQ (zbe : Str) : Option (GTab × Bool) :=
  br (decide ((3000 : Int) < (zbe.b.length : Int))) (some ((GTab.mk (Str.mk []) ([] : (List Str)) ([] : (List Int)) ([] : (List GTyp))), false)) (cal (zg3 zbe) fun y2 => br (!decide (y2.2.2 = (0 : Int))) (some ((GTab.mk (Str.mk []) ([] : (List Str)) ([] : (List Int)) ([] : (List GTyp))), false)) (cal (zc1 y2.1) fun y4 => jp (ι := Bool) (fun J7 => br (decide (y4.2.2 = (0 : Int))) (J7 ((decide ((y4.1.types.length : Int) ≤ (120 : Int))))) (J7 (false))) (fun q6 => some (y4.1, q6))))
theorem zgG : zaX = zdQ := by
  funext zbe
  unfold zaX zdQ
  rw [zjg]
def zhp : Option (Bool) :=
  cal (zdQ (Str.mk [77, 32, 68, 69, 70, 73, 78, 73, 84, 73, 79, 78, 83, 32, 58, 58, 61, 32, 66, 69, 71, 73, 78, 32, 65, 32, 58, 58, 61, 32, 83, 69, 84, 32, 123, 32, 97, 32, 91, 49, 93, 32, 78, 85, 76, 76, 44, 32, 98, 32, 91, 48, 93, 32, 78, 85, 76, 76, 32, 125, 32, 69, 78, 68])) fun y1 => cal (zeq y1.1 (0 : Int)) fun y3 => jp (ι := Bool) (fun J5 => br y1.2 (J5 ((decide ((y3.length : Int) = (2 : Int))))) (J5 (false))) (fun q4 => jp (ι := Bool) (fun J8 => br q4 (cal (getI y3 (0 : Int)) fun y10 => J8 ((decide (y10 = (1 : Int))))) (J8 (false))) (fun q7 => jp (ι := Bool) (fun J12 => br q7 (cal (getI y3 (1 : Int)) fun y14 => J12 ((decide (y14 = (0 : Int))))) (J12 (false))) (fun q11 => some (q11))))
theorem zh8 : zcM = zhp := by
  unfold zcM zhp
  rw [zgG]
end Go.Proofs.Q


namespace Go.Proofs.Q
open Go.Sy
set_option linter.unusedVariables false
set_option maxRecDepth 4000

theorem awake11 : zcM = some true := by rw [zh8]; kernel_rfl
def upt : Nat → Nat → List Nat
  | _, 0 => []
  | i, k + 1 => i :: upt (i + 1) k
theorem zbi : ∀ {k i : Nat}, (upt i k).length = k
  | 0, _ => rfl
  | k + 1, i => by show (upt (i + 1) k).length + 1 = _; rw [zbi]
theorem zeR : ∀ {k i x : Nat}, x ∈ upt i k → i ≤ x ∧ x < i + k
  | 0, _, _, h => by cases h
  | k + 1, i, x, h => by
    rcases List.mem_cons.1 h with e | e
    · omega
    · have := zeR e; omega
theorem zil : ∀ {a b i : Nat}, upt i (a + b) = upt i a ++ upt (i + a) b
  | 0, b, i => by rw [Nat.zero_add]; rfl
  | a + 1, b, i => by
    rw [show a + 1 + b = (a + b) + 1 by omega]
    show i :: upt (i + 1) (a + b) = i :: (upt (i + 1) a ++ _)
    rw [zil, show i + 1 + a = i + (a + 1) by omega]
theorem zod : ∀ {k i : Nat}, (upt i k).Nodup
  | 0, _ => .nil
  | k + 1, i => List.nodup_cons.2 ⟨fun h => by have := zeR h; omega, zod⟩
theorem zim {o : Bool} : ∀ {a b : List Nat} {n : Nat}, flsV o n (a ++ b) = flsV o n a ++ flsV o (n + a.length) b
  | [], _, _ => rfl
  | v :: r, b, n => by
    show nullF _ v o :: flsV o (n + 1) (r ++ b) = nullF _ v o :: (flsV o (n + 1) r ++ _)
    rw [zim, show n + 1 + r.length = n + (v :: r).length by rw [List.length_cons]; omega]

/-! ### What stands behind the dots -/
def fiG : Nat → List Nat → List FI
  | _, [] => []
  | i, 0 :: r => .one (nullF (102 :: dgl (i + 1)) (i + 1) true) :: fiG (i + 1) r
  | i, (k + 1) :: r => .grp (flsV true (i + 1) (upt (i + 1) (k + 1))) :: fiG (i + (k + 1)) r
def totG : List Nat → Nat
  | [] => 0
  | 0 :: r => 1 + totG r
  | (k + 1) :: r => (k + 1) + totG r
def txG : Nat → List Nat → List UInt8
  | _, [] => []
  | i, 0 :: r => [44, 32] ++ (fTxt true (i + 1) (i + 1) ++ txG (i + 1) r)
  | i, (k + 1) :: r => [44, 32] ++ ([91, 91, 32] ++ (joinT true (i + 1) (upt (i + 1) (k + 1)) ++ ([32, 93, 93] ++ txG (i + (k + 1)) r)))
def gG : Int → Nat → List Nat → List GFld
  | _, _, [] => []
  | g, i, 0 :: r => (nullF (102 :: dgl (i + 1)) (i + 1) true).fl 0 (i + 1) :: gG g (i + 1) r
  | g, i, (k + 1) :: r => gflV true (g + 1) (i + 1) (i + 1) (upt (i + 1) (k + 1)) ++ gG (g + 1) (i + (k + 1)) r
def wantG : Nat → List Nat → List (List Int)
  | _, [] => []
  | i, 0 :: r => [(i : Int)] :: wantG (i + 1) r
  | i, (k + 1) :: r => rng i (i + (k + 1) : Nat) :: wantG (i + (k + 1)) r
theorem zj2 : ∀ {ks : List Nat} {i : Nat}, (fiG i ks).flatMap FI.fls = flsV true (i + 1) (upt (i + 1) (totG ks))
  | [], _ => rfl
  | 0 :: r, i => by
    show nullF _ (i + 1) true :: (fiG (i + 1) r).flatMap FI.fls = _
    rw [zj2]
    show _ = flsV true (i + 1) (upt (i + 1) (1 + totG r))
    rw [Nat.add_comm 1]; rfl
  | (k + 1) :: r, i => by
    show flsV true (i + 1) (upt (i + 1) (k + 1)) ++ (fiG (i + (k + 1)) r).flatMap FI.fls = _
    rw [zj2]
    show _ = flsV true (i + 1) (upt (i + 1) ((k + 1) + totG r))
    rw [zil (a := k + 1) (b := totG r), zim, zbi, show i + (k + 1) + 1 = i + 1 + (k + 1) by omega]
theorem zpv {o : Bool} {vs : List Nat} {n : Nat} (h : vs ≠ []) : flsV o n vs ≠ [] := by
  cases vs with
  | nil => exact absurd rfl h
  | cons v r => intro e; cases e
theorem zmj : ∀ {ks : List Nat} {i : Nat}, i + totG ks < 255 → okI 1 7 true (fiG i ks)
  | [], _, _ => trivial
  | 0 :: r, i, h => by
    have h : i + (1 + totG r) < 255 := h
    exact ⟨zle (by omega) (fun _ => by decide), zmj (by omega)⟩
  | (k + 1) :: r, i, h => by
    have h : i + ((k + 1) + totG r) < 255 := h
    exact ⟨rfl, zpv (by intro e; cases e), zlI (fun _ => by decide) (fun v hv => by have := zeR hv; omega), zmj (by omega)⟩
theorem zmo : ∀ {ks : List Nat} {i : Nat} {x : List UInt8} {tk : KS}, i + totG ks < 255 → KT (32 :: x) tk → KT (txG i ks ++ 32 :: x) ((fiG i ks).flatMap (fun y => (6, [44]) :: y.toks) ++ tk) ∧ ((∃ r, txG i ks ++ 32 :: x = 44 :: r) ∨ ∃ r, txG i ks ++ 32 :: x = 32 :: r)
  | [], _, x, tk, _, hx => ⟨hx, .inr ⟨x, rfl⟩⟩
  | 0 :: r, i, x, tk, h, hx => by
    have h : i + (1 + totG r) < 255 := h
    obtain ⟨k1, k2⟩ := zmo (ks := r) (i := i + 1) (by omega) hx
    have e : txG i (0 :: r) ++ 32 :: x = 44 :: 32 :: (fTxt true (i + 1) (i + 1) ++ (txG (i + 1) r ++ 32 :: x)) := by
      show ([44, 32] ++ (fTxt true (i + 1) (i + 1) ++ txG (i + 1) r)) ++ 32 :: x = _
      simp
    have et : (fiG i (0 :: r)).flatMap (fun y => (6, [44]) :: y.toks) ++ tk = (6, [44]) :: ((nullF (102 :: dgl (i + 1)) (i + 1) true).toks ++ ((fiG (i + 1) r).flatMap (fun y => (6, [44]) :: y.toks) ++ tk)) := by
      show ((6, [44]) :: (nullF (102 :: dgl (i + 1)) (i + 1) true).toks) ++ (fiG (i + 1) r).flatMap _ ++ tk = _
      simp
    rw [e, et]
    exact ⟨.tok rfl rfl (KT.sp (zh9 (by omega) (by omega) k1 k2)), .inl ⟨_, rfl⟩⟩
  | (k + 1) :: r, i, x, tk, h, hx => by
    have h : i + ((k + 1) + totG r) < 255 := h
    obtain ⟨k1, k2⟩ := zmo (ks := r) (i := i + (k + 1)) (by omega) hx
    have e : txG i ((k + 1) :: r) ++ 32 :: x = 44 :: 32 :: 91 :: 91 :: 32 :: (joinT true (i + 1) (upt (i + 1) (k + 1)) ++ 32 :: (93 :: 93 :: (txG (i + (k + 1)) r ++ 32 :: x))) := by
      show ([44, 32] ++ ([91, 91, 32] ++ (joinT true (i + 1) (upt (i + 1) (k + 1)) ++ ([32, 93, 93] ++ txG (i + (k + 1)) r)))) ++ 32 :: x = _
      simp
    have et : (fiG i ((k + 1) :: r)).flatMap (fun y => (6, [44]) :: y.toks) ++ tk = (6, [44]) :: (6, [91, 91]) :: (sepK ((flsV true (i + 1) (upt (i + 1) (k + 1))).map Fl.toks) ++ ((6, [93, 93]) :: ((fiG (i + (k + 1)) r).flatMap (fun y => (6, [44]) :: y.toks) ++ tk))) := by
      show ((6, [44]) :: (6, [91, 91]) :: (sepK ((flsV true (i + 1) (upt (i + 1) (k + 1))).map Fl.toks) ++ [(6, [93, 93])])) ++ (fiG (i + (k + 1)) r).flatMap _ ++ tk = _
      simp
    have h93 : KT (32 :: 93 :: 93 :: (txG (i + (k + 1)) r ++ 32 :: x)) ((6, [93, 93]) :: ((fiG (i + (k + 1)) r).flatMap (fun y => (6, [44]) :: y.toks) ++ tk)) := by
      rcases k2 with ⟨y, hy⟩ | ⟨y, hy⟩ <;> rw [hy] at k1 ⊢ <;> exact .tok rfl rfl k1
    rw [e, et]
    exact ⟨.tok rfl rfl (.tok rfl rfl (KT.sp (zkM (by intro e; cases e) (by rw [zbi]; omega) (fun v hv => by have := zeR hv; omega) h93))), .inl ⟨_, rfl⟩⟩
theorem zmy {o : Bool} {rest : List FI} : ∀ {vs : List Nat} {n i : Nat} {nd : GNode}, ndI 0 ((flsV o n vs).map FI.one ++ rest) i nd = ndI 0 rest (i + vs.length) ⟨nd.kind, nd.name, nd.mark, nd.con, nd.items, nd.fields ++ gflV o 0 n i vs, nd.root, nd.more, nd.of⟩
  | [], _, _, nd => by show ndI 0 rest _ nd = _; simp only [gflV, List.append_nil]; rfl
  | v :: r, n, i, nd => by
    show ndI 0 ((flsV o (n + 1) r).map FI.one ++ rest) (i + 1) (addF nd _) = _
    rw [zmy]
    unfold addF
    simp only [List.append_assoc, List.singleton_append, List.length_cons]
    rw [show i + 1 + r.length = i + (r.length + 1) by omega]; rfl
theorem zpM {o : Bool} {g : Int} : ∀ {vs : List Nat} {n i : Nat} {nd : GNode}, ndF g (flsV o n vs) i nd = ⟨nd.kind, nd.name, nd.mark, nd.con, nd.items, nd.fields ++ gflV o g n i vs, nd.root, nd.more, nd.of⟩
  | [], _, _, nd => by show nd = _; simp only [gflV, List.append_nil]
  | v :: r, n, i, nd => by
    show ndF g (flsV o (n + 1) r) (i + 1) (addF nd _) = _
    rw [zpM]
    unfold addF
    simp only [List.append_assoc, List.singleton_append]; rfl
theorem znO : ∀ {ks : List Nat} {g : Int} {i : Nat} {nd : GNode}, ndI g (fiG i ks) (i + 1) nd = ⟨nd.kind, nd.name, nd.mark, nd.con, nd.items, nd.fields ++ gG g i ks, nd.root, nd.more, nd.of⟩
  | [], _, _, nd => by show nd = _; simp only [gG, List.append_nil]
  | 0 :: r, g, i, nd => by
    show ndI g (fiG (i + 1) r) (i + 1 + 1) (addF nd _) = _
    rw [znO]
    unfold addF
    simp only [gG, List.append_assoc, List.singleton_append]
  | (k + 1) :: r, g, i, nd => by
    show ndI (g + 1) (fiG (i + (k + 1)) r) (i + 1 + szL (flsV true (i + 1) (upt (i + 1) (k + 1)))) (ndF (g + 1) _ (i + 1) nd) = _
    rw [zkr, zbi, show i + 1 + (k + 1) = i + (k + 1) + 1 by omega, znO, zpM]
    simp only [gG, List.append_assoc]
def Fs (gf : List GFld) (n : Nat) : Prop := gf.length = n ∧ ∀ (j : Nat) f, gf[j]? = some f → ∃ γ, f = (nullF (102 :: dgl (j + 1)) (j + 1) true).fl γ (1 + j)
theorem zf1 {g : Int} {i k j : Nat} {f : GFld} (h : (gflV true g (i + 1) (i + 1) (upt (i + 1) k))[j]? = some f) : f = (nullF (102 :: dgl (i + j + 1)) (i + j + 1) true).fl g (1 + (i + j)) := by
  obtain ⟨v, h1, h2⟩ := zlh h
  have : ∀ (k i j v : Nat), (upt i k)[j]? = some v → v = i + j := by
    intro k
    induction k with
    | zero => intro i j v h; cases h
    | succ k ih =>
      intro i j v h
      cases j with
      | zero => cases h; rfl
      | succ j => have := ih (i + 1) j v h; omega
  have := this _ _ _ _ h1
  subst this
  rw [h2, show i + 1 + j = i + j + 1 by omega, show i + j + 1 = 1 + (i + j) by omega]
theorem zmh : ∀ {ks : List Nat} {g : Int} {i j : Nat} {f : GFld}, (gG g i ks)[j]? = some f → ∃ γ, f = (nullF (102 :: dgl (i + j + 1)) (i + j + 1) true).fl γ (1 + (i + j))
  | [], _, _, _, _, h => by cases h
  | 0 :: r, g, i, 0, f, h => ⟨0, by cases h; rw [Nat.add_comm 1]⟩
  | 0 :: r, g, i, j + 1, f, h => by
    obtain ⟨γ, e⟩ := zmh (show (gG g (i + 1) r)[j]? = some f from h)
    exact ⟨γ, by rw [e, show i + 1 + j = i + (j + 1) by omega]⟩
  | (k + 1) :: r, g, i, j, f, h => by
    have h : (gflV true (g + 1) (i + 1) (i + 1) (upt (i + 1) (k + 1)) ++ gG (g + 1) (i + (k + 1)) r)[j]? = some f := h
    by_cases hj : j < k + 1
    · rw [List.getElem?_append_left (by rw [zdu, zbi]; exact hj)] at h
      exact ⟨g + 1, zf1 h⟩
    · rw [List.getElem?_append_right (by rw [zdu, zbi]; omega), zdu, zbi] at h
      obtain ⟨γ, e⟩ := zmh h
      exact ⟨γ, by rw [e, show i + (k + 1) + (j - (k + 1)) = i + j by omega]⟩
theorem zlH : ∀ {ks : List Nat} {g : Int} {i : Nat}, (gG g i ks).length = totG ks
  | [], _, _ => rfl
  | 0 :: r, g, i => by show (gG g (i + 1) r).length + 1 = 1 + totG r; rw [zlH]; omega
  | (k + 1) :: r, g, i => by
    show (gflV true (g + 1) (i + 1) (i + 1) (upt (i + 1) (k + 1)) ++ gG (g + 1) (i + (k + 1)) r).length = (k + 1) + totG r
    rw [List.length_append, zdu, zbi, zlH]
theorem Fs.PF {gf : List GFld} {n : Nat} (h : Fs gf n) (hn : n ≤ 100) : PF gf (upt 1 n) where
  len := by rw [h.1, zbi]
  ty := fun j f hj => by obtain ⟨γ, e⟩ := h.2 j f hj; rw [e]; rfl
  has := fun f hf => by
    obtain ⟨j, hj⟩ := List.getElem?_of_mem hf
    obtain ⟨γ, e⟩ := h.2 j f hj
    rw [e]; rfl
  nm := by
    unfold List.Nodup
    rw [List.pairwise_map, List.pairwise_iff_getElem]
    intro i j hi hj hij e
    obtain ⟨γ, e1⟩ := h.2 i _ (List.getElem?_eq_getElem hi)
    obtain ⟨δ, e2⟩ := h.2 j _ (List.getElem?_eq_getElem hj)
    rw [e1, e2] at e
    have e : dgl (i + 1) = dgl (j + 1) := by
      have : (⟨102 :: dgl (i + 1)⟩ : Str) = ⟨102 :: dgl (j + 1)⟩ := e
      injection this with this
      injection this
    have := zo9 (by rw [h.1] at hi; omega) (by rw [h.1] at hj; omega) e
    omega
  nd := zod
  v := fun v hv => by have := zeR hv; omega
  l := by rw [zbi]; exact hn

/-! ### Their slots -/
theorem zld {fs : List GFld} {out : List (List Int)} {k : Int} (h : ¬ (0 < grp fs k ∧ out ≠ [] ∧ grp fs (k - 1) = grp fs k)) : slot1 true fs out k = out ++ [[k]] := by
  unfold slot1
  rw [if_neg]
  intro hc
  simp only [Bool.true_and, Bool.and_eq_true, decide_eq_true_eq] at hc
  exact h ⟨hc.1.1, fun e => by rw [e] at hc; simp at hc, hc.2⟩
theorem znk {fs : List GFld} {out : List (List Int)} {l : List Int} {k : Int} (h1 : 0 < grp fs k) (h2 : grp fs (k - 1) = grp fs k) : slot1 true fs (out ++ [l]) k = out ++ [l ++ [k]] := by
  unfold slot1
  rw [if_pos]
  · have hl : (out ++ [l]).length - 1 = out.length := by rw [List.length_append, List.length_singleton]; omega
    rw [hl, List.getElem?_append_right (Nat.le_refl _), Nat.sub_self, List.set_append_right _ _ (Nat.le_refl _), Nat.sub_self]; rfl
  · simp only [Bool.true_and, Bool.and_eq_true, decide_eq_true_eq, List.length_append, List.length_singleton]
    exact ⟨⟨h1, by omega⟩, h2⟩
theorem zix {a b : Int} (h : a < b) : rng a b = a :: rng (a + 1) b := by
  have e : rng a b = rng a (a + 1) ++ rng (a + 1) b := by
    have : ∀ k : Nat, rng a (a + 1 + k) = rng a (a + 1) ++ rng (a + 1) (a + 1 + k) := by
      intro k
      induction k with
      | zero => rw [show a + 1 + ((0 : Nat) : Int) = a + 1 by omega, zd2 (Int.le_refl (a + 1)), List.append_nil]
      | succ k ih =>
        rw [show a + 1 + ((k + 1 : Nat) : Int) = a + 1 + (k : Int) + 1 by omega, zed (a := a) (b := a + 1 + (k : Int)) (by omega), ih, zed (a := a + 1) (b := a + 1 + (k : Int)) (by omega), List.append_assoc]
    have := this (b - (a + 1)).toNat
    rw [show a + 1 + (((b - (a + 1)).toNat : Nat) : Int) = b by omega] at this
    exact this
  rw [e, zed (Int.le_refl a), zd2 (Int.le_refl a)]; rfl
theorem zo4 {a b c : Int} (h1 : a ≤ b) (h2 : b ≤ c) : rng a c = rng a b ++ rng b c := by
  have : ∀ k : Nat, rng a (b + k) = rng a b ++ rng b (b + k) := by
    intro k
    induction k with
    | zero => rw [show b + ((0 : Nat) : Int) = b by omega, zd2 (Int.le_refl b), List.append_nil]
    | succ k ih => rw [show b + ((k + 1 : Nat) : Int) = b + (k : Int) + 1 by omega, zed (a := a) (b := b + (k : Int)) (by omega), ih, zed (a := b) (b := b + (k : Int)) (by omega), List.append_assoc]
  have := this (c - b).toNat
  rw [show b + (((c - b).toNat : Nat) : Int) = c by omega] at this
  exact this
theorem zjq {fs : List GFld} {γ : Int} (hγ : 0 < γ) : ∀ (k : Nat) (i : Int) (out : List (List Int)) (l : List Int), 0 ≤ i → (∀ j : Int, i - 1 ≤ j → j < i + k → grp fs j = γ) → (rng i (i + k)).foldl (slot1 true fs) (out ++ [l]) = out ++ [l ++ rng i (i + k)]
  | 0, i, out, l, _, _ => by rw [show i + ((0 : Nat) : Int) = i by omega, zd2 (Int.le_refl i), List.append_nil]; rfl
  | k + 1, i, out, l, h0, hg => by
    rw [zix (by omega), List.foldl_cons, znk (by rw [hg i (by omega) (by omega)]; exact hγ) (by rw [hg (i - 1) (by omega) (by omega), hg i (by omega) (by omega)])]
    rw [show i + ((k + 1 : Nat) : Int) = i + 1 + (k : Int) by omega, zjq hγ k (i + 1) out (l ++ [i]) (by omega) fun j h1 h2 => hg j (by omega) (by omega)]
    rw [List.append_assoc]; rfl
theorem zkF {fs : List GFld} : ∀ {ks : List Nat} {g : Int} {i : Nat} {pre : List GFld} (out : List (List Int)), (out ≠ [] → 0 < i) → fs = pre ++ gG g i ks → pre.length = i → (∀ f ∈ pre, f.group ≤ g) → 0 ≤ g → (rng i (i + totG ks : Nat)).foldl (slot1 true fs) out = out ++ wantG i ks
  | [], g, i, pre, out, _, _, _, _, _ => by
    show (rng i (i + 0 : Nat)).foldl _ _ = out ++ []
    rw [Nat.add_zero, zd2 (Int.le_refl _), List.append_nil]; rfl
  | 0 :: r, g, i, pre, out, ho, hfs, hp, hg, h0 => by
    show (rng i (i + (1 + totG r) : Nat)).foldl _ _ = out ++ [(i : Int)] :: wantG (i + 1) r
    have hgi : grp fs (i : Int) = 0 := by
      unfold grp
      rw [hfs, Int.toNat_natCast, List.getElem?_append_right (by omega), hp, Nat.sub_self]; rfl
    rw [zix (by omega), List.foldl_cons, zld (by rw [hgi]; omega)]
    have ih := zkF (fs := fs) (ks := r) (g := g) (i := i + 1) (pre := pre ++ [(nullF (102 :: dgl (i + 1)) (i + 1) true).fl 0 (i + 1)]) (out ++ [[(i : Int)]]) (fun _ => by omega) (by rw [hfs, List.append_assoc]; rfl) (by rw [List.length_append, List.length_singleton, hp]) (fun f hf => by
      rcases List.mem_append.1 hf with h | h
      · exact hg f h
      · rw [List.mem_singleton.1 h]; exact h0) h0
    rw [show ((i : Int) + 1) = ((i + 1 : Nat) : Int) by omega, show i + (1 + totG r) = i + 1 + totG r by omega, ih, List.append_assoc]; rfl
  | (k + 1) :: r, g, i, pre, out, ho, hfs, hp, hg, h0 => by
    show (rng i (i + ((k + 1) + totG r) : Nat)).foldl _ _ = out ++ rng i (i + (k + 1) : Nat) :: wantG (i + (k + 1)) r
    have hfs' : fs = pre ++ (gflV true (g + 1) (i + 1) (i + 1) (upt (i + 1) (k + 1)) ++ gG (g + 1) (i + (k + 1)) r) := hfs
    have hgi : ∀ j : Int, (i : Int) ≤ j → j < i + (k + 1 : Nat) → grp fs j = g + 1 := fun j h1 h2 => by
      unfold grp
      obtain ⟨f, hf⟩ : ∃ f, (gflV true (g + 1) (i + 1) (i + 1) (upt (i + 1) (k + 1)))[j.toNat - i]? = some f := ⟨_, List.getElem?_eq_getElem (by rw [zdu, zbi]; omega)⟩
      rw [hfs', List.getElem?_append_right (by omega), hp, List.getElem?_append_left (by rw [zdu, zbi]; omega), hf, zf1 hf]; rfl
    have hprev : out ≠ [] → grp fs ((i : Int) - 1) ≠ g + 1 := fun hne => by
      have hi0 := ho hne
      unfold grp
      obtain ⟨f, hf⟩ : ∃ f, pre[i - 1]? = some f := ⟨_, List.getElem?_eq_getElem (by omega)⟩
      rw [hfs', show ((i : Int) - 1).toNat = i - 1 by omega, List.getElem?_append_left (by omega), hf]
      have := hg f (List.mem_of_getElem? hf)
      show f.group ≠ g + 1
      omega
    have hi := hgi (i : Int) (Int.le_refl _) (by omega)
    rw [zo4 (b := (i + (k + 1) : Nat)) (by omega) (by omega), List.foldl_append, zix (a := (i : Int)) (b := (i + (k + 1) : Nat)) (by omega), List.foldl_cons, zld (by rw [hi]; exact fun h => hprev h.2.1 h.2.2)]
    rw [show ((i + (k + 1) : Nat) : Int) = (i : Int) + 1 + (k : Int) by omega, zjq (γ := g + 1) (by omega) k ((i : Int) + 1) out [(i : Int)] (by omega) fun j h1 h2 => hgi j (by omega) (by omega)]
    have ih := zkF (fs := fs) (ks := r) (g := g + 1) (i := i + (k + 1)) (pre := pre ++ gflV true (g + 1) (i + 1) (i + 1) (upt (i + 1) (k + 1))) (out ++ [[(i : Int)] ++ rng ((i : Int) + 1) ((i : Int) + 1 + (k : Int))]) (fun _ => by omega) (by rw [hfs', List.append_assoc]) (by rw [List.length_append, zdu, zbi, hp]) (fun f hf => by
      rcases List.mem_append.1 hf with h | h
      · have := hg f h; omega
      · obtain ⟨j, hj⟩ := List.getElem?_of_mem h
        rw [zf1 hj]
        exact Int.le_refl _) (by omega)
    rw [show i + ((k + 1) + totG r) = i + (k + 1) + totG r by omega]
    rw [show ((i + (k + 1) : Nat) : Int) = (i : Int) + 1 + (k : Int) by omega] at ih
    rw [ih, List.append_assoc]; rfl
end Go.Proofs.Q


namespace Go.Proofs.Q
open Go.Sy
set_option linter.unusedVariables false
set_option maxRecDepth 4000

theorem zjx : ∀ {x : KS} {r : List FI}, sepK (x :: r.map FI.toks) = x ++ r.flatMap (fun y => (6, [44]) :: y.toks)
  | x, [] => by show x = x ++ []; rw [List.append_nil]
  | x, y :: r => by
    show x ++ (6, [44]) :: sepK (y.toks :: r.map FI.toks) = _
    rw [zjx]; simp
theorem ziP {r : List FI} : ∀ {fs : List Fl}, sepK ((fs.map FI.one ++ .dots :: r).map FI.toks) = fs.flatMap (fun f => f.toks ++ [(6, [44])]) ++ ((6, [46, 46, 46]) :: r.flatMap (fun y => (6, [44]) :: y.toks))
  | [] => by
    show sepK ([(6, [46, 46, 46])] :: r.map FI.toks) = _
    rw [zjx]; rfl
  | f :: fs => by
    have ih := ziP (r := r) (fs := fs)
    have e : sepK (((f :: fs).map FI.one ++ .dots :: r).map FI.toks) = f.toks ++ (6, [44]) :: sepK ((fs.map FI.one ++ .dots :: r).map FI.toks) := by
      cases fs with
      | nil => rfl
      | cons g gs => rfl
    rw [e, ih]; simp
def rtT : Nat → Nat → List UInt8
  | _, 0 => []
  | i, k + 1 => fTxt true (i + 1) (i + 1) ++ ([44, 32] ++ rtT (i + 1) k)
theorem zi6 : ∀ {k i : Nat}, rtT i (k + 1) = rtT i k ++ (fTxt true (i + k + 1) (i + k + 1) ++ [44, 32])
  | 0, i => by show fTxt true (i + 1) (i + 1) ++ ([44, 32] ++ []) = [] ++ _; rfl
  | k + 1, i => by
    show fTxt true (i + 1) (i + 1) ++ ([44, 32] ++ rtT (i + 1) (k + 1)) = (fTxt true (i + 1) (i + 1) ++ ([44, 32] ++ rtT (i + 1) k)) ++ _
    rw [zi6, show i + 1 + k + 1 = i + (k + 1) + 1 by omega]; simp
theorem zoN : ∀ {k i : Nat} {x : List UInt8} {tk : KS}, i + k < 255 → KT x tk → KT (rtT i k ++ x) ((flsV true (i + 1) (upt (i + 1) k)).flatMap (fun f => f.toks ++ [(6, [44])]) ++ tk)
  | 0, _, x, tk, _, hx => hx
  | k + 1, i, x, tk, hi, hx => by
    have ih := zoN (k := k) (i := i + 1) (by omega) hx
    have e : rtT i (k + 1) ++ x = fTxt true (i + 1) (i + 1) ++ (44 :: 32 :: (rtT (i + 1) k ++ x)) := by
      show (fTxt true (i + 1) (i + 1) ++ ([44, 32] ++ rtT (i + 1) k)) ++ x = _
      simp
    have et : (flsV true (i + 1) (upt (i + 1) (k + 1))).flatMap (fun f => f.toks ++ [(6, [44])]) ++ tk = (nullF (102 :: dgl (i + 1)) (i + 1) true).toks ++ ((6, [44]) :: ((flsV true (i + 1 + 1) (upt (i + 1 + 1) k)).flatMap (fun f => f.toks ++ [(6, [44])]) ++ tk)) := by
      show ((nullF (102 :: dgl (i + 1)) (i + 1) true).toks ++ [(6, [44])] ++ (flsV true (i + 1 + 1) (upt (i + 1 + 1) k)).flatMap _) ++ tk = _
      simp
    rw [e, et]
    exact zh9 (by omega) (by omega) (.tok rfl rfl (KT.sp ih)) (.inl ⟨_, rfl⟩)
def tx1 (i : Nat) : Nat → List UInt8
  | 0 => [44, 32] ++ fTxt true (i + 1) (i + 1)
  | k + 1 => [44, 32] ++ ([91, 91, 32] ++ (joinT true (i + 1) (upt (i + 1) (k + 1)) ++ [32, 93, 93]))
def w1 (i : Nat) : Nat → List Int
  | 0 => [(i : Int)]
  | k + 1 => rng i (i + (k + 1) : Nat)
def t1 : Nat → Nat
  | 0 => 1
  | k + 1 => k + 1
theorem zhx : ∀ {ks : List Nat} {k : Nat}, totG (ks ++ [k]) = totG ks + t1 k
  | [], 0 => rfl
  | [], k + 1 => by show (k + 1) + 0 = 0 + (k + 1); omega
  | 0 :: r, k => by show 1 + totG (r ++ [k]) = (1 + totG r) + _; rw [zhx]; omega
  | (j + 1) :: r, k => by show (j + 1) + totG (r ++ [k]) = ((j + 1) + totG r) + _; rw [zhx]; omega
theorem ziN : ∀ {ks : List Nat} {i k : Nat}, txG i (ks ++ [k]) = txG i ks ++ tx1 (i + totG ks) k
  | [], i, 0 => by show [44, 32] ++ (fTxt true (i + 1) (i + 1) ++ []) = [] ++ ([44, 32] ++ fTxt true (i + 0 + 1) (i + 0 + 1)); simp
  | [], i, k + 1 => by show [44, 32] ++ ([91, 91, 32] ++ (joinT true (i + 1) (upt (i + 1) (k + 1)) ++ ([32, 93, 93] ++ []))) = [] ++ ([44, 32] ++ ([91, 91, 32] ++ (joinT true (i + 0 + 1) (upt (i + 0 + 1) (k + 1)) ++ [32, 93, 93]))); simp
  | 0 :: r, i, k => by
    show [44, 32] ++ (fTxt true (i + 1) (i + 1) ++ txG (i + 1) (r ++ [k])) = ([44, 32] ++ (fTxt true (i + 1) (i + 1) ++ txG (i + 1) r)) ++ tx1 (i + (1 + totG r)) k
    rw [ziN, show i + 1 + totG r = i + (1 + totG r) by omega]; simp
  | (j + 1) :: r, i, k => by
    show [44, 32] ++ ([91, 91, 32] ++ (joinT true (i + 1) (upt (i + 1) (j + 1)) ++ ([32, 93, 93] ++ txG (i + (j + 1)) (r ++ [k])))) = ([44, 32] ++ ([91, 91, 32] ++ (joinT true (i + 1) (upt (i + 1) (j + 1)) ++ ([32, 93, 93] ++ txG (i + (j + 1)) r)))) ++ tx1 (i + ((j + 1) + totG r)) k
    rw [ziN, show i + (j + 1) + totG r = i + ((j + 1) + totG r) by omega]; simp
theorem zgS : ∀ {ks : List Nat} {i k : Nat}, wantG i (ks ++ [k]) = wantG i ks ++ [w1 (i + totG ks) k]
  | [], i, 0 => rfl
  | [], i, k + 1 => rfl
  | 0 :: r, i, k => by
    show _ :: wantG (i + 1) (r ++ [k]) = (_ :: wantG (i + 1) r) ++ [w1 (i + (1 + totG r)) k]
    rw [zgS, show i + 1 + totG r = i + (1 + totG r) by omega]; rfl
  | (j + 1) :: r, i, k => by
    show _ :: wantG (i + (j + 1)) (r ++ [k]) = (_ :: wantG (i + (j + 1)) r) ++ [w1 (i + ((j + 1) + totG r)) k]
    rw [zgS, show i + (j + 1) + totG r = i + ((j + 1) + totG r) by omega]; rfl
theorem zqm {k : Nat} (h : k < 4) : 1 ≤ t1 k ∧ t1 k ≤ 3 := by
  cases k with
  | zero => exact ⟨Nat.le_refl _, by show 1 ≤ 3; omega⟩
  | succ k => exact ⟨by show 1 ≤ k + 1; omega, by show k + 1 ≤ 3; omega⟩
theorem zpp {i k : Nat} (hi : i + 4 < 255) (h : k < 4) : (tx1 i k).length ≤ 110 := by
  cases k with
  | zero =>
    have := zea (o := true) (i := i + 1) (v := i + 1) (by omega) (by omega)
    show ([44, 32] ++ fTxt true (i + 1) (i + 1)).length ≤ _
    simp only [List.length_append, List.length_cons, List.length_nil]; omega
  | succ k =>
    have := zhO (o := true) (vs := upt (i + 1) (k + 1)) (i := i + 1) (by rw [zbi]; omega) (fun v hv => by have := zeR hv; omega)
    rw [zbi] at this
    show ([44, 32] ++ ([91, 91, 32] ++ (joinT true (i + 1) (upt (i + 1) (k + 1)) ++ [32, 93, 93]))).length ≤ _
    simp only [List.length_append, List.length_cons, List.length_nil]; omega
theorem znJ : ∀ {ks : List Nat}, (∀ k ∈ ks, k < 4) → totG ks ≤ 3 * ks.length ∧ ∀ i, i + 3 * ks.length + 4 < 255 → (txG i ks).length ≤ 110 * ks.length
  | [], _ => ⟨Nat.le_refl _, fun _ _ => Nat.le_refl _⟩
  | k :: r, h => by
    obtain ⟨h1, h2⟩ := znJ (ks := r) fun x hx => h x (List.mem_cons_of_mem _ hx)
    have hk := h k (List.mem_cons_self ..)
    have ht := zqm hk
    have e1 : totG (k :: r) = t1 k + totG r := by cases k <;> rfl
    have e2 : ∀ i, txG i (k :: r) = tx1 i k ++ txG (i + t1 k) r := fun i => by
      cases k with
      | zero => show [44, 32] ++ (fTxt true (i + 1) (i + 1) ++ txG (i + 1) r) = ([44, 32] ++ fTxt true (i + 1) (i + 1)) ++ txG (i + 1) r; simp
      | succ k => show [44, 32] ++ ([91, 91, 32] ++ (joinT true (i + 1) (upt (i + 1) (k + 1)) ++ ([32, 93, 93] ++ txG (i + (k + 1)) r))) = ([44, 32] ++ ([91, 91, 32] ++ (joinT true (i + 1) (upt (i + 1) (k + 1)) ++ [32, 93, 93]))) ++ txG (i + (k + 1)) r; simp
    rw [e1, List.length_cons]
    refine ⟨by omega, fun i hi => ?_⟩
    rw [e2, List.length_append]
    have := zpp (i := i) (by omega) hk
    have := h2 (i + t1 k) (by omega)
    omega
def preG : List UInt8 := [77, 32, 68, 69, 70, 73, 78, 73, 84, 73, 79, 78, 83, 32, 73, 77, 80, 76, 73, 67, 73, 84, 32, 84, 65, 71, 83, 32, 58, 58, 61, 32, 66, 69, 71, 73, 78, 32, 65, 32, 58, 58, 61, 32, 83, 69, 81, 85, 69, 78, 67, 69, 32, 123, 32]
def itsG (root : Nat) (ks : List Nat) : List FI := (flsV true 1 (upt 1 root)).map FI.one ++ .dots :: fiG root ks
theorem zkB {root : Nat} (hr : root < 3) {ks : List Nat} (hl : ks.length ≤ 8) (hk4 : ∀ k ∈ ks, k < 4) {s : Str} (hs : s.b = preG ++ (rtT 0 root ++ ([46, 46, 46] ++ (txG root ks ++ [32, 125, 32, 69, 78, 68])))) :
    ∃ t : GTab, zaX s = some (t, true) ∧ slotsT t 0 = wantG root ks := by
  obtain ⟨b1, b2⟩ := znJ hk4
  have b3 := b2 root (by omega)
  have hn : root + totG ks ≤ 26 := by omega
  have h1 : KT [32, 125, 32, 69, 78, 68] [(6, [125]), (5, [69, 78, 68])] := .tok rfl rfl (.tok rfl rfl (.fin rfl))
  obtain ⟨h2, h3⟩ := zmo (ks := ks) (i := root) (x := [125, 32, 69, 78, 68]) (by omega) h1
  have h4 : KT ([46, 46, 46] ++ (txG root ks ++ [32, 125, 32, 69, 78, 68])) ((6, [46, 46, 46]) :: ((fiG root ks).flatMap (fun y => (6, [44]) :: y.toks) ++ [(6, [125]), (5, [69, 78, 68])])) := by
    rcases h3 with ⟨y, hy⟩ | ⟨y, hy⟩
    · have hy : txG root ks ++ [32, 125, 32, 69, 78, 68] = 44 :: y := hy
      rw [hy] at h2 ⊢; exact .tok rfl rfl h2
    · have hy : txG root ks ++ [32, 125, 32, 69, 78, 68] = 32 :: y := hy
      rw [hy] at h2 ⊢; exact .tok rfl rfl h2
  have h5 := zoN (k := root) (i := 0) (by omega) h4
  have hkt : KT s.b (modT [77] 1 [asV 7 (itsG root ks)]) := by
    have e : modT [77] 1 [asV 7 (itsG root ks)] = (1, [77]) :: (5, [68, 69, 70, 73, 78, 73, 84, 73, 79, 78, 83]) :: (5, [73, 77, 80, 76, 73, 67, 73, 84]) :: (5, [84, 65, 71, 83]) :: (6, [58, 58, 61]) :: (5, [66, 69, 71, 73, 78]) :: (1, [65]) :: (6, [58, 58, 61]) :: (5, [83, 69, 81, 85, 69, 78, 67, 69]) :: (6, [123]) :: ((flsV true (0 + 1) (upt (0 + 1) root)).flatMap (fun f => f.toks ++ [(6, [44])]) ++ ((6, [46, 46, 46]) :: ((fiG root ks).flatMap (fun y => (6, [44]) :: y.toks) ++ [(6, [125]), (5, [69, 78, 68])]))) := by
      unfold modT asV fldsT As.toks itsG
      simp only [List.flatMap_cons, List.flatMap_nil, List.append_nil, ziP]
      simp [tagT, kwF]
    rw [e, hs]
    exact .tok rfl rfl (.tok rfl rfl (.tok rfl rfl (.tok rfl rfl (.tok rfl rfl (.tok rfl rfl (.tok rfl rfl (.tok rfl rfl (.tok rfl rfl (.tok rfl rfl (KT.sp h5))))))))))
  have hrl : (rtT 0 root).length ≤ 70 := by
    have hf : ∀ i, i < 10 → (fTxt true (i + 1) (i + 1)).length ≤ 30 := fun i hi => zea (by omega) (by omega)
    have c : root = 0 ∨ root = 1 ∨ root = 2 := by omega
    rcases c with rfl | rfl | rfl
    · exact Nat.zero_le _
    · have := hf 0 (by omega)
      show (fTxt true (0 + 1) (0 + 1) ++ ([44, 32] ++ [])).length ≤ _
      simp only [List.length_append, List.length_cons, List.length_nil]; omega
    · have := hf 0 (by omega)
      have : (fTxt true (0 + 1 + 1) (0 + 1 + 1)).length ≤ 30 := hf 1 (by omega)
      show (fTxt true (0 + 1) (0 + 1) ++ ([44, 32] ++ (fTxt true (0 + 1 + 1) (0 + 1 + 1) ++ ([44, 32] ++ [])))).length ≤ _
      simp only [List.length_append, List.length_cons, List.length_nil]; omega
  have hsl : s.b.length ≤ 3000 := by
    rw [hs]
    simp only [List.length_append, List.length_cons, List.length_nil, preG]
    omega
  have hfls : (itsG root ks).flatMap FI.fls = flsV true 1 (upt 1 (root + totG ks)) := by
    unfold itsG
    rw [List.flatMap_append, zpD]
    show flsV true 1 (upt 1 root) ++ (fiG root ks).flatMap FI.fls = _
    rw [zj2, zil, zim, zbi, Nat.add_comm root 1]
  have hszI : szI (itsG root ks) = root + totG ks := by unfold szI; rw [hfls, zkr, zbi]
  have hok : okI 1 7 false (itsG root ks) := by
    have : ∀ (fs : List Fl), (∀ f ∈ fs, FldK 1 7 f) → okI 1 7 false (fs.map FI.one ++ .dots :: fiG root ks) := by
      intro fs
      induction fs with
      | nil => intro _; exact ⟨rfl, zmj (by omega)⟩
      | cons f r ih => intro hf; exact ⟨hf f (List.mem_cons_self ..), ih fun x hx => hf x (List.mem_cons_of_mem _ hx)⟩
    exact this _ (zlI (fun _ => by decide) fun v hv => by have := zeR hv; omega)
  have hAs := zqB (kind := 7) (.inl rfl) (l := itsG root ks) (by unfold itsG; cases (flsV true 1 (upt 1 root)) <;> intro e <;> cases e) hok (by omega) (by rw [hfls, zkL, zbi]; omega)
  have hp := zno (g := 1) (by omega) hkt (by omega) (by show 1 ≤ 40; omega) (by show (szI _ + 1) + 0 ≤ 300; omega) (fun x hx => by rw [List.mem_singleton.1 hx]; exact hAs)
  have hmod : modM [77] 1 [asV 7 (itsG root ks)] = ⟨⟨[77]⟩, 1, [⟨[65]⟩], [0], endN (ndI 0 (itsG root ks) 1 { zm noM with kind := 7 }) :: (upt 1 (root + totG ks)).map nodeV⟩ := by
    show (⟨⟨[77]⟩, 1, [⟨[65]⟩], [((0 : Nat) : Int)], (endN (ndI 0 (itsG root ks) 1 { zm noM with kind := 7 }) :: nsI (itsG root ks) 1) ++ []⟩ : GMod) = _
    unfold nsI
    rw [hfls, zpN, List.append_nil]; rfl
  have w := zou hp
  rw [hmod] at hp w
  have hgl : (gflV true 0 1 1 (upt 1 root)).length = root := by rw [zdu, zbi]
  have hnd : endN (ndI 0 (itsG root ks) 1 { zm noM with kind := 7 }) = ⟨7, ⟨[]⟩, noM, ⟨false, false, false, false, 0, 0⟩, [], gflV true 0 1 1 (upt 1 root) ++ gG 0 root ks, (root : Int), true, 0⟩ := by
    unfold itsG
    rw [zmy, zbi, Nat.add_comm 1 root]
    show endN (ndI 0 (fiG root ks) (root + 1) _) = _
    rw [znO]
    unfold endN zm
    simp only [List.nil_append, if_true, hgl]
  have hFs : Fs (gflV true 0 1 1 (upt 1 root) ++ gG 0 root ks) (root + totG ks) := by
    refine ⟨by rw [List.length_append, hgl, zlH], fun j f hj => ?_⟩
    by_cases h : j < root
    · rw [List.getElem?_append_left (by rw [hgl]; exact h)] at hj
      have := zf1 (i := 0) hj
      exact ⟨0, by rw [this, Nat.zero_add]⟩
    · rw [List.getElem?_append_right (by rw [hgl]; omega), hgl] at hj
      obtain ⟨γ, e⟩ := zmh hj
      exact ⟨γ, by rw [e, show root + (j - root) = j by omega]⟩
  have hPF := hFs.PF (by omega)
  have hm := zl1 (nd := endN (ndI 0 (itsG root ks) 1 { zm noM with kind := 7 })) hPF (by rw [hnd]; exact .inl rfl) (fun e => by rw [hnd] at e; cases e) (by rw [hnd]) (by rw [hnd]) (by rw [hnd]; dsimp only; omega) (by rw [hnd, zbi]; dsimp only; omega) rfl w
  refine ⟨_, znn hsl hp hm (by dsimp only; simp only [List.length_cons, List.length_map, zbi]; omega), ?_⟩
  show (if _ then slots (fldT _ _ _) else []) = _
  rw [hnd]
  rw [if_pos (.inl rfl)]
  show (rng (root : Int) ((gflV true 0 1 1 (upt 1 root) ++ gG 0 root ks).length : Int)).foldl (slot1 true (gflV true 0 1 1 (upt 1 root) ++ gG 0 root ks)) [] = _
  rw [hFs.1, zkF (g := 0) (pre := gflV true 0 1 1 (upt 1 root)) [] (fun h => absurd rfl h) rfl hgl (fun f hf => by
    obtain ⟨j, hj⟩ := List.getElem?_of_mem hf
    rw [zf1 (i := 0) hj]
    exact Int.le_refl _) (Int.le_refl _)]
  rfl
theorem ziz {n : Nat} (hn : n < 200) : zbb (n : Int) = some (⟨fTxt true (n + 1) (n + 1)⟩, ((n + 1 : Nat) : Int)) := by
  have d := dgs (n + 1) (by omega)
  have hl := d.len
  have e1 : (((n : Int) + 1) % 18446744073709551616).toNat = n + 1 := by omega
  refine T.eqs ?_
  unfold zbb
  rw [e1]
  refine T.ck (by omega) (T.eq d.eq (T.abl ?_ (T.abl ?_ (T.eq d.eq (T.abl ?_ (T.abl ?_ (T.some ?_))))))) <;> try (simp only [List.length_append, List.length_cons, List.length_nil]; omega)
  unfold fTxt
  simp
theorem zmi (l : List Int) (hl : l.length ≤ 1000000) : zec l l = some true := by
  refine T.eqs ?_
  unfold zec
  refine T.cal (Q := fun r => r = true) ?_ fun r _ hr => T.some hr
  unfold zfD
  refine T.br (fun h => by simp at h) fun _ => ?_
  refine T.lp (fun (k : Int) => 0 ≤ k ∧ k ≤ (l.length : Int)) (fun (k : Int) => ((l.length : Int) - k).toNat) ⟨Int.le_refl _, by omega⟩ (by omega) fun L k ⟨h1, h2⟩ hL => ?_
  refine T.br (fun hb => ?_) fun _ => T.some rfl
  have hb := zOT hb
  refine T.get h1 hb fun y hy => T.get h1 hb fun y' hy' => ?_
  rw [hy] at hy'; cases hy'
  exact T.eq (y := true) (by unfold zdy; rw [zDT rfl]) (T.br (fun h => by cases h) fun _ => T.ck (by omega) (hL _ ⟨by omega, by omega⟩ (by omega)))
theorem zlE (l : List (List Int)) (hl : l.length ≤ 1000000) (hs : ∀ s ∈ l, s.length ≤ 1000000) : zd6 l l = some true := by
  refine T.eqs ?_
  unfold zd6
  refine T.cal (Q := fun r => r = true) ?_ fun r _ hr => T.some hr
  unfold zeX
  refine T.br (fun h => by simp at h) fun _ => ?_
  refine T.lp (fun (k : Int) => 0 ≤ k ∧ k ≤ (l.length : Int)) (fun (k : Int) => ((l.length : Int) - k).toNat) ⟨Int.le_refl _, by omega⟩ (by omega) fun L k ⟨h1, h2⟩ hL => ?_
  refine T.br (fun hb => ?_) fun _ => T.some rfl
  have hb := zOT hb
  refine T.get h1 hb fun y hy => T.get h1 hb fun y' hy' => ?_
  rw [hy] at hy'; cases hy'
  exact T.eq (zmi y (hs y (List.mem_of_getElem? hy))) (T.br (fun h => by cases h) fun _ => T.ck (by omega) (hL _ ⟨by omega, by omega⟩ (by omega)))
theorem zhf : ∀ {ks : List Nat} {i : Nat}, (∀ k ∈ ks, k < 4) → (wantG i ks).length = ks.length ∧ ∀ s ∈ wantG i ks, s.length ≤ 4
  | [], _, _ => ⟨rfl, fun s h => by cases h⟩
  | k :: r, i, h => by
    have hk := h k (List.mem_cons_self ..)
    obtain ⟨h1, h2⟩ := zhf (ks := r) (i := i + t1 k) fun x hx => h x (List.mem_cons_of_mem _ hx)
    have e : wantG i (k :: r) = w1 i k :: wantG (i + t1 k) r := by cases k <;> rfl
    rw [e]
    refine ⟨by rw [List.length_cons, h1]; rfl, fun s hs => ?_⟩
    rcases List.mem_cons.1 hs with e | e
    · rw [e]
      cases k with
      | zero => show 1 ≤ 4; omega
      | succ k => show (rng _ _).length ≤ 4; rw [zhu]; omega
    · exact h2 s e
theorem zkT (sz : List Int) (rt : Int) : zcI sz rt = some true := by
  refine T.eqs ?_
  unfold zcI
  have hr3 : ((UInt64.ofNat (rt % 18446744073709551616).toNat) % (3 : UInt64)).toNat < 3 := by rw [UInt64.toNat_mod]; exact Nat.mod_lt _ (by decide)
  generalize ((UInt64.ofNat (rt % 18446744073709551616).toNat) % (3 : UInt64)).toNat = root at *
  refine T.asr rfl (T.ck (by omega) (T.br (fun _ => T.eq awake11 (T.some rfl)) fun h8 => ?_))
  have h8 : sz.length ≤ 8 := by have := zOF h8; omega
  have hrtl : ∀ k, k ≤ 3 → (rtT 0 k).length ≤ 32 * k := by
    intro k
    induction k with
    | zero => intro _; exact Nat.zero_le _
    | succ k ih =>
      intro hk
      have := ih (by omega)
      have := zea (o := true) (i := 0 + k + 1) (v := 0 + k + 1) (by omega) (by omega)
      rw [zi6]
      simp only [List.length_append, List.length_cons, List.length_nil]; omega
  refine T.lp (ι := Str × Int × Int) (fun q => ∃ i : Nat, i ≤ root ∧ q.2.1 = i ∧ q.2.2 = i ∧ q.1.b = rtT 0 i) (fun q => ((root : Int) - q.2.1).toNat) ⟨0, Nat.zero_le _, rfl, rfl, rfl⟩ (by dsimp only; omega) fun L q hq hL => ?_
  obtain ⟨tx, ic, nc⟩ := q
  obtain ⟨i, i1, i2, i3, i4⟩ := hq
  dsimp only at i2 i3 i4 hL ⊢
  subst i2; subst i3
  have hl0 := hrtl i (by omega)
  refine T.br (fun h => ?_) fun h => ?_
  · have h := zOT h
    have hfl := zea (o := true) (i := i + 1) (v := i + 1) (by omega) (by omega)
    refine T.eq (ziz (n := i) (by omega)) (T.abl ?_ (T.abl ?_ (T.ck (by omega) (hL _ ⟨i + 1, by omega, by dsimp only; omega, rfl, ?_⟩ (by dsimp only; omega)))))
    · rw [i4]; dsimp only; omega
    · rw [i4]; simp only [List.length_append, List.length_cons, List.length_nil]; omega
    · dsimp only
      rw [zi6, i4, Nat.zero_add]; simp
  have h := zOF h
  have hir : i = root := by omega
  subst hir
  refine T.abl (by rw [i4]; simp only [List.length_cons, List.length_nil]; omega) ?_
  refine T.lp (ι := Str × List (List Int) × Int × Int) (fun q => ∃ ks : List Nat, ks.length ≤ sz.length ∧ q.2.2.1 = ks.length ∧ (∀ k ∈ ks, k < 4) ∧ q.1.b = rtT 0 i ++ ([46, 46, 46] ++ txG i ks) ∧ q.2.1 = wantG i ks ∧ q.2.2.2 = ((i + totG ks : Nat) : Int)) (fun q => ((sz.length : Int) - q.2.2.1).toNat) ⟨[], Nat.zero_le _, rfl, (fun k h => by cases h), by dsimp only; rw [i4]; simp [txG], rfl, by dsimp only; show (i : Int) = ((i + 0 : Nat) : Int); omega⟩ (by dsimp only; omega) fun L2 q hq hL2 => ?_
  obtain ⟨tx2, wt, jc, nc⟩ := q
  obtain ⟨ks, k1, k2, k3, k4, k5, k6⟩ := hq
  dsimp only at k2 k4 k5 k6 hL2 ⊢
  subst k2; subst k6
  obtain ⟨b1, b2⟩ := znJ k3
  have b3 := b2 i (by omega)
  have htl : tx2.b.length ≤ 1100 := by rw [k4]; simp only [List.length_append, List.length_cons, List.length_nil]; omega
  refine T.br (fun h2 => ?_) fun h2 => ?_
  · have h2 := zOT h2
    refine T.jp (ι := Str × List (List Int) × Int) (fun q => ∃ k, k < 4 ∧ q.1.b = tx2.b ++ tx1 (i + totG ks) k ∧ q.2.1 = wt ++ [w1 (i + totG ks) k] ∧ q.2.2 = ((i + totG ks + t1 k : Nat) : Int)) (fun J hJ => ?_) fun q hq => ?_
    · refine T.get (by omega) h2 fun y hy => T.asr rfl ?_
      have hk4 : ((UInt64.ofNat (y % 18446744073709551616).toNat) % (4 : UInt64)).toNat < 4 := by rw [UInt64.toNat_mod]; exact Nat.mod_lt _ (by decide)
      generalize ((UInt64.ofNat (y % 18446744073709551616).toNat) % (4 : UInt64)).toNat = k at *
      refine T.ck (by omega) (T.abl (by simp only [List.length_cons, List.length_nil]; omega) (T.br (fun h3 => ?_) fun h3 => ?_))
      · have h3 : k = 0 := by have := zOT h3; omega
        subst h3
        have hfl := zea (o := true) (i := i + totG ks + 1) (v := i + totG ks + 1) (by omega) (by omega)
        have hwl := (zhf (i := i) k3).1
        refine T.abl (by rw [k5, hwl]; simp only [List.length_singleton]; omega) (T.eq (ziz (by omega)) (T.abl ?_ (hJ _ ⟨0, by omega, ?_, rfl, rfl⟩)))
        · simp only [List.length_append, List.length_cons, List.length_nil]; omega
        · dsimp only [tx1]; rw [List.append_assoc]
      · have h3 : k ≠ 0 := by have := zOF h3; omega
        obtain ⟨k', rfl⟩ : ∃ k', k = k' + 1 := ⟨k - 1, by omega⟩
        refine T.abl (by simp only [List.length_append, List.length_cons, List.length_nil]; omega) ?_
        refine T.lp (ι := Str × List Int × Int × Int) (fun q => ∃ j : Nat, j ≤ k' + 1 ∧ q.2.2.1 = j ∧ q.2.2.2 = ((i + totG ks + j : Nat) : Int) ∧ q.2.1 = rng (i + totG ks : Nat) (i + totG ks + j : Nat) ∧ q.1.b = tx2.b ++ ([44, 32] ++ ([91, 91, 32] ++ joinT true (i + totG ks + 1) (upt (i + totG ks + 1) j)))) (fun q => (((k' + 1 : Nat) : Int) - q.2.2.1).toNat) ⟨0, by omega, rfl, rfl, (zd2 (Int.le_refl _)).symm, by dsimp only; simp [upt, joinT]⟩ (by dsimp only; omega) fun L3 q hq hL3 => ?_
        obtain ⟨tx3, lc, jc, nc⟩ := q
        obtain ⟨j, j1, j2, j3, j4, j5⟩ := hq
        dsimp only at j2 j3 j4 j5 hL3 ⊢
        subst j2; subst j3
        have hjl := zhO (o := true) (vs := upt (i + totG ks + 1) j) (i := i + totG ks + 1) (by rw [zbi]; omega) (fun v hv => by have := zeR hv; omega)
        rw [zbi] at hjl
        have htl3 : tx3.b.length ≤ 1300 := by rw [j5]; simp only [List.length_append, List.length_cons, List.length_nil]; omega
        have hfl := zea (o := true) (i := i + totG ks + j + 1) (v := i + totG ks + j + 1) (by omega) (by omega)
        refine T.br (fun h4 => ?_) fun h4 => ?_
        · have h4 := zOT h4
          refine T.jp (ι := Str) (fun z => z.b = tx3.b ++ (if j = 0 then [] else [44, 32])) (fun J3 hJ3 => T.br (fun h5 => T.abl (by simp only [List.length_cons, List.length_nil]; omega) (hJ3 _ ?_)) fun h5 => hJ3 _ ?_) fun z hz => ?_
          · have h5 := zOT h5
            rw [if_neg (by omega)]
          · have h5 := zOF h5
            rw [if_pos (by omega), List.append_nil]
          have hzl : z.b.length ≤ 1310 := by rw [hz, List.length_append]; split <;> simp only [List.length_cons, List.length_nil] <;> omega
          have hll : lc.length ≤ 10 := by rw [j4, zhu]; omega
          refine T.abl (by simp only [List.length_singleton]; omega) (T.eq (ziz (n := i + totG ks + j) (by omega)) (T.abl (by dsimp only; omega) (T.ck (by omega) (hL3 _ ⟨j + 1, by omega, by dsimp only; omega, by dsimp only; omega, ?_, ?_⟩ (by dsimp only; omega)))))
          · dsimp only
            rw [j4, show ((i + totG ks + (j + 1) : Nat) : Int) = ((i + totG ks + j : Nat) : Int) + 1 by omega, zed (by omega)]
          · dsimp only
            rw [hz, j5, zil (a := j) (b := 1)]
            by_cases hj0 : j = 0
            · subst hj0
              rw [if_pos rfl]
              simp [upt, joinT]
            · rw [if_neg hj0]
              have hne : upt (i + totG ks + 1) j ≠ [] := fun e => by have := congrArg List.length e; rw [zbi] at this; simp at this; exact hj0 this
              show _ = tx2.b ++ ([44, 32] ++ ([91, 91, 32] ++ joinT true (i + totG ks + 1) (upt (i + totG ks + 1) j ++ [i + totG ks + 1 + j])))
              rw [zjb hne, zbi, show i + totG ks + 1 + j = i + totG ks + j + 1 by omega]
              simp
        · have h4 := zOF h4
          have hjk : j = k' + 1 := by omega
          subst hjk
          have hwl := (zhf (i := i) k3).1
          refine T.abl (by simp only [List.length_cons, List.length_nil]; omega) (T.abl (by rw [k5, hwl]; simp only [List.length_singleton]; omega) (hJ _ ⟨k' + 1, hk4, ?_, ?_, rfl⟩))
          · dsimp only [tx1]
            rw [j5]; simp
          · dsimp only [w1]
            rw [j4]
    · obtain ⟨k, q1, q2, q3, q4⟩ := hq
      refine T.ck (by omega) (hL2 _ ⟨ks ++ [k], by rw [List.length_append, List.length_singleton]; omega, by dsimp only; rw [List.length_append, List.length_singleton]; omega, fun x hx => ?_, ?_, ?_, ?_⟩ (by dsimp only; omega))
      · rcases List.mem_append.1 hx with h | h
        · exact k3 x h
        · rw [List.mem_singleton.1 h]; exact q1
      · dsimp only
        rw [q2, k4, ziN]; simp
      · dsimp only
        rw [q3, k5, zgS]
      · dsimp only
        rw [q4, zhx, Nat.add_assoc]
  have h2 := zOF h2
  refine T.abl (by simp only [List.length_cons, List.length_nil]; omega) (T.abl (by simp only [List.length_append, List.length_cons, List.length_nil]; omega) ?_)
  obtain ⟨t, ht, hsl⟩ := zkB hr3 (ks := ks) (by omega) k3 (s := Str.mk ((Str.mk (preG ++ tx2.b)).b ++ (Str.mk [32, 125, 32, 69, 78, 68]).b)) (by rw [k4]; simp)
  have htab : TabOk t := (zm4 _).get? ht
  refine T.eq ht (T.eq awake11 ?_)
  refine T.jp (fun b => b = true) (fun J hJ => T.brT rfl (hJ _ rfl)) fun b hb => ?_
  subst hb
  have hso := znf htab 0
  rw [hsl, ← k5] at hso
  obtain ⟨w1', w2'⟩ := zhf (i := i) k3
  rw [← k5] at w1' w2'
  exact T.jp (fun b => b = true) (fun J hJ => T.brT rfl (T.eq hso (T.eq (zlE wt (by omega) fun s hs => by have := w2' s hs; omega) (hJ _ rfl)))) fun b hb => T.some hb
end Go.Proofs.Q

