/- OrderSets: whatever its arguments are, the law's model answers true. No condition. -/
import Derived.Test.YtnnijoepfgnlfaaDoorOsA
import Derived.Test.YtnnijoepfgnlfaaDoorOsB
import Derived.Test.YtnnijoepfgnlfaaDoorOsC
import Derived.KernelRfl
set_option linter.unusedVariables false
set_option linter.unusedSimpArgs false

namespace Go.Proofs.Q
open Go.Sy
set_option linter.unusedVariables false

structure Fl where
  name : List UInt8
  ts : KS
  sz : Nat
  ns : Nat → List GNode
  tail : KS
  opt : Bool
  has : Bool
  df : Val
def Fl.toks (f : Fl) : KS := (2, f.name) :: (f.ts ++ f.tail)
def Fl.fl (f : Fl) (g : Int) (i : Nat) : GFld := ⟨⟨f.name⟩, (i : Int), f.opt, f.has, f.df, g⟩
@[reducible] def zv : Val := Val.mk 0 0 [] [] 0 []
def addF (n : GNode) (f : GFld) : GNode := ⟨n.kind, n.name, n.mark, n.con, n.items, n.fields ++ [f], n.root, n.more, n.of⟩
structure Sep (k : Int) (t : List UInt8) : Prop where
  par : isK k t [40] = false
  opt : isK k t [79, 80, 84, 73, 79, 78, 65, 76] = false
  dft : isK k t [68, 69, 70, 65, 85, 76, 84] = false
theorem zjg : Sep 6 [44] := ⟨rfl, rfl, rfl⟩
theorem zmW : Sep 6 [125] := ⟨rfl, rfl, rfl⟩
theorem zm8 : Sep 6 [93, 93] := ⟨rfl, rfl, rfl⟩
structure FldK (h : Nat) (kind : Int) (f : Fl) : Prop where
  len : ∀ i, (f.ns i).length = f.sz
  go : ∀ {n : Nat} {d : Int} {L : List GTok} {a : Int} {m : GMod} {k : Int} {t : List UInt8} {ks : KS} {nd : GNode} {g : Int}, 4 * h + 1 ≤ n → 0 ≤ d → d + h ≤ 16 → Sg L a (f.toks ++ (k, t) :: ks) → Sep k t → m.nodes.length + f.sz ≤ 300 → nd.kind = kind → nd.fields.length ≤ 1000 →
    zaG n ⟨L, a, m, 0, 0⟩ nd d g = some (⟨L, a + f.toks.length, addN m (f.ns m.nodes.length), 0, 0⟩, addF nd (f.fl g m.nodes.length))
theorem zjk (n : Nat) : zaG (n + 1) = zba (zaG n) (zaD n) (zaP n) (zaJ n) := rfl
theorem zlJ (n : Nat) : zaJ (n + 1) = zbl (zaG n) (zaD n) (zaP n) (zaJ n) := rfl
theorem zmP {h sz : Nat} {ts : KS} {ns : Nat → List GNode} (hT : TypK h ts sz ns) (kind : Int) (nm : List UInt8) : FldK h kind ⟨nm, ts, sz, ns, [], false, false, zv⟩ := by
  refine ⟨hT.len, ?_⟩
  intro n d L a m k t ks nd g h1 h2 h3 hA hs hm hk hf
  obtain ⟨n, rfl⟩ : ∃ n', n = n' + 1 := ⟨n - 1, by omega⟩
  have a1 : Sg L (a + 1) (ts ++ (k, t) :: ks) := by
    have := Sg.tl hA
    simpa using this
  have a2 := a1.app
  rw [zjk]
  refine T.fin ?_
  unfold zba
  refine T.eq (zfQ hA) (T.ck (by omega) (T.eq (hT.go (by omega) (by omega) (by omega) a1 hs.par hm) ?_))
  refine T.jp (fun q => q = ((⟨⟨nm⟩, (m.nodes.length : Int), false, false, zv, g⟩ : GFld), (⟨L, a + 1 + ts.length, addN m (ns m.nodes.length), 0, 0⟩ : GPar))) (fun J hJ => T.br (fun _ => hJ _ rfl) fun _ => T.eq (zdu a2 hs.opt) (T.brF rfl (T.eq (zdu a2 hs.dft) (T.brF rfl (hJ _ rfl))))) fun q hq => ?_
  subst hq
  refine T.abl (by simp only [List.length_singleton]; omega) (T.some ?_)
  have e : a + ((Fl.toks ⟨nm, ts, sz, ns, [], false, false, zv⟩).length : Int) = a + 1 + (ts.length : Int) := by
    unfold Fl.toks; simp only [List.length_cons, List.length_append, List.length_nil]; omega
  rw [e]; rfl
theorem zo5 {h sz : Nat} {ts : KS} {ns : Nat → List GNode} (hT : TypK h ts sz ns) {kind : Int} (h9 : kind ≠ 9) (nm : List UInt8) : FldK h kind ⟨nm, ts, sz, ns, [(5, [79, 80, 84, 73, 79, 78, 65, 76])], true, false, zv⟩ := by
  refine ⟨hT.len, ?_⟩
  intro n d L a m k t ks nd g h1 h2 h3 hA hs hm hk hf
  obtain ⟨n, rfl⟩ : ∃ n', n = n' + 1 := ⟨n - 1, by omega⟩
  have a1 : Sg L (a + 1) (ts ++ (5, [79, 80, 84, 73, 79, 78, 65, 76]) :: (k, t) :: ks) := by
    have := Sg.tl hA
    simpa using this
  have a2 := a1.app
  rw [zjk]
  refine T.fin ?_
  unfold zba
  refine T.eq (zfQ hA) (T.ck (by omega) (T.eq (hT.go (by omega) (by omega) (by omega) a1 rfl hm) ?_))
  refine T.jp0 (T.brF (zDF (by rw [hk]; exact h9)) (T.eq (zc3 a2 rfl) (T.brT rfl ?_)))
  refine T.abl (by simp only [List.length_singleton]; omega) (T.some ?_)
  have e : a + ((Fl.toks ⟨nm, ts, sz, ns, [(5, [79, 80, 84, 73, 79, 78, 65, 76])], true, false, zv⟩).length : Int) = a + 1 + (ts.length : Int) + 1 := by
    unfold Fl.toks; simp only [List.length_cons, List.length_append, List.length_nil]; omega
  rw [e]; rfl
/-! ### Some of them, with commas -/
def sepK : List KS → KS
  | [] => []
  | [x] => x
  | x :: y :: r => x ++ (6, [44]) :: sepK (y :: r)
def Fl.stp (g : Int) (s : GMod × GNode) (f : Fl) : GMod × GNode := (addN s.1 (f.ns s.1.nodes.length), addF s.2 (f.fl g s.1.nodes.length))
def szL (l : List Fl) : Nat := (l.map Fl.sz).sum
theorem zp9 {h : Nat} {kind : Int} {n : Nat} {d g : Int} {L : List GTok} {k : Int} {t : List UInt8} {ks : KS} {β : Type} {R : β → Prop} {J : GPar × GNode → Option β}
    (hn : 4 * h + 1 ≤ n) (hd : 0 ≤ d) (hdh : d + h ≤ 16) (hs : Sep k t) (hc : isK k t [44] = false) {fls : List Fl} {a : Int} {m : GMod} {nd : GNode} (hne : fls ≠ [])
    (hA : Sg L a (sepK (fls.map Fl.toks) ++ (k, t) :: ks)) (hm : m.nodes.length + szL fls ≤ 300) (hk : nd.kind = kind) (hf : nd.fields.length + fls.length ≤ 1000) (hF : ∀ f ∈ fls, FldK h kind f)
    (hJ : T R (J (⟨L, a + (sepK (fls.map Fl.toks)).length, (fls.foldl (Fl.stp g) (m, nd)).1, 0, 0⟩, (fls.foldl (Fl.stp g) (m, nd)).2))) :
    T R (lp (ι := GPar × GNode) (fun L81 q80 => br (decide (q80.1.e = (0 : Int))) (cal (zaG n q80.1 q80.2 d g) fun y91 => cal (zF y91.1 (Str.mk [44])) fun y97 => br (!y97.1) (J (y97.2, y91.2)) (L81 (y97.2, y91.2))) (J (q80.1, q80.2))) ((⟨L, a, m, 0, 0⟩, nd))) := by
  let I : GPar × GNode → Prop := fun q => ∃ (rest : List Fl) (a1 : Int) (m1 : GMod) (nd1 : GNode), q = (⟨L, a1, m1, 0, 0⟩, nd1) ∧ rest ≠ [] ∧ Sg L a1 (sepK (rest.map Fl.toks) ++ (k, t) :: ks) ∧ a1 + (sepK (rest.map Fl.toks)).length = a + (sepK (fls.map Fl.toks)).length ∧ rest.foldl (Fl.stp g) (m1, nd1) = fls.foldl (Fl.stp g) (m, nd) ∧ m1.nodes.length + szL rest ≤ 300 ∧ nd1.kind = kind ∧ nd1.fields.length + rest.length ≤ 1000 ∧ (∀ f ∈ rest, FldK h kind f)
  have hI0 : I (⟨L, a, m, 0, 0⟩, nd) := ⟨fls, a, m, nd, rfl, hne, hA, rfl, rfl, hm, hk, hf, hF⟩
  refine T.lp I (fun q => ((L.length : Int) - q.1.at_).toNat) hI0 (by have := hA.a0; have := hA.len; dsimp only; omega) fun L2 q hq hL => ?_
  obtain ⟨rest, a1, m1, nd1, rfl, hne1, hA1, ha1, hfo, hm1, hk1, hf1, hF1⟩ := hq
  dsimp only at hL ⊢
  refine T.brT rfl ?_
  cases rest with
  | nil => exact absurd rfl hne1
  | cons f r =>
    have hfk := hF1 f (List.mem_cons_self ..)
    have hsz : szL (f :: r) = f.sz + szL r := by unfold szL; simp
    rw [List.length_cons] at hf1
    cases r with
    | nil =>
      have hA2 : Sg L a1 (f.toks ++ (k, t) :: ks) := hA1
      refine T.eq (hfk.go hn hd hdh hA2 hs (by omega) hk1 (by omega)) (T.eq (zdu hA2.app hc) (T.brT rfl ?_))
      have e1 : a1 + (f.toks.length : Int) = a + (sepK (fls.map Fl.toks)).length := ha1
      have e2 : (addN m1 (f.ns m1.nodes.length), addF nd1 (f.fl g m1.nodes.length)) = fls.foldl (Fl.stp g) (m, nd) := hfo
      rw [← e1, ← e2] at hJ
      exact hJ
    | cons f2 r =>
      have hA2 : Sg L a1 (f.toks ++ (6, [44]) :: (sepK ((f2 :: r).map Fl.toks) ++ (k, t) :: ks)) := by
        have e : sepK ((f :: f2 :: r).map Fl.toks) ++ (k, t) :: ks = f.toks ++ (6, [44]) :: (sepK ((f2 :: r).map Fl.toks) ++ (k, t) :: ks) := by
          show (f.toks ++ (6, [44]) :: sepK ((f2 :: r).map Fl.toks)) ++ (k, t) :: ks = _
          rw [List.append_assoc]; rfl
        rw [e] at hA1; exact hA1
      have hA3 := hA2.app
      refine T.eq (hfk.go hn hd hdh hA2 zjg (by omega) hk1 (by omega)) (T.eq (zc3 hA3 rfl) (T.brF rfl (hL _ ⟨f2 :: r, _, _, _, rfl, by simp, hA3.tl, ?_, hfo, ?_, hk1, ?_, fun x hx => hF1 x (List.mem_cons_of_mem _ hx)⟩ ?_)))
      · have e : (sepK ((f :: f2 :: r).map Fl.toks)).length = f.toks.length + ((sepK ((f2 :: r).map Fl.toks)).length + 1) := by
          show (f.toks ++ (6, [44]) :: sepK ((f2 :: r).map Fl.toks)).length = _
          rw [List.length_append, List.length_cons]
        rw [e] at ha1
        omega
      · rw [zec, hfk.len]; omega
      · unfold addF; dsimp only; rw [List.length_append, List.length_singleton]; rw [List.length_cons] at hf1 ⊢; omega
      · have := hA3.size
        have := hA3.a0
        have := hA1.a0
        dsimp only
        omega

/-! ### What stands within a bracket -/
inductive FI where
  | one (x : Fl)
  | dots
  | grp (l : List Fl)
def FI.toks : FI → KS
  | .one x => x.toks
  | .dots => [(6, [46, 46, 46])]
  | .grp l => (6, [91, 91]) :: (sepK (l.map Fl.toks) ++ [(6, [93, 93])])
def FI.stp (s : Int × GMod × GNode) : FI → Int × GMod × GNode
  | .one x => (s.1, Fl.stp 0 s.2 x)
  | .dots => (s.1, s.2.1, ⟨s.2.2.kind, s.2.2.name, s.2.2.mark, s.2.2.con, s.2.2.items, s.2.2.fields, (s.2.2.fields.length : Int), true, s.2.2.of⟩)
  | .grp l => (s.1 + 1, l.foldl (Fl.stp (s.1 + 1)) s.2)
def FI.fls : FI → List Fl
  | .one x => [x]
  | .dots => []
  | .grp l => l
def szI (l : List FI) : Nat := szL (l.flatMap FI.fls)
def okI (h : Nat) (kind : Int) : Bool → List FI → Prop
  | _, [] => True
  | b, .one x :: r => FldK h kind x ∧ okI h kind b r
  | b, .dots :: r => b = false ∧ okI h kind true r
  | b, .grp l :: r => b = true ∧ l ≠ [] ∧ (∀ f ∈ l, FldK h kind f) ∧ okI h kind true r
theorem zh6 {h : Nat} {kind : Int} {g : Int} : ∀ {l : List Fl} {m : GMod} {nd : GNode}, (∀ f ∈ l, FldK h kind f) →
    (l.foldl (Fl.stp g) (m, nd)).1.nodes.length = m.nodes.length + szL l ∧ (l.foldl (Fl.stp g) (m, nd)).2.kind = nd.kind ∧ (l.foldl (Fl.stp g) (m, nd)).2.more = nd.more ∧ (l.foldl (Fl.stp g) (m, nd)).2.fields.length = nd.fields.length + l.length
  | [], m, nd, _ => ⟨rfl, rfl, rfl, rfl⟩
  | f :: r, m, nd, hF => by
    obtain ⟨h1, h2, h3, h4⟩ := zh6 (g := g) (l := r) (m := addN m (f.ns m.nodes.length)) (nd := addF nd (f.fl g m.nodes.length)) fun x hx => hF x (List.mem_cons_of_mem _ hx)
    have e : (f :: r).foldl (Fl.stp g) (m, nd) = r.foldl (Fl.stp g) (addN m (f.ns m.nodes.length), addF nd (f.fl g m.nodes.length)) := rfl
    rw [e, h1, h2, h3, h4]
    refine ⟨?_, rfl, rfl, ?_⟩
    · rw [zec, (hF f (List.mem_cons_self ..)).len]; unfold szL; simp; omega
    · unfold addF; dsimp only; simp; omega
def endN (nd : GNode) : GNode := if nd.more then nd else ⟨nd.kind, nd.name, nd.mark, nd.con, nd.items, nd.fields, (nd.fields.length : Int), nd.more, nd.of⟩
theorem zkz {x : FI} : ∃ k t r, x.toks = (k, t) :: r ∧ isK k t [125] = false ∧ (∀ f, x = .one f → k = 2) := by
  cases x with
  | one x => exact ⟨_, _, _, rfl, rfl, fun _ _ => rfl⟩
  | dots => exact ⟨_, _, _, rfl, rfl, fun _ h => by cases h⟩
  | grp l => exact ⟨_, _, _, rfl, rfl, fun _ h => by cases h⟩
theorem znK {h : Nat} {kind : Int} {n : Nat} {d : Int} {L : List GTok} {ks : KS} (hn : 4 * h + 2 ≤ n) (hd : 0 ≤ d) (hdh : d + h ≤ 16) {l : List FI} {a : Int} {m : GMod} {nd : GNode} (hne : l ≠ [])
    (hA : Sg L a (sepK (l.map FI.toks) ++ (6, [125]) :: ks)) (hm : m.nodes.length + szI l ≤ 300) (hk : nd.kind = kind) (hf : nd.fields.length + (l.flatMap FI.fls).length ≤ 1000) (hmo : nd.more = false) (hF : okI h kind false l) :
    zaJ n ⟨L, a, m, 0, 0⟩ nd d = some (⟨L, a + (sepK (l.map FI.toks)).length + 1, (l.foldl FI.stp (0, m, nd)).2.1, 0, 0⟩, endN (l.foldl FI.stp (0, m, nd)).2.2) := by
  obtain ⟨n, rfl⟩ : ∃ n', n = n' + 1 := ⟨n - 1, by omega⟩
  rw [zlJ]
  have hfst : ∃ k t r, sepK (l.map FI.toks) ++ (6, [125]) :: ks = (k, t) :: r ∧ isK k t [125] = false := by
    cases l with
    | nil => exact absurd rfl hne
    | cons x r =>
      obtain ⟨k, t, r', e, h1, _⟩ := zkz (x := x)
      cases r with
      | nil => exact ⟨k, t, r' ++ (6, [125]) :: ks, by show x.toks ++ _ = _; rw [e]; rfl, h1⟩
      | cons y r => exact ⟨k, t, _, by show (x.toks ++ (6, [44]) :: sepK ((y :: r).map FI.toks)) ++ _ = _; rw [e]; rfl, h1⟩
  obtain ⟨k0, t0, r0, e0, hno⟩ := hfst
  have hA0 := hA
  rw [e0] at hA0
  refine T.fin ?_
  unfold zbl
  refine T.eq (zdu hA0 hno) (T.brF rfl ?_)
  refine T.jp (fun q => q = ((⟨L, a + (sepK (l.map FI.toks)).length, (l.foldl FI.stp (0, m, nd)).2.1, 0, 0⟩ : GPar), (l.foldl FI.stp (0, m, nd)).2.2)) (fun J hJ => ?_) fun q hq => ?_
  · let I : Int × GPar × GNode → Prop := fun q => ∃ (rest : List FI) (g1 a1 : Int) (m1 : GMod) (nd1 : GNode), q = (g1, ⟨L, a1, m1, 0, 0⟩, nd1) ∧ rest ≠ [] ∧ 0 ≤ g1 ∧ g1 ≤ a1 ∧ Sg L a1 (sepK (rest.map FI.toks) ++ (6, [125]) :: ks) ∧ a1 + (sepK (rest.map FI.toks)).length = a + (sepK (l.map FI.toks)).length ∧ rest.foldl FI.stp (g1, m1, nd1) = l.foldl FI.stp (0, m, nd) ∧ m1.nodes.length + szI rest ≤ 300 ∧ nd1.kind = kind ∧ nd1.fields.length + (rest.flatMap FI.fls).length ≤ 1000 ∧ okI h kind nd1.more rest
    have hI0 : I (0, ⟨L, a, m, 0, 0⟩, nd) := ⟨l, 0, a, m, nd, rfl, hne, Int.le_refl _, hA.a0, hA, rfl, rfl, hm, hk, hf, by rw [hmo]; exact hF⟩
    refine T.lp I (fun q => ((L.length : Int) - q.2.1.at_).toNat) hI0 (by have := hA.a0; have := hA.len; dsimp only; omega) fun L2 q hq hL => ?_
    obtain ⟨rest, g1, a1, m1, nd1, rfl, hne1, hg0, hg1, hA1, ha1, hfo, hm1, hk1, hf1, hF1⟩ := hq
    dsimp only at hL ⊢
    refine T.brT rfl ?_
    cases rest with
    | nil => exact absurd rfl hne1
    | cons x r =>
      -- behind the first one
      have hsz : szI (x :: r) = szL x.fls + szI r := by unfold szI szL; simp
      have hfl : ((x :: r).flatMap FI.fls).length = x.fls.length + (r.flatMap FI.fls).length := by simp
      rw [hsz] at hm1
      rw [hfl] at hf1
      have hnext : ∃ k t ks', sepK ((x :: r).map FI.toks) ++ (6, [125]) :: ks = x.toks ++ (k, t) :: ks' ∧ Sep k t ∧ ((r = [] ∧ k = 6 ∧ t = [125] ∧ ks' = ks) ∨ (r ≠ [] ∧ k = 6 ∧ t = [44] ∧ ks' = sepK (r.map FI.toks) ++ (6, [125]) :: ks)) := by
        cases r with
        | nil => exact ⟨6, [125], ks, rfl, zmW, .inl ⟨rfl, rfl, rfl, rfl⟩⟩
        | cons y r => exact ⟨6, [44], _, by show (x.toks ++ (6, [44]) :: sepK ((y :: r).map FI.toks)) ++ _ = _; rw [List.append_assoc]; rfl, zjg, .inr ⟨by simp, rfl, rfl, rfl⟩⟩
      obtain ⟨k, t, ks', ek, hsep, hcase⟩ := hnext
      rw [ek] at hA1
      have hA2 := hA1.app
      have hA2s := hA2.size
      have hA20 := hA2.a0
      have hA10 := hA1.a0
      have hAl := hA1.len
      have hpos : 1 ≤ x.toks.length := by obtain ⟨k, t, r, e, _⟩ := zkz (x := x); rw [e]; simp
      have hstep : ∀ q : Int × GPar × GNode, q = ((FI.stp (g1, m1, nd1) x).1, ⟨L, a1 + x.toks.length, (FI.stp (g1, m1, nd1) x).2.1, 0, 0⟩, (FI.stp (g1, m1, nd1) x).2.2) → okI h kind (FI.stp (g1, m1, nd1) x).2.2.more r → (FI.stp (g1, m1, nd1) x).2.1.nodes.length = m1.nodes.length + szL x.fls → (FI.stp (g1, m1, nd1) x).2.2.kind = kind → (FI.stp (g1, m1, nd1) x).2.2.fields.length = nd1.fields.length + x.fls.length → 0 ≤ (FI.stp (g1, m1, nd1) x).1 → (FI.stp (g1, m1, nd1) x).1 ≤ a1 + x.toks.length → T (fun r => r = ((⟨L, a + (sepK (l.map FI.toks)).length + 1, (l.foldl FI.stp (0, m, nd)).2.1, 0, 0⟩ : GPar), endN (l.foldl FI.stp (0, m, nd)).2.2)) (cal (zF q.2.1 (Str.mk [44])) fun y110 => br (!y110.1) (J (y110.2, q.2.2)) (L2 (q.1, y110.2, q.2.2))) := by
        intro q hq hok hn1 hk2 hf2 hg2 hg3
        subst hq
        rcases hcase with ⟨hr, hk', ht', hks⟩ | ⟨hr, hk', ht', hks⟩
        · subst hr; subst hk'; subst ht'; subst hks
          refine T.eq (zdu hA2 rfl) (T.brT rfl (hJ _ ?_))
          have e1 : a1 + (x.toks.length : Int) = a + (sepK (l.map FI.toks)).length := ha1
          have e2 : FI.stp (g1, m1, nd1) x = l.foldl FI.stp (0, m, nd) := hfo
          rw [← e1, ← e2]
        · subst hk'; subst ht'; subst hks
          refine T.eq (zc3 hA2 rfl) (T.brF rfl (hL _ ⟨r, _, _, _, _, rfl, hr, hg2, by omega, hA2.tl, ?_, hfo, by omega, hk2, by dsimp only; omega, hok⟩ (by dsimp only; omega)))
          have e : (sepK ((x :: r).map FI.toks)).length = x.toks.length + ((sepK (r.map FI.toks)).length + 1) := by
            cases r with
            | nil => exact absurd rfl hr
            | cons y r =>
              show (x.toks ++ (6, [44]) :: sepK ((y :: r).map FI.toks)).length = _
              rw [List.length_append, List.length_cons]
          rw [e] at ha1
          omega
      cases x with
      | one f =>
        obtain ⟨hfk, hF2⟩ := hF1
        have hs1 : szL (FI.fls (.one f)) = f.sz := by unfold szL FI.fls; simp
        have hgo := hfk.go (n := n) (g := 0) (m := m1) (nd := nd1) (by omega) hd hdh hA1 hsep (by rw [hs1] at hm1; omega) hk1 (by omega)
        refine T.jp (fun q => q = ((FI.stp (g1, m1, nd1) (.one f)).1, ⟨L, a1 + (FI.toks (.one f)).length, (FI.stp (g1, m1, nd1) (.one f)).2.1, 0, 0⟩, (FI.stp (g1, m1, nd1) (.one f)).2.2)) (fun J2 hJ2 => ?_) fun q hq => hstep q hq (by show okI h kind nd1.more r; exact hF2) (by show (addN m1 (f.ns m1.nodes.length)).nodes.length = _; rw [zec, hfk.len]; unfold FI.fls szL; simp) hk1 (by show (addF nd1 _).fields.length = _; unfold addF FI.fls; simp) hg0 (by show g1 ≤ _; omega)
        have hA1' : Sg L a1 ((2, f.name) :: (f.ts ++ f.tail ++ (k, t) :: ks')) := hA1
        refine T.jp (fun q => q = (false, (⟨L, a1, m1, 0, 0⟩ : GPar))) (fun J3 hJ3 => T.br (fun _ => T.eq (zdu hA1' rfl) (hJ3 _ rfl)) fun _ => hJ3 _ rfl) fun q hq => ?_
        subst hq
        refine T.brF rfl (T.jp (fun q => q = (false, (⟨L, a1, m1, 0, 0⟩ : GPar))) (fun J3 hJ3 => T.br (fun _ => T.eq (zdu hA1' rfl) (hJ3 _ rfl)) fun _ => hJ3 _ rfl) fun q hq => ?_)
        subst hq
        exact T.brF rfl (T.eq hgo (hJ2 _ rfl))
      | dots =>
        obtain ⟨hmo1, hF2⟩ := hF1
        refine T.jp (fun q => q = ((FI.stp (g1, m1, nd1) .dots).1, ⟨L, a1 + (FI.toks .dots).length, (FI.stp (g1, m1, nd1) .dots).2.1, 0, 0⟩, (FI.stp (g1, m1, nd1) .dots).2.2)) (fun J2 hJ2 => ?_) fun q hq => hstep q hq hF2 rfl hk1 rfl hg0 (by show g1 ≤ _; omega)
        have hA1' : Sg L a1 ((6, [46, 46, 46]) :: (k, t) :: ks') := hA1
        refine T.jp0 (T.brT (by rw [hmo1]; rfl) (T.eq (zc3 hA1' rfl) (T.brT rfl (hJ2 _ rfl))))
      | grp fl =>
        obtain ⟨hmo1, hfl0, hFl, hF2⟩ := hF1
        obtain ⟨f1, f2, f3, f4⟩ := zh6 (g := g1 + 1) (m := m1) (nd := nd1) hFl
        refine T.jp (fun q => q = ((FI.stp (g1, m1, nd1) (.grp fl)).1, ⟨L, a1 + (FI.toks (.grp fl)).length, (FI.stp (g1, m1, nd1) (.grp fl)).2.1, 0, 0⟩, (FI.stp (g1, m1, nd1) (.grp fl)).2.2)) (fun J2 hJ2 => ?_) fun q hq => hstep q hq (by show okI h kind (fl.foldl (Fl.stp (g1 + 1)) (m1, nd1)).2.more r; rw [f3, hmo1]; exact hF2) (by show (fl.foldl (Fl.stp (g1 + 1)) (m1, nd1)).1.nodes.length = _; rw [f1]; rfl) (by show (fl.foldl (Fl.stp (g1 + 1)) (m1, nd1)).2.kind = _; rw [f2]; exact hk1) (by show (fl.foldl (Fl.stp (g1 + 1)) (m1, nd1)).2.fields.length = _; rw [f4]; rfl) (by show 0 ≤ g1 + 1; omega) (by show g1 + 1 ≤ _; omega)
        have hA1' : Sg L a1 ((6, [91, 91]) :: (sepK (fl.map Fl.toks) ++ (6, [93, 93]) :: (k, t) :: ks')) := by
          have e : FI.toks (.grp fl) ++ (k, t) :: ks' = (6, [91, 91]) :: (sepK (fl.map Fl.toks) ++ (6, [93, 93]) :: (k, t) :: ks') := by
            show ((6, [91, 91]) :: (sepK (fl.map Fl.toks) ++ [(6, [93, 93])])) ++ (k, t) :: ks' = _
            simp
          rw [← e]; exact hA1
        have hA3 := hA1'.tl
        have hA4 := hA3.app
        refine T.jp (fun q => q = (false, (⟨L, a1, m1, 0, 0⟩ : GPar))) (fun J3 hJ3 => T.br (fun _ => T.eq (zdu hA1' rfl) (hJ3 _ rfl)) fun _ => hJ3 _ rfl) fun q hq => ?_
        subst hq
        refine T.brF rfl (T.jp0 (T.brT hmo1 (T.eq (zc3 hA1' rfl) (T.brT rfl (T.ck (by omega) ?_)))))
        refine T.jp (fun q => q = ((⟨L, a1 + 1 + (sepK (fl.map Fl.toks)).length, (fl.foldl (Fl.stp (g1 + 1)) (m1, nd1)).1, 0, 0⟩ : GPar), (fl.foldl (Fl.stp (g1 + 1)) (m1, nd1)).2)) (fun J3 hJ3 => ?_) fun q hq => ?_
        · have hsl : szL (FI.fls (.grp fl)) = szL fl := rfl
          have hll : (FI.fls (.grp fl)).length = fl.length := rfl
          exact zp9 (h := h) (kind := kind) (by omega) hd hdh zm8 rfl hfl0 hA3 (by omega) hk1 (by omega) hFl (hJ3 _ rfl)
        · subst hq
          refine T.eq (zcH hA4 rfl) (hJ2 _ ?_)
          have e : a1 + ((FI.toks (.grp fl)).length : Int) = a1 + 1 + (sepK (fl.map Fl.toks)).length + 1 := by
            unfold FI.toks; simp only [List.length_cons, List.length_append, List.length_nil]; omega
          rw [e]; rfl
  · subst hq
    refine T.eq (zcH hA.app rfl) ?_
    unfold endN
    cases hmf : (l.foldl FI.stp (0, m, nd)).2.2.more with
    | true => exact T.brF rfl (T.some (by rw [if_pos rfl]))
    | false => exact T.brT rfl (T.some (by rw [if_neg (by decide)]))
end Go.Proofs.Q


namespace Go.Proofs.Q
open Go.Sy
set_option linter.unusedVariables false

def nsF : List Fl → Nat → List GNode
  | [], _ => []
  | x :: r, i => x.ns i ++ nsF r (i + x.sz)
def ndF (g : Int) : List Fl → Nat → GNode → GNode
  | [], _, nd => nd
  | x :: r, i, nd => ndF g r (i + x.sz) (addF nd (x.fl g i))
def nsI (l : List FI) (i : Nat) : List GNode := nsF (l.flatMap FI.fls) i
def ndI : Int → List FI → Nat → GNode → GNode
  | _, [], _, nd => nd
  | g, .one x :: r, i, nd => ndI g r (i + x.sz) (addF nd (x.fl 0 i))
  | g, .dots :: r, i, nd => ndI g r i ⟨nd.kind, nd.name, nd.mark, nd.con, nd.items, nd.fields, (nd.fields.length : Int), true, nd.of⟩
  | g, .grp l :: r, i, nd => ndI (g + 1) r (i + szL l) (ndF (g + 1) l i nd)
theorem zie (x : Fl) (r : List Fl) : szL (x :: r) = x.sz + szL r := by unfold szL; simp
theorem zjx {h : Nat} {kind : Int} : ∀ {l : List Fl} {i : Nat}, (∀ f ∈ l, FldK h kind f) → (nsF l i).length = szL l
  | [], _, _ => rfl
  | x :: r, i, hF => by
    have := zjx (l := r) (i := i + x.sz) fun y hy => hF y (List.mem_cons_of_mem _ hy)
    show (x.ns i ++ nsF r (i + x.sz)).length = _
    rw [List.length_append, this, (hF x (List.mem_cons_self ..)).len, zie]
theorem zml : ∀ {a b : List Fl} {i : Nat}, nsF (a ++ b) i = nsF a i ++ nsF b (i + szL a)
  | [], b, i => by show nsF b i = [] ++ nsF b (i + 0); rw [List.nil_append]; rfl
  | x :: r, b, i => by
    show x.ns i ++ nsF (r ++ b) (i + x.sz) = x.ns i ++ nsF r (i + x.sz) ++ _
    rw [zml, zie, List.append_assoc, Nat.add_assoc]
theorem zoo {h : Nat} {kind g : Int} : ∀ {l : List Fl} {m : GMod} {nd : GNode}, (∀ f ∈ l, FldK h kind f) → l.foldl (Fl.stp g) (m, nd) = (addN m (nsF l m.nodes.length), ndF g l m.nodes.length nd)
  | [], m, nd, _ => by rw [nsF, ziy]; rfl
  | x :: r, m, nd, hF => by
    have hx := hF x (List.mem_cons_self ..)
    have := zoo (g := g) (l := r) (m := addN m (x.ns m.nodes.length)) (nd := addF nd (x.fl g m.nodes.length)) fun y hy => hF y (List.mem_cons_of_mem _ hy)
    show r.foldl (Fl.stp g) (addN m (x.ns m.nodes.length), addF nd (x.fl g m.nodes.length)) = _
    rw [this, zec, hx.len, zgf]; rfl
theorem zjY {h : Nat} {kind : Int} : ∀ {l : List FI} {b : Bool} {g : Int} {m : GMod} {nd : GNode}, okI h kind b l → (l.foldl FI.stp (g, m, nd)).2 = (addN m (nsI l m.nodes.length), ndI g l m.nodes.length nd)
  | [], _, g, m, nd, _ => by
    show (m, nd) = (addN m [], nd)
    rw [ziy]
  | .one x :: r, b, g, m, nd, hF => by
    obtain ⟨hx, hr⟩ := hF
    have := zjY (l := r) (b := b) (g := g) (m := addN m (x.ns m.nodes.length)) (nd := addF nd (x.fl 0 m.nodes.length)) hr
    show (r.foldl FI.stp (g, addN m (x.ns m.nodes.length), addF nd (x.fl 0 m.nodes.length))).2 = _
    rw [this, zec, hx.len, zgf]; rfl
  | .dots :: r, b, g, m, nd, hF => zjY (l := r) (b := true) (g := g) (m := m) hF.2
  | .grp l :: r, b, g, m, nd, hF => by
    obtain ⟨_, _, hl, hr⟩ := hF
    have hf := zoo (g := g + 1) (m := m) (nd := nd) hl
    have := zjY (l := r) (b := true) (g := g + 1) (m := addN m (nsF l m.nodes.length)) (nd := ndF (g + 1) l m.nodes.length nd) hr
    show (r.foldl FI.stp (g + 1, l.foldl (Fl.stp (g + 1)) (m, nd))).2 = _
    rw [hf, this, zec, zjx hl, zgf]
    unfold nsI
    rw [show (FI.grp l :: r).flatMap FI.fls = l ++ r.flatMap FI.fls from rfl, zml]; rfl
theorem zhZ {h : Nat} {kind : Int} : ∀ {l : List FI} {b : Bool}, okI h kind b l → ∀ f ∈ l.flatMap FI.fls, FldK h kind f
  | [], _, _, f, hf => by cases hf
  | .one x :: r, b, ⟨hx, hr⟩, f, hf => by
    rcases List.mem_cons.1 (show f ∈ x :: r.flatMap FI.fls from hf) with e | e
    · rw [e]; exact hx
    · exact zhZ hr f e
  | .dots :: r, b, hF, f, hf => zhZ hF.2 f hf
  | .grp l :: r, b, ⟨_, _, hl, hr⟩, f, hf => by
    rcases List.mem_append.1 (show f ∈ l ++ r.flatMap FI.fls from hf) with e | e
    · exact hl f e
    · exact zhZ hr f e
def kwF (kind : Int) : List UInt8 := if kind = 7 then [83, 69, 81, 85, 69, 78, 67, 69] else if kind = 8 then [83, 69, 84] else [67, 72, 79, 73, 67, 69]
def fldsT (kind : Int) (l : List FI) : KS := (5, kwF kind) :: (6, [123]) :: (sepK (l.map FI.toks) ++ [(6, [125])])
theorem zks {h : Nat} {kind : Int} (hk : kind = 7 ∨ kind = 8 ∨ kind = 9) {l : List FI} (hne : l ≠ []) (hF : okI h kind false l) (hs : szI l ≤ 300) (hl : (l.flatMap FI.fls).length ≤ 1000) :
    BaseK h (fldsT kind l) (szI l) (nsI l) (fun μ i => endN (ndI 0 l i { zm μ with kind := kind })) := by
  refine ⟨fun i => zjx (zhZ hF), ?_⟩
  intro n d L a m k t ks μ h1 h2 h3 hA hkt hm
  obtain ⟨n, rfl⟩ : ∃ n', n = n' + 1 := ⟨n - 1, by omega⟩
  rw [zkr]
  obtain ⟨y, e1, e2, e3⟩ := zfz (m := m) (p := 0) (e := 0) hA
  have a1 := Sg.tl hA
  have a2 : Sg L (a + 1 + 1) (sepK (l.map FI.toks) ++ (6, [125]) :: (k, t) :: ks) := by
    have := Sg.tl a1
    simpa using this
  have hgo := znK (h := h) (kind := kind) (n := n) (d := d) (m := m) (nd := { zm μ with kind := kind }) (by omega) h2 (by omega) hne a2 (by omega) rfl (by show 0 + _ ≤ _; omega) rfl hF
  rw [zjY hF] at hgo
  have e : a + ((fldsT kind l).length : Int) = a + 1 + 1 + ((sepK (l.map FI.toks)).length : Int) + 1 := by
    unfold fldsT; simp only [List.length_cons, List.length_append, List.length_nil]; omega
  rw [e]
  have no : ∀ s : List UInt8, isK 5 (kwF kind) s = false → zF ⟨L, a, m, 0, 0⟩ ⟨s⟩ = some (false, ⟨L, a, m, 0, 0⟩) := fun s hs => zdu hA hs
  refine T.fin ?_
  unfold zbn
  rcases hk with rfl | rfl | rfl
  · exact T.eq e1 (T.brF rfl (T.eq (no _ rfl) (T.brF rfl (T.eq (no _ rfl) (T.brF rfl (T.eq (no _ rfl) (T.brF rfl (T.eq (no _ rfl) (T.brF rfl (T.eq (no _ rfl) (T.brF rfl (T.eq (no _ rfl) (T.brF rfl (T.eq (no _ rfl) (T.brF rfl (T.eq (no _ rfl) (T.brF rfl (T.eq (zc3 hA rfl) (T.brT rfl (T.eq (zc3 a1 rfl) (T.brT rfl (T.eq hgo (T.some rfl)))))))))))))))))))))))
  · exact T.eq e1 (T.brF rfl (T.eq (no _ rfl) (T.brF rfl (T.eq (no _ rfl) (T.brF rfl (T.eq (no _ rfl) (T.brF rfl (T.eq (no _ rfl) (T.brF rfl (T.eq (no _ rfl) (T.brF rfl (T.eq (no _ rfl) (T.brF rfl (T.eq (zc3 hA rfl) (T.brT rfl (T.eq (zcH a1 rfl) (T.eq hgo (T.some rfl))))))))))))))))))
  · exact T.eq e1 (T.brF rfl (T.eq (no _ rfl) (T.brF rfl (T.eq (no _ rfl) (T.brF rfl (T.eq (no _ rfl) (T.brF rfl (T.eq (no _ rfl) (T.brF rfl (T.eq (no _ rfl) (T.brF rfl (T.eq (no _ rfl) (T.brF rfl (T.eq (no _ rfl) (T.brF rfl (T.eq (zc3 hA rfl) (T.brT rfl (T.eq (zcH a1 rfl) (T.eq hgo (T.some rfl))))))))))))))))))))

/-! ### Modules -/
structure As where
  name : List UInt8
  ts : KS
  sz : Nat
  ns : Nat → List GNode
  h : Nat
structure AsK (x : As) : Prop where
  t : TypK x.h x.ts x.sz x.ns
  h : x.h ≤ 17
def As.toks (x : As) : KS := (1, x.name) :: (6, [58, 58, 61]) :: x.ts
def typesA : List As → Nat → List Int
  | [], _ => []
  | x :: r, i => (i : Int) :: typesA r (i + x.sz)
def nodesA : List As → Nat → List GNode
  | [], _ => []
  | x :: r, i => x.ns i ++ nodesA r (i + x.sz)
def szA (l : List As) : Nat := (l.map As.sz).sum
def tagT (g : Int) : KS := if g = 1 then [(5, [73, 77, 80, 76, 73, 67, 73, 84]), (5, [84, 65, 71, 83])] else if g = 2 then [(5, [65, 85, 84, 79, 77, 65, 84, 73, 67]), (5, [84, 65, 71, 83])] else if g = 3 then [(5, [69, 88, 80, 76, 73, 67, 73, 84]), (5, [84, 65, 71, 83])] else []
def tagOf (g : Int) : Int := if g = 1 then 1 else if g = 2 then 2 else 0
def modT (nm : List UInt8) (g : Int) (l : List As) : KS := (1, nm) :: (5, [68, 69, 70, 73, 78, 73, 84, 73, 79, 78, 83]) :: (tagT g ++ (6, [58, 58, 61]) :: (5, [66, 69, 71, 73, 78]) :: (l.flatMap As.toks ++ [(5, [69, 78, 68])]))
def modM (nm : List UInt8) (g : Int) (l : List As) : GMod := ⟨⟨nm⟩, tagOf g, l.map fun x => ⟨x.name⟩, typesA l 0, nodesA l 0⟩
theorem zhJ : ∀ {a : List As} {x : As} {i : Nat}, typesA (a ++ [x]) i = typesA a i ++ [((i + szA a : Nat) : Int)]
  | [], x, i => by show [(i : Int)] = [] ++ [((i + 0 : Nat) : Int)]; rfl
  | y :: r, x, i => by
    show (i : Int) :: typesA (r ++ [x]) (i + y.sz) = (i : Int) :: (typesA r (i + y.sz) ++ _)
    rw [zhJ]
    have : szA (y :: r) = y.sz + szA r := by unfold szA; simp
    rw [this, Nat.add_assoc]
theorem zhI : ∀ {a : List As} {x : As} {i : Nat}, nodesA (a ++ [x]) i = nodesA a i ++ x.ns (i + szA a)
  | [], x, i => by show x.ns i ++ [] = [] ++ x.ns (i + 0); rw [List.append_nil]; rfl
  | y :: r, x, i => by
    show y.ns i ++ nodesA (r ++ [x]) (i + y.sz) = y.ns i ++ nodesA r (i + y.sz) ++ _
    rw [zhI]
    have : szA (y :: r) = y.sz + szA r := by unfold szA; simp
    rw [this, Nat.add_assoc, List.append_assoc]
theorem zid : ∀ {a : List As} {i : Nat}, (∀ x ∈ a, AsK x) → (nodesA a i).length = szA a
  | [], _, _ => rfl
  | y :: r, i, h => by
    have := zid (a := r) (i := i + y.sz) fun x hx => h x (List.mem_cons_of_mem _ hx)
    show (y.ns i ++ nodesA r (i + y.sz)).length = _
    rw [List.length_append, this, (h y (List.mem_cons_self ..)).t.len]; unfold szA; simp
theorem zmF {s : Str} {nm : List UInt8} {g : Int} (hg : 0 ≤ g ∧ g ≤ 3) {l : List As} (hk : KT s.b (modT nm g l)) (hs : s.b.length ≤ 8000) (hl : l.length ≤ 40) (hz : szA l ≤ 300) (hF : ∀ x ∈ l, AsK x) :
    zcr s = some (modM nm g l, 0, 0) := by
  obtain ⟨ts, e1, e2⟩ := zpd hk hs
  have htk := (ziv s).get? (zhr s) (by rw [e1])
  rw [e1] at htk
  have hlen : ts.length ≤ 8001 := htk.len
  have hA : Sg ts 0 (modT nm g l) := ⟨Int.le_refl _, by omega, by rw [show (0 : Int).toNat = 0 from rfl, List.drop_zero]; exact e2⟩
  refine T.fin ?_
  unfold zcr
  refine T.eq (zhr s) ?_
  rw [e1]
  have a1 := Sg.tl hA
  have a2 := Sg.tl a1
  refine T.brF rfl (T.eq (zfQ hA) (T.eq (zcH a1 rfl) ?_))
  have a3 := Sg.app (L := ts) (xs := tagT g) a2
  refine T.jp (fun x => x = (⟨ts, 0 + 1 + 1 + (tagT g).length, ⟨⟨nm⟩, tagOf g, [], [], []⟩, 0, 0⟩ : GPar)) (fun J hJ => ?_) fun x hx => ?_
  · have hc : g = 0 ∨ g = 1 ∨ g = 2 ∨ g = 3 := by omega
    rcases hc with rfl | rfl | rfl | rfl
    · have b : Sg ts (0 + 1 + 1) ((6, [58, 58, 61]) :: (5, [66, 69, 71, 73, 78]) :: (l.flatMap As.toks ++ [(5, [69, 78, 68])])) := a2
      exact T.eq (zdu b rfl) (T.brF rfl (T.eq (zdu b rfl) (T.brF rfl (T.eq (zdu b rfl) (T.brF rfl (hJ _ rfl))))))
    · have b : Sg ts (0 + 1 + 1) ((5, [73, 77, 80, 76, 73, 67, 73, 84]) :: (5, [84, 65, 71, 83]) :: (6, [58, 58, 61]) :: (5, [66, 69, 71, 73, 78]) :: (l.flatMap As.toks ++ [(5, [69, 78, 68])])) := a2
      exact T.eq (zdu b rfl) (T.brF rfl (T.eq (zc3 b rfl) (T.brT rfl (T.eq (zcH b.tl rfl) (hJ _ rfl)))))
    · have b : Sg ts (0 + 1 + 1) ((5, [65, 85, 84, 79, 77, 65, 84, 73, 67]) :: (5, [84, 65, 71, 83]) :: (6, [58, 58, 61]) :: (5, [66, 69, 71, 73, 78]) :: (l.flatMap As.toks ++ [(5, [69, 78, 68])])) := a2
      exact T.eq (zdu b rfl) (T.brF rfl (T.eq (zdu b rfl) (T.brF rfl (T.eq (zc3 b rfl) (T.brT rfl (T.eq (zcH b.tl rfl) (hJ _ rfl)))))))
    · have b : Sg ts (0 + 1 + 1) ((5, [69, 88, 80, 76, 73, 67, 73, 84]) :: (5, [84, 65, 71, 83]) :: (6, [58, 58, 61]) :: (5, [66, 69, 71, 73, 78]) :: (l.flatMap As.toks ++ [(5, [69, 78, 68])])) := a2
      exact T.eq (zc3 b rfl) (T.brT rfl (T.eq (zcH b.tl rfl) (hJ _ rfl)))
  subst hx
  have a4 := Sg.tl a3
  have a5 := Sg.tl a4
  refine T.eq (zcH a3 rfl) (T.eq (zcH a4 rfl) ?_)
  generalize hb : (0 : Int) + 1 + 1 + ((tagT g).length : Int) + 1 + 1 = b at a5
  have hb0 := a5.a0
  have hbz := a5.size
  refine T.lp (ι := GPar) (fun x => ∃ (dn rest : List As) (a : Int), l = dn ++ rest ∧ x = ⟨ts, a, ⟨⟨nm⟩, tagOf g, dn.map fun x => ⟨x.name⟩, typesA dn 0, nodesA dn 0⟩, 0, 0⟩ ∧ Sg ts a (rest.flatMap As.toks ++ [(5, [69, 78, 68])])) (fun x => ((ts.length : Int) - x.at_).toNat) ⟨[], l, b, rfl, rfl, a5⟩ (by dsimp only; omega) fun L x hx hL => ?_
  obtain ⟨dn, rest, a, hdr, rfl, ha⟩ := hx
  dsimp only at hL ⊢
  cases rest with
  | nil =>
    rw [List.append_nil] at hdr
    subst hdr
    have ha' : Sg ts a [(5, [69, 78, 68])] := ha
    refine T.jp0 (T.brT rfl (T.eq (zc3 ha' rfl) (T.brF rfl ?_)))
    obtain ⟨y, y1, y2⟩ := ha'.tl.end_
    refine T.jp0 (T.brT rfl (T.eq (y := (y, (⟨ts, a + 1, ⟨⟨nm⟩, tagOf g, l.map fun x => ⟨x.name⟩, typesA l 0, nodesA l 0⟩, 0, 0⟩ : GPar))) (by unfold zaj; dsimp only; rw [zfs ha'.tl.a0 y1]; rfl) ?_))
    refine T.jp0 (T.brF (by dsimp only; rw [y2]; rfl) (T.brF rfl (T.some rfl)))
  | cons x rest =>
    have hx := hF x (by rw [hdr]; exact List.mem_append_right _ (List.mem_cons_self ..))
    have hll : dn.length + (rest.length + 1) ≤ 40 := by rw [hdr, List.length_append, List.length_cons] at hl; exact hl
    have hzz : szA dn + x.sz ≤ 300 := by
      have : szA l = szA dn + (x.sz + szA rest) := by rw [hdr]; unfold szA; simp
      omega
    have hdk : ∀ y ∈ dn, AsK y := fun y hy => hF y (by rw [hdr]; exact List.mem_append_left _ hy)
    have hnl : (nodesA dn 0).length = szA dn := zid hdk
    have htl : (typesA dn 0).length = dn.length := by
      have : ∀ (a : List As) (i : Nat), (typesA a i).length = a.length := fun a => by
        induction a with
        | nil => intro i; rfl
        | cons y r ih => intro i; show (typesA r (i + y.sz)).length + 1 = _; rw [ih]; rfl
      exact this _ _
    have ha1 : Sg ts a ((1, x.name) :: (6, [58, 58, 61]) :: (x.ts ++ (rest.flatMap As.toks ++ [(5, [69, 78, 68])]))) := by
      have e : (x :: rest).flatMap As.toks ++ [(5, [69, 78, 68])] = (1, x.name) :: (6, [58, 58, 61]) :: (x.ts ++ (rest.flatMap As.toks ++ [(5, [69, 78, 68])])) := by
        show As.toks x ++ rest.flatMap As.toks ++ _ = _
        unfold As.toks; simp
      rw [e] at ha; exact ha
    have ha2 := Sg.tl ha1
    have ha3 := Sg.tl ha2
    have hnx : ∃ k t ks', rest.flatMap As.toks ++ [(5, [69, 78, 68])] = (k, t) :: ks' ∧ isK k t [40] = false := by
      cases rest with
      | nil => exact ⟨5, [69, 78, 68], [], rfl, rfl⟩
      | cons y r => exact ⟨1, y.name, _, rfl, rfl⟩
    obtain ⟨k, t, ks', ek, hkt⟩ := hnx
    have ha3' := ha3
    rw [ek] at ha3'
    obtain ⟨y, f1, f2, f3⟩ := zfz (m := ⟨⟨nm⟩, tagOf g, dn.map fun x => ⟨x.name⟩, typesA dn 0, nodesA dn 0⟩) (p := 0) (e := 0) ha1
    have hty := hx.t.go (n := fuel) (d := 0) (m := ⟨⟨nm⟩, tagOf g, dn.map fun x => ⟨x.name⟩, typesA dn 0, nodesA dn 0⟩) (by have := hx.h; unfold fuel; omega) (Int.le_refl _) (by have := hx.h; omega) ha3' hkt (by dsimp only; rw [hnl]; exact hzz)
    dsimp only at hty
    rw [hnl] at hty
    have hsz := ha3.size
    have hal := ha3.app.size
    have ha0 := ha1.a0
    refine T.jp0 (T.brT rfl (T.eq (zdu ha1 rfl) (T.brT rfl (T.eq f1 (T.eq (zfQ ha1) ?_)))))
    refine T.jp (fun b => b = false) (fun J hJ => T.brT rfl (hJ _ (zDF (by dsimp only; rw [List.length_map]; omega)))) fun b hb2 => ?_
    subst hb2
    refine T.jp0 (T.brF rfl (T.eq (zcH ha2 rfl) (T.eq hty (T.abl ?_ (T.abl ?_ (hL _ ⟨dn ++ [x], rest, a + 1 + 1 + (x.ts.length : Int), by rw [hdr, List.append_assoc]; rfl, ?_, ha3.app⟩ ?_))))))
    · show (dn.map fun x => (⟨x.name⟩ : Str)).length + 1 ≤ _; rw [List.length_map]; omega
    · show (typesA dn 0).length + 1 ≤ _; rw [htl]; omega
    · dsimp only
      rw [List.map_append, zhJ, zhI, Nat.zero_add]; rfl
    · dsimp only; omega
end Go.Proofs.Q


namespace Go.Proofs.Q
open Go.Sy
set_option linter.unusedVariables false

structure N10 (m : GMod) (k : Int) (h : Nat) (sz : Nat) (tt : Nat → List GTyp) : Prop where
  len : ∀ i, (tt i).length = sz
  go : ∀ {n : Nat} {d : Int} {l : List GTyp}, 3 * h ≤ n → 0 ≤ d → d + h ≤ 17 → l.length + sz ≤ 300 → zbz n ⟨m, l, 0⟩ k d = some ((l.length : Int), ⟨m, l ++ tt l.length, 0⟩)
structure M10 (m : GMod) (nd : GNode) (h : Nat) (sz : Nat) (t : Nat → GTyp) (tt : Nat → List GTyp) : Prop where
  len : ∀ i, (tt i).length = sz
  go : ∀ {n : Nat} {d : Int} {l : List GTyp}, 3 * h + 2 ≤ n → 0 ≤ d → d + h ≤ 16 → l.length + (sz + 1) ≤ 300 → zby n ⟨m, l, 0⟩ nd d = some ((l.length : Int), ⟨m, l ++ t l.length :: tt l.length, 0⟩)
theorem ziG (n : Nat) : zbz (n + 1) = zbv (zbe n) (zbz n) (zby n) := rfl
theorem ziU (n : Nat) : zby (n + 1) = zbu (zbe n) (zbz n) (zby n) := rfl
theorem zjV (n : Nat) : zbe (n + 1) = zbr (zbe n) (zbz n) (zby n) := rfl
theorem zow {m : GMod} {k : Nat} {nd : GNode} (hk : m.nodes[k]? = some nd) (h11 : nd.kind ≠ 11) (hm : nd.mark.has = false) {h sz : Nat} {t : Nat → GTyp} {tt : Nat → List GTyp} (hM : M10 m nd h sz t tt) : N10 m (k : Int) (h + 1) (sz + 1) (fun i => t i :: tt i) := by
  refine ⟨fun i => by rw [List.length_cons, hM.len], ?_⟩
  intro n d l h1 h2 h3 h4
  obtain ⟨n, rfl⟩ : ∃ n', n = n' + 1 := ⟨n - 1, by omega⟩
  rw [ziG]
  refine T.fin ?_
  unfold zbv
  refine T.brF rfl (T.eq (zfs (by omega) (by rw [Int.toNat_natCast]; exact hk)) (T.jp0 (T.brF (zDF h11) (T.eq (hM.go (by omega) h2 (by omega) h4) ?_))))
  refine T.jp0 (T.brT rfl (T.jp0 ?_))
  dsimp only
  rw [hm]
  exact T.brF rfl (T.some rfl)
theorem zoZ {m : GMod} {k : Nat} {nd : GNode} {v : Int} (hk : m.nodes[k]? = some nd) (h11 : nd.kind ≠ 11) (hm : nd.mark = ⟨true, v, 0⟩) (hg : m.tagging ≠ 0) (h0 : 0 ≤ v) (h9 : v ≤ 268435456) {h sz : Nat} {t : Nat → GTyp} {tt : Nat → List GTyp} (hM : M10 m nd h sz t tt) (ht : ∀ i, ∃ u, (t i).tags = [u]) :
    N10 m (k : Int) (h + 1) (sz + 1) (fun i => { t i with tags := [⟨2, v⟩] } :: tt i) := by
  refine ⟨fun i => by rw [List.length_cons, hM.len], ?_⟩
  intro n d l h1 h2 h3 h4
  obtain ⟨n, rfl⟩ : ∃ n', n = n' + 1 := ⟨n - 1, by omega⟩
  rw [ziG]
  refine T.fin ?_
  unfold zbv
  refine T.brF rfl (T.eq (zfs (by omega) (by rw [Int.toNat_natCast]; exact hk)) (T.jp0 (T.brF (zDF h11) (T.eq (hM.go (by omega) h2 (by omega) h4) ?_))))
  refine T.jp0 (T.brT rfl (T.jp0 ?_))
  dsimp only
  rw [hm]
  obtain ⟨u, hu⟩ := ht l.length
  have hll : ((l ++ t l.length :: tt l.length).length : Int) = l.length + 1 + (tt l.length).length := by rw [List.length_append, List.length_cons]; omega
  have hs : zbV ⟨m, l ++ t l.length :: tt l.length, 0⟩ (l.length : Int) = some (1, ⟨m, l ++ t l.length :: tt l.length, 0⟩) := by
    refine T.fin ?_
    unfold zbV
    refine T.asd ⟨by omega, by dsimp only; omega⟩ (T.eq (y := t l.length) (by rw [Int.toNat_natCast]; exact zgH _ _ _) (T.brT ?_ (T.some rfl)))
    rw [hu]; rfl
  have hw : zeI [u] v 1 = some ([⟨2, v⟩], 0) := by
    refine T.fin ?_
    unfold zeI
    refine T.jp (fun b => b = false) (fun J hJ => T.brF (zDF (by omega)) (hJ _ (zDF (by omega)))) fun b hb => ?_
    subst hb
    exact T.jp0 (T.brF rfl (T.jp0 (T.brT rfl (T.brF rfl (T.brT rfl (T.asr rfl (T.asr rfl (T.some rfl))))))))
  refine T.brT rfl (T.jp (ι := Int × GMk) (fun q => q = (1, ⟨m, l ++ t l.length :: tt l.length, 0⟩)) (fun J hJ => T.brF rfl (T.jp0 (T.brT rfl (T.brT ?_ (T.eq hs (hJ _ rfl)))))) fun q hq => ?_)
  · rw [zDF hg]; rfl
  subst hq
  have hwr : zbS ⟨m, l ++ t l.length :: tt l.length, 0⟩ (l.length : Int) v 1 = some ⟨m, l ++ { t l.length with tags := [⟨2, v⟩] } :: tt l.length, 0⟩ := by
    refine T.fin ?_
    unfold zbS
    refine T.brF rfl (T.asd ⟨by omega, by dsimp only; omega⟩ (T.eq (y := t l.length) (by rw [Int.toNat_natCast]; exact zgH _ _ _) ?_))
    rw [hu]
    refine T.eq hw (T.brF rfl (T.asd ⟨by omega, by dsimp only; omega⟩ (T.eq (y := t l.length) (by rw [Int.toNat_natCast]; exact zgH _ _ _) (T.some ?_))))
    rw [Int.toNat_natCast, zlf]
  exact T.eq hwr (T.some rfl)

/-! ### Leaves -/
def fldT (nd : GNode) (tg : List Tag) (fs : List GFld) : GTyp := ⟨nd.kind, tg, nd.con, [], fs, nd.root, nd.more, 0⟩
def univ (k : Int) : Tag := ⟨0, if k = 1 then 1 else if k = 2 then 2 else if k = 5 then 4 else if k = 4 then 5 else if k = 10 then 16 else if k = 7 then 16 else 17⟩
theorem zoC {k : Int} (hk : k = 1 ∨ k = 2 ∨ k = 4 ∨ k = 5 ∨ k = 7 ∨ k = 8 ∨ k = 10) : zcK k = some (univ k) := by
  rcases hk with e | e | e | e | e | e | e <;> subst e <;> rfl
def tgs (k : Int) : List Tag := if k = 9 then [] else [univ k]
theorem zh5 {m : GMod} {nd : GNode} {F Nd Md} {d : Int} {l : List GTyp} (hk : nd.kind = 1 ∨ nd.kind = 2 ∨ nd.kind = 4 ∨ nd.kind = 5 ∨ nd.kind = 7 ∨ nd.kind = 8 ∨ nd.kind = 9 ∨ nd.kind = 10) (hd : d ≤ 16) (hl : l.length < 300) {R : Int × GMk → Prop}
    (h : T R (jp (ι := GMk) (fun J21 => jp (ι := Bool) (fun J23 => br (decide (nd.kind = (2 : Int))) (J23 ((decide (nd.kind = (2 : Int))))) (br (decide (nd.kind = (5 : Int))) (J23 ((decide (nd.kind = (5 : Int))))) (br (decide (nd.kind = (6 : Int))) (J23 ((decide (nd.kind = (6 : Int))))) (J23 ((decide (nd.kind = (10 : Int)))))))) (fun q22 => br q22 (cal (zeo nd.con (!decide (nd.kind = (2 : Int)))) fun y24 => jp (ι := GMk) (fun J26 => br (!decide (y24 = (0 : Int))) (cal (zaL ⟨m, l ++ [fldT nd (tgs nd.kind) []], 0⟩ y24) fun y27 => J26 (y27)) (J26 (⟨m, l ++ [fldT nd (tgs nd.kind) []], 0⟩))) (fun q25 => br (decide (nd.kind = (10 : Int))) (ck ((d + (1 : Int))) <| cal (Nd q25 nd.of (d + (1 : Int))) fun y29 => br (decide (y29.2.e = (0 : Int))) (asr (decide (0 ≤ ((l.length : Nat) : Int) ∧ ((l.length : Nat) : Int) < ((y29.2.l.length : Nat) : Int))) <| cal (y29.2.l[((l.length : Nat) : Int).toNat]?) fun y32 => J21 ((GMk.mk y29.2.m (y29.2.l.set (((l.length : Nat) : Int).toNat) ({ y32 with of := y29.1 })) y29.2.e))) (J21 (y29.2))) (J21 (q25)))) (br (decide (nd.kind = (3 : Int))) (cal (zcd ⟨m, l ++ [fldT nd (tgs nd.kind) []], 0⟩ nd) fun y33 => asr (decide (y33.2.l.length = (l ++ [fldT nd (tgs nd.kind) []]).length)) <| asr (decide (0 ≤ ((l.length : Nat) : Int) ∧ ((l.length : Nat) : Int) < (((l ++ [fldT nd (tgs nd.kind) []]).length : Nat) : Int))) <| cal (y33.2.l[((l.length : Nat) : Int).toNat]?) fun y36 => J21 ((GMk.mk y33.2.m (y33.2.l.set (((l.length : Nat) : Int).toNat) ({ y36 with items := y33.1 })) y33.2.e))) (jp (ι := Bool) (fun J38 => br (decide (nd.kind = (7 : Int))) (J38 ((decide (nd.kind = (7 : Int))))) (br (decide (nd.kind = (8 : Int))) (J38 ((decide (nd.kind = (8 : Int))))) (J38 ((decide (nd.kind = (9 : Int))))))) (fun q37 => br q37 (cal (F ⟨m, l ++ [fldT nd (tgs nd.kind) []], 0⟩ ((l.length : Nat) : Int) nd d) fun y39 => J21 (y39)) (J21 (⟨m, l ++ [fldT nd (tgs nd.kind) []], 0⟩))))))) (fun q20 => some (((l.length : Nat) : Int), q20)))) :
    T R (zbu F Nd Md ⟨m, l, 0⟩ nd d) := by
  unfold zbu
  refine T.jp (fun b => b = false) (fun J hJ => T.brF (zDF (by omega)) (hJ _ (zDF (by dsimp only; omega)))) fun b hb => T.brF hb ?_
  refine T.jp (ι := GTyp) (fun q => q = fldT nd (tgs nd.kind) []) (fun J hJ => T.br (fun h9 => ?_) fun h9 => hJ _ ?_) fun q hq => ?_
  · have h9 : ¬ nd.kind = 9 := by simpa using h9
    exact T.eq (zoC (by omega)) (hJ _ (by unfold tgs; rw [if_neg h9]; rfl))
  · have h9 : nd.kind = 9 := by simpa using h9
    unfold tgs; rw [if_pos h9]; rfl
  · subst hq
    exact T.jp0 (T.abl (by dsimp only; simp only [List.length_singleton]; omega) h)
theorem zmL {m : GMod} {nd : GNode} (hk : nd.kind = 1 ∨ nd.kind = 4) : M10 m nd 0 0 (fun _ => fldT nd (tgs nd.kind) []) (fun _ => []) := by
  refine ⟨fun _ => rfl, ?_⟩
  intro n d l h1 h2 h3 h4
  obtain ⟨n, rfl⟩ : ∃ n', n = n' + 1 := ⟨n - 1, by omega⟩
  rw [ziU]
  refine T.fin (zh5 (by omega) (by omega) (by omega) ?_)
  refine T.jp0 (T.jp (fun b => b = false) (fun J hJ => T.brF (zDF (by omega)) (T.brF (zDF (by omega)) (T.brF (zDF (by omega)) (hJ _ (zDF (by omega)))))) fun b hb => T.brF hb (T.brF (zDF (by omega)) ?_))
  exact T.jp (fun b => b = false) (fun J hJ => T.brF (zDF (by omega)) (T.brF (zDF (by omega)) (hJ _ (zDF (by omega))))) fun b hb => T.brF hb (T.some rfl)

/-! ### Fields -/
structure Ch where
  f : GFld
  sz : Nat
  tt : Nat → List GTyp
def tsC : List Ch → Nat → List GTyp
  | [], _ => []
  | c :: r, i => c.tt i ++ tsC r (i + c.sz)
def flC : List Ch → Nat → List GFld
  | [], _ => []
  | c :: r, i => { c.f with ty := (i : Int) } :: flC r (i + c.sz)
def szC (l : List Ch) : Nat := (l.map Ch.sz).sum
structure ChK (m : GMod) (h : Nat) (c : Ch) : Prop where
  n : N10 m c.f.ty h c.sz c.tt
  has : c.f.has = false
theorem zkD : ∀ {a : List Ch} {x : Ch} {i : Nat}, tsC (a ++ [x]) i = tsC a i ++ x.tt (i + szC a)
  | [], x, i => by show x.tt i ++ [] = [] ++ x.tt (i + 0); rw [List.append_nil]; rfl
  | y :: r, x, i => by
    show y.tt i ++ tsC (r ++ [x]) (i + y.sz) = y.tt i ++ tsC r (i + y.sz) ++ _
    rw [zkD]
    have : szC (y :: r) = y.sz + szC r := by unfold szC; simp
    rw [this, Nat.add_assoc, List.append_assoc]
theorem zkg : ∀ {a : List Ch} {x : Ch} {i : Nat}, flC (a ++ [x]) i = flC a i ++ [{ x.f with ty := ((i + szC a : Nat) : Int) }]
  | [], x, i => rfl
  | y :: r, x, i => by
    show _ :: flC (r ++ [x]) (i + y.sz) = _ :: (flC r (i + y.sz) ++ _)
    rw [zkg]
    have : szC (y :: r) = y.sz + szC r := by unfold szC; simp
    rw [this, Nat.add_assoc]
theorem zj3 : ∀ {a : List Ch} {i : Nat}, (flC a i).length = a.length
  | [], _ => rfl
  | y :: r, i => by show (flC r (i + y.sz)).length + 1 = _; rw [zj3]; rfl
theorem zjC {m : GMod} {h : Nat} : ∀ {a : List Ch} {i : Nat}, (∀ c ∈ a, ChK m h c) → (tsC a i).length = szC a
  | [], _, _ => rfl
  | y :: r, i, hc => by
    have := zjC (a := r) (i := i + y.sz) fun x hx => hc x (List.mem_cons_of_mem _ hx)
    show (y.tt i ++ tsC r (i + y.sz)).length = _
    rw [List.length_append, this, (hc y (List.mem_cons_self ..)).n.len]; unfold szC; simp
theorem znd {m : GMod} {nd : GNode} {h : Nat} {chs : List Ch} (hf : nd.fields = chs.map Ch.f) (hc : ∀ c ∈ chs, ChK m h c) (hg : m.tagging ≠ 2) (h9 : nd.kind = 9 → chs ≠ []) (hnm : (chs.map fun c => c.f.name).Nodup) {n : Nat} {d : Int} {l : List GTyp} {tg : List Tag} (h1 : 3 * h + 1 ≤ n) (h2 : 0 ≤ d) (h3 : d + h ≤ 16) (h4 : l.length + (szC chs + 1) ≤ 300)
    (hcl : chs.length ≤ 1000) (hap : zbp ⟨m, l ++ fldT nd tg (flC chs (l.length + 1)) :: tsC chs (l.length + 1), 0⟩ (fldT nd tg (flC chs (l.length + 1))) = some (true, ⟨m, l ++ fldT nd tg (flC chs (l.length + 1)) :: tsC chs (l.length + 1), 0⟩)) :
    zbe n ⟨m, l ++ [fldT nd tg []], 0⟩ (l.length : Int) nd d = some ⟨m, l ++ fldT nd tg (flC chs (l.length + 1)) :: tsC chs (l.length + 1), 0⟩ := by
  obtain ⟨n, rfl⟩ : ∃ n', n = n' + 1 := ⟨n - 1, by omega⟩
  rw [zjV]
  have hfl : nd.fields.length = chs.length := by rw [hf, List.length_map]
  refine T.fin ?_
  unfold zbr
  refine T.lp (ι := Bool × Int) (fun q => q.1 = true ∧ 0 ≤ q.2 ∧ q.2 ≤ nd.fields.length) (fun q => ((nd.fields.length : Int) - q.2).toNat) ⟨by dsimp only; rw [zDF hg]; rfl, Int.le_refl _, by dsimp only; omega⟩ (by dsimp only; omega) fun L q ⟨q0, q1, q2⟩ hL => ?_
  obtain ⟨mk, i⟩ := q
  dsimp only at q0 q1 q2 hL ⊢
  subst q0
  refine T.br (fun hb => ?_) fun hb => ?_
  · have hb := zOT hb
    exact T.get q1 hb fun f hf => T.jp (fun b => b = true) (fun J hJ => T.brT rfl (hJ _ rfl)) fun b hb => T.ck (by omega) (hL _ ⟨hb, by dsimp only; omega, by dsimp only; omega⟩ (by dsimp only; omega))
  refine T.jp (fun b => b = false) (fun J hJ => T.br (fun h => hJ _ (zDF fun e => ?_)) fun _ => hJ _ rfl) fun b hb1 => ?_
  · have := h9 (zOT h)
    exact this (List.length_eq_zero_iff.1 (by omega))
  subst hb1
  refine T.jp0 (T.brF rfl (T.jp0 (T.brF rfl ?_)))
  refine T.lp (ι := List GFld × Int × GMk) (fun q => ∃ a b : List Ch, chs = a ++ b ∧ q = (flC a (l.length + 1), (a.length : Int), ⟨m, l ++ fldT nd tg [] :: tsC a (l.length + 1), 0⟩)) (fun q => ((nd.fields.length : Int) - q.2.1).toNat) ⟨[], chs, rfl, rfl⟩ (by dsimp only; omega) fun L2 q hq hL2 => ?_
  obtain ⟨a, b, hab, rfl⟩ := hq
  dsimp only at hL2 ⊢
  have hca : ∀ c ∈ a, ChK m h c := fun c hc' => hc c (by rw [hab]; exact List.mem_append_left _ hc')
  have hlab : chs.length = a.length + b.length := by rw [hab, List.length_append]
  cases b with
  | nil =>
    rw [List.append_nil] at hab
    subst hab
    refine T.jp (fun b => b = false) (fun J hJ => T.brF (zDF (by omega)) (hJ _ rfl)) fun b hb2 => T.brF hb2 (T.brT rfl ?_)
    have hl2 : ((l ++ fldT nd tg [] :: tsC chs (l.length + 1)).length : Int) = l.length + 1 + (tsC chs (l.length + 1)).length := by rw [List.length_append, List.length_cons]; omega
    refine T.asd ⟨by omega, by omega⟩ (T.eq (y := fldT nd tg []) (by rw [Int.toNat_natCast]; exact zgH _ _ _) ?_)
    rw [Int.toNat_natCast, zlf]
    refine T.asd ⟨by omega, by rw [List.length_append, List.length_cons]; omega⟩ (T.eq (zgH _ _ _) (T.eq hap (T.brF rfl (T.some rfl))))
  | cons c b =>
    have hck := hc c (by rw [hab]; exact List.mem_append_right _ (List.mem_cons_self ..))
    rw [List.length_cons] at hlab
    refine T.jp (fun b => b = true) (fun J hJ => T.brT (zDT (by omega)) (hJ _ rfl)) fun b' hb2 => T.brT hb2 ?_
    refine T.eq (y := c.f) (zfs (by omega) (by rw [Int.toNat_natCast, hf, hab, List.map_append, List.getElem?_append_right (by rw [List.length_map]; exact Nat.le_refl _), List.length_map, Nat.sub_self]; rfl)) ?_
    refine T.lp (ι := Int × GMk) (fun q => 0 ≤ q.1 ∧ q.1 ≤ a.length ∧ q.2 = ⟨m, l ++ fldT nd tg [] :: tsC a (l.length + 1), 0⟩) (fun q => ((a.length : Int) - q.1).toNat) ⟨Int.le_refl _, by dsimp only; omega, rfl⟩ (by dsimp only; omega) fun L3 q ⟨s1, s2, s3⟩ hL3 => ?_
    obtain ⟨j, y⟩ := q
    dsimp only at s1 s2 s3 hL3 ⊢
    subst s3
    refine T.br (fun hb4 => ?_) fun hb4 => ?_
    · have hb4 := zOT hb4
      refine T.jp (ι := GMk) (fun z => z = ⟨m, l ++ fldT nd tg [] :: tsC a (l.length + 1), 0⟩) (fun J hJ => T.get s1 (by omega) fun g hg' => T.brF (zDF fun e => ?_) (hJ _ rfl)) fun z hz => T.ck (by omega) (hL3 _ ⟨by dsimp only; omega, by dsimp only; omega, hz⟩ (by dsimp only; omega))
      rw [hf, hab, List.map_append, List.getElem?_append_left (by rw [List.length_map]; omega)] at hg'
      have hga := List.mem_of_getElem? hg'
      obtain ⟨c', hc', rfl⟩ := List.mem_map.1 hga
      rw [hab, List.map_append, List.nodup_append] at hnm
      exact hnm.2.2 _ (List.mem_map.2 ⟨c', hc', rfl⟩) _ (List.mem_cons_self ..) e
    have hta := zjC (i := l.length + 1) hca
    have hsz : szC chs = szC a + (c.sz + szC b) := by rw [hab]; unfold szC; simp
    have hl3 : (l ++ fldT nd tg [] :: tsC a (l.length + 1)).length = l.length + 1 + szC a := by rw [List.length_append, List.length_cons, hta]; omega
    have hgo := hck.n.go (n := n) (d := d + 1) (l := l ++ fldT nd tg [] :: tsC a (l.length + 1)) (by omega) (by omega) (by omega) (by omega)
    rw [hl3] at hgo
    refine T.ck (by omega) (T.eq hgo (T.jp (fun b => b = false) (fun J hJ => T.brT rfl (hJ _ hck.has)) fun b4 hb5 => ?_))
    subst hb5
    refine T.jp0 (T.brF rfl (T.jp (fun b => b = false) (fun J hJ => T.brT rfl (hJ _ rfl)) fun b5 hb6 => T.jp0 (T.brF hb6 (T.abl ?_ (T.ck (by omega) (hL2 _ ⟨a ++ [c], b, by rw [hab, List.append_assoc]; rfl, ?_⟩ (by dsimp only; omega)))))))
    · rw [zj3]; simp only [List.length_singleton]; omega
    · rw [zkg, zkD, List.length_append]
      simp only [List.append_assoc, List.cons_append, List.length_singleton]
      rfl
theorem zkR {m : GMod} {nd : GNode} {h : Nat} {chs : List Ch} (hk : nd.kind = 7 ∨ nd.kind = 8 ∨ nd.kind = 9) (h9 : nd.kind = 9 → chs ≠ []) (hf : nd.fields = chs.map Ch.f) (hc : ∀ c ∈ chs, ChK m h c) (hg : m.tagging ≠ 2) (hnm : (chs.map fun c => c.f.name).Nodup) (hcl : chs.length ≤ 1000)
    (hap : ∀ l : List GTyp, l.length + (szC chs + 1) ≤ 300 → zbp ⟨m, l ++ fldT nd (tgs nd.kind) (flC chs (l.length + 1)) :: tsC chs (l.length + 1), 0⟩ (fldT nd (tgs nd.kind) (flC chs (l.length + 1))) = some (true, ⟨m, l ++ fldT nd (tgs nd.kind) (flC chs (l.length + 1)) :: tsC chs (l.length + 1), 0⟩)) :
    M10 m nd h (szC chs) (fun i => fldT nd (tgs nd.kind) (flC chs (i + 1))) (fun i => tsC chs (i + 1)) := by
  refine ⟨fun i => zjC hc, ?_⟩
  intro n d l h1 h2 h3 h4
  obtain ⟨n, rfl⟩ : ∃ n', n = n' + 1 := ⟨n - 1, by omega⟩
  rw [ziU]
  refine T.fin (zh5 (by omega) (by omega) (by omega) ?_)
  refine T.jp0 (T.jp (fun b => b = false) (fun J hJ => T.brF (zDF (by omega)) (T.brF (zDF (by omega)) (T.brF (zDF (by omega)) (hJ _ (zDF (by omega)))))) fun b hb => T.brF hb (T.brF (zDF (by omega)) ?_))
  refine T.jp (fun b => b = true) (fun J hJ => T.br (fun h => hJ _ h) fun h => T.br (fun h => hJ _ h) fun h' => hJ _ (zDT (by have := zOF h; have := zOF h'; omega))) fun b hb => T.brT hb ?_
  exact T.eq (znd hf hc hg h9 hnm (by omega) h2 (by omega) h4 hcl (hap l h4)) (T.some rfl)
end Go.Proofs.Q


namespace Go.Proofs.Q
open Go.Sy
set_option linter.unusedVariables false

theorem znG {α β : Type} (f : α → List β) {l l' : List α} (h : l.Sublist l') : (l.flatMap f).Sublist (l'.flatMap f) := by
  induction h with
  | slnil => exact List.Sublist.refl _
  | cons a _ ih => rw [List.flatMap_cons]; exact ih.trans (List.sublist_append_right _ _)
  | cons_cons a _ ih => rw [List.flatMap_cons, List.flatMap_cons]; exact (List.Sublist.refl _).append ih
theorem zpK {h : Nat} {l : List GTyp} {fs gs : List GFld} {o : Bool} (hw : ∀ f ∈ fs, wld h l f.ty = false) (hn : (fs.flatMap fun f => bgs h l f.ty).Nodup) (hs : gs.Sublist fs) : tld h l gs o = true := by
  unfold tld
  have h1 : (gs.any fun f => wld h l f.ty && (o || decide (1 < gs.length))) = false := by
    rw [List.any_eq_false]
    intro f hf
    rw [hw f (hs.subset hf)]; simp
  have h2 : (gs.flatMap fun f => bgs h l f.ty).Nodup := hn.sublist (znG _ hs)
  rw [h1, zDT h2]; rfl
theorem zn6 {h a b : Nat} {x : GMk} {t : GTyp} (hk : Kids (SubT h x.l) (t.fields.map fun f => f.ty) a b) (hh : h ≤ 1000) (hl : x.l.length ≤ 1000) (hb : b ≤ x.l.length) (r0 : 0 ≤ t.root) (r1 : t.kind = 7 → t.root ≤ t.fields.length)
    (hw : ∀ f ∈ t.fields, wld h x.l f.ty = false) (hn : (t.fields.flatMap fun f => bgs h x.l f.ty).Nodup) : zbp x t = some (true, x) := by
  refine T.fin ?_
  unfold zbp
  have hfl := zg2 hk
  rw [List.length_map] at hfl
  have hfl1 : t.fields.length ≤ 1000 := by omega
  have hll := zh2 t
  have hts : ∀ (gs : List GFld) (o : Bool), gs.Sublist t.fields → tld h x.l gs o = true := fun gs o hs => zpK hw hn hs
  refine T.br (fun _ => T.eq (zhV hk hh hl hb) (T.some (by rw [hts _ _ (List.Sublist.refl _)]))) fun hk7 => ?_
  have hk7 : t.kind = 7 := by simpa using hk7
  have hsub : ∀ (n m : Nat) (o : Bool), zbB x ((t.fields.take n).drop m) o = some (true, x) := fun n m o => by
    obtain ⟨c, d, k1, k2⟩ := KidsT.sub n m hk
    rw [← List.map_take, ← List.map_drop] at k1
    rw [zhV k1 hh hl (by omega), hts _ _ ((List.drop_sublist _ _).trans (List.take_sublist _ _))]
  refine T.eq (ziz t hfl1) (T.lp (ι := Int × GMk) (fun q => 0 ≤ q.1 ∧ q.1 ≤ t.fields.length ∧ q.2 = x) (fun q => ((t.fields.length : Int) - q.1).toNat) ⟨Int.le_refl _, by dsimp only; omega, rfl⟩ (by dsimp only; omega) fun L q ⟨q1, q2, q3⟩ hL => ?_)
  obtain ⟨k, y⟩ := q
  dsimp only at q1 q2 q3 hL ⊢
  subst q3
  refine T.br (fun hb1 => ?_) fun hb1 => ?_
  · have hb1 := zOT hb1
    refine T.jp (ι := GMk) (fun z => z = y) (fun J hJ => T.get q1 (by omega) fun c hc => T.br (fun _ => hJ _ rfl) fun _ => T.ck (by omega) ?_) fun z hz => T.ck (by omega) (hL _ ⟨by dsimp only; omega, by dsimp only; omega, hz⟩ (by dsimp only; omega))
    refine T.lp (fun (e : Int) => k + 1 ≤ e ∧ e ≤ t.fields.length) (fun (e : Int) => ((t.fields.length : Int) - e).toNat) ⟨Int.le_refl _, by omega⟩ (by omega) fun L2 e ⟨e1, e2⟩ hL2 => ?_
    refine T.jp (fun q => q = true → e < t.fields.length) (fun J2 h2 => T.br (fun h3 => T.get (by omega) (by have := zOT h3; omega) fun _ _ => h2 _ fun _ => zOT h3) fun _ => h2 _ fun h => by cases h) fun q hq => ?_
    exact T.br (fun h3 => T.ck (by have := hq h3; omega) (hL2 _ (by have := hq h3; omega) (by have := hq h3; omega))) fun _ => T.ck (by omega) (T.asd (by omega) (T.eq (hsub _ _ _) (T.brF rfl (hJ _ rfl))))
  · refine T.jp (ι := Bool × GMk) (fun z => z = (true, y)) (fun J hJ => T.br (fun _ => hJ _ rfl) fun _ => T.eq (zmk t hfl1 r0 (r1 hk7)) ?_) fun z hz => T.some (by rw [hz])
    have := zlz t t.root.toNat
    have := r1 hk7
    exact T.asd ⟨by omega, by omega, Int.le_refl _⟩ (T.eq (hsub _ _ _) (hJ _ rfl))

/-! ### Modules without references -/
theorem zl5 {l : List GNode} (h : ∀ n ∈ l, n.kind ≠ 11) : ∀ (k : Nat) (i : Int), nmx l k i = []
  | 0, _ => rfl
  | k + 1, i => by
    unfold nmx
    split
    · rfl
    · rename_i n hn
      have hm : n ∈ l := by
        split at hn
        · exact List.mem_of_getElem? hn
        · cases hn
      rw [if_neg (h n hm)]
      rw [List.flatMap_eq_nil_iff]
      exact fun x _ => zl5 h k x
theorem zhb {P : Int → Bool} : ∀ (n : Nat) (k : Int), (∀ i, k ≤ i → i < k + n → P i = false) → first P n k = none
  | 0, _, _ => rfl
  | n + 1, k, h => by
    unfold first
    rw [h k (Int.le_refl _) (by omega)]
    exact zhb n (k + 1) fun i h1 h2 => h i (by omega) (by omega)
theorem zpR {m : GMod} (h : ∀ n ∈ m.nodes, n.kind ≠ 11) (hn : m.names.Nodup) : wr m = (0, 0) := by
  have hz : ∀ t, nms m t = [] := fun t => zl5 h 17 t
  have h1 : first (twice m) m.names.length 0 = none := zhb _ _ fun i h0 hi => by
    unfold twice
    have hi' : i.toNat < m.names.length := by omega
    rw [List.getElem?_eq_getElem hi']
    refine zDF fun hf => ?_
    rcases zf3 m.names m.names[i.toNat] with ⟨_, h2⟩ | ⟨h2, h3, h4, _⟩
    · exact h2 (List.getElem_mem _)
    · obtain ⟨h5, h6⟩ := List.getElem?_eq_some_iff.1 h4
      have := (List.getElem_inj hn).1 h6
      omega
  have h2 : first (zfT m) m.names.length 0 = none := zhb _ _ fun i _ _ => by
    unfold zfT
    split
    · unfold lost; rw [hz]; rfl
    · rfl
  have h3 : first (cycle m) m.names.length 0 = none := zhb _ _ fun i _ _ => by
    refine ziF (b := false) ⟨(fun h => by cases h), fun hr => ?_⟩
    have hne : ∀ a b, ¬ Ed (gr m) a b := fun a b ⟨_, l, e1, e2⟩ => by
      unfold gr at e1
      rw [List.getElem?_map] at e1
      cases ht : m.types[a.toNat]? with
      | none => rw [ht] at e1; cases e1
      | some t =>
        rw [ht] at e1
        have : l = uses m t := (Option.some.inj e1).symm
        subst this
        unfold uses at e2
        rw [hz] at e2; cases e2
    cases hr with
    | one e => exact absurd e (hne _ _)
    | tail _ e => exact absurd e (hne _ _)
  unfold wr
  rw [h1, h2, h3]
theorem znl {m : GMod} (w : WF m) (h : ∀ n ∈ m.nodes, n.kind ≠ 11) (hn : m.names.Nodup) : ∃ l, zel m = some (l, 0, 0) := by
  refine ⟨topo (gr m) m.names.length [], ?_⟩
  rw [zjm w]
  unfold ordr
  rw [zpR h hn, if_pos rfl]
structure Mk where
  sz : Nat
  tt : Nat → List GTyp
def rootsM : List Mk → Nat → List Int
  | [], _ => []
  | c :: r, i => (i : Int) :: rootsM r (i + c.sz)
def tsM : List Mk → Nat → List GTyp
  | [], _ => []
  | c :: r, i => c.tt i ++ tsM r (i + c.sz)
def szM (l : List Mk) : Nat := (l.map Mk.sz).sum
theorem zhG : ∀ {a : List Mk} {x : Mk} {i : Nat}, rootsM (a ++ [x]) i = rootsM a i ++ [((i + szM a : Nat) : Int)]
  | [], x, i => rfl
  | y :: r, x, i => by
    show (i : Int) :: rootsM (r ++ [x]) (i + y.sz) = (i : Int) :: (rootsM r (i + y.sz) ++ _)
    rw [zhG]
    have : szM (y :: r) = y.sz + szM r := by unfold szM; simp
    rw [this, Nat.add_assoc]
theorem zko : ∀ {a : List Mk} {x : Mk} {i : Nat}, tsM (a ++ [x]) i = tsM a i ++ x.tt (i + szM a)
  | [], x, i => by show x.tt i ++ [] = [] ++ x.tt (i + 0); rw [List.append_nil]; rfl
  | y :: r, x, i => by
    show y.tt i ++ tsM (r ++ [x]) (i + y.sz) = y.tt i ++ tsM r (i + y.sz) ++ _
    rw [zko]
    have : szM (y :: r) = y.sz + szM r := by unfold szM; simp
    rw [this, Nat.add_assoc, List.append_assoc]
structure MkK (m : GMod) (k : Int) (c : Mk) : Prop where
  go : ∃ h, h ≤ 17 ∧ N10 m k h c.sz c.tt
theorem zn5 {m : GMod} (w : WF m) (h : ∀ n ∈ m.nodes, n.kind ≠ 11) (hn : m.names.Nodup) {mk : List Mk} (hl : mk.length = m.names.length) (hc : ∀ (i : Nat) k c, m.types[i]? = some k → mk[i]? = some c → MkK m k c) (hs : szM mk ≤ 300) :
    zc8 m = some (⟨m.name, m.names, rootsM mk 0, tsM mk 0⟩, 0, 0) := by
  obtain ⟨lo, ho⟩ := znl w h hn
  have hn40 := w.names
  have htl := w.types
  refine T.fin ?_
  unfold zc8
  refine T.eq ho (T.brF rfl (T.jp0 (T.abl (by rw [List.length_nil]; omega) ?_)))
  refine T.lp (ι := Int × GTab × GMk) (fun q => ∃ a b : List Mk, mk = a ++ b ∧ q = ((a.length : Int), ⟨m.name, m.names, rootsM a 0, []⟩, ⟨m, tsM a 0, 0⟩)) (fun q => ((m.names.length : Int) - q.1).toNat) ⟨[], mk, rfl, rfl⟩ (by dsimp only; omega) fun L q hq hL => ?_
  obtain ⟨a, b, hab, rfl⟩ := hq
  dsimp only at hL ⊢
  have hlab : mk.length = a.length + b.length := by rw [hab, List.length_append]
  have htsl : ∀ (a : List Mk) (i : Nat), (∀ (j : Nat) c, a[j]? = some c → ∀ i, (c.tt i).length = c.sz) → (tsM a i).length = szM a := fun a => by
    induction a with
    | nil => intro i _; rfl
    | cons y r ih =>
      intro i hy
      show (y.tt i ++ tsM r (i + y.sz)).length = _
      rw [List.length_append, ih _ fun j c hj => hy (j + 1) c hj, hy 0 y rfl]; unfold szM; simp
  have hrl : ∀ (a : List Mk) (i : Nat), (rootsM a i).length = a.length := fun a => by
    induction a with
    | nil => intro i; rfl
    | cons y r ih => intro i; show (rootsM r (i + y.sz)).length + 1 = _; rw [ih]; rfl
  cases b with
  | nil =>
    rw [List.append_nil] at hab
    subst hab
    exact T.brF (zDF (by omega)) (T.some rfl)
  | cons c b =>
    rw [List.length_cons] at hlab
    have hia : a.length < m.types.length := by omega
    have htk : m.types[a.length]? = some m.types[a.length] := List.getElem?_eq_getElem hia
    have hmc : mk[a.length]? = some c := by rw [hab]; exact zgH _ _ _
    obtain ⟨h0, hh17, hN⟩ := (hc a.length _ c htk hmc).go
    have hal : (tsM a 0).length = szM a := htsl a 0 fun j c' hj i => by
      have hj' : mk[j]? = some c' := by rw [hab, List.getElem?_append_left (List.getElem?_eq_some_iff.1 hj).1]; exact hj
      have hjl : j < m.types.length := by have := (List.getElem?_eq_some_iff.1 hj').1; omega
      obtain ⟨h1, _, hN'⟩ := (hc j _ c' (List.getElem?_eq_getElem hjl) hj').go
      exact hN'.len i
    have hsz : szM mk = szM a + (c.sz + szM b) := by rw [hab]; unfold szM; simp
    have hgo := hN.go (n := fuel) (d := 0) (l := tsM a 0) (by unfold fuel; omega) (Int.le_refl _) (by omega) (by omega)
    rw [hal] at hgo
    refine T.brT (zDT (by omega)) (T.jp0 (T.eq (zfs (by omega) (by rw [Int.toNat_natCast]; exact htk)) (T.eq hgo (T.abl (by rw [hrl]; simp only [List.length_singleton]; omega) ?_))))
    refine T.brF rfl (T.ck (by omega) (hL _ ⟨a ++ [c], b, by rw [hab, List.append_assoc]; rfl, ?_⟩ (by dsimp only; omega)))
    rw [zhG, zko, Nat.zero_add, List.length_append]; rfl
theorem zm0 {s : Str} {m : GMod} (hl : s.b.length ≤ 3000) (hp : zcr s = some (m, 0, 0)) {t : GTab} (hm : zc8 m = some (t, 0, 0)) (ht : t.types.length ≤ 120) : za0 s = some (t, true) := by
  refine T.fin ?_
  unfold za0
  refine T.brF (zDF (by omega)) (T.eq hp (T.brF rfl (T.eq hm ?_)))
  exact T.jp (fun b => b = true) (fun J hJ => T.brT rfl (hJ _ (zDT (by dsimp only; omega)))) fun b hb => T.some (by rw [hb])
theorem zn2 {s : Str} {m : GMod} (hp : zcr s = some (m, 0, 0)) : WF m := (zi4 s).get? hp
end Go.Proofs.Q


namespace Go.Proofs.Q
open Go.Sy
set_option linter.unusedVariables false
set_option maxRecDepth 4000

def dgl (v : Nat) : List UInt8 := match zb8 20 (UInt64.ofNat v) with
  | some s => s.b
  | none => []
def nameOk (w : List UInt8) (k : Int) : Bool := zaE (hd w) && nmAll w 32 && !decide (w.getLast? = some 45) && decide (w.length ≤ 60) && decide (kindN w = k)
def dgOk (v : Nat) : Bool := (match zb8 20 (UInt64.ofNat v) with
  | some s => decide (s.b = dgl v)
  | none => false) && numOk false (dgl v) && decide (zcY ⟨dgl v⟩ = some (v : Int)) && decide ((dgl v).length ≤ 3) && nameOk (102 :: dgl v) 2 && nameOk (84 :: dgl v) 1 && nameOk (105 :: dgl v) 2 && nameOk (97 :: dgl v) 2 && decide (dval (dgl v) = v)
theorem zpN : (List.range 256).all dgOk = true := by kernel_rfl
structure Dg (v : Nat) : Prop where
  eq : zb8 fuel (UInt64.ofNat v) = some ⟨dgl v⟩
  num : numOk false (dgl v) = true
  val : Num (dgl v) v
  len : (dgl v).length ≤ 3
  f : nameOk (102 :: dgl v) 2 = true
  t : nameOk (84 :: dgl v) 1 = true
  i : nameOk (105 :: dgl v) 2 = true
  a : nameOk (97 :: dgl v) 2 = true
  inj : dval (dgl v) = v
theorem zhM : ∀ {n m : Nat} {v : UInt64} {s : Str}, zb8 n v = some s → n ≤ m → zb8 m v = some s
  | 0, _, _, _, h, _ => by cases h
  | n + 1, m, v, s, h, hm => by
    obtain ⟨m, rfl⟩ : ∃ m', m = m' + 1 := ⟨m - 1, by omega⟩
    have h : zdT (zb8 n) v = some s := h
    show zdT (zb8 m) v = some s
    unfold zdT at h ⊢
    cases hb : decide (v < (10 : UInt64)) with
    | true => rw [hb] at h; exact h
    | false =>
      rw [hb] at h
      have h : jp (ι := Str) (fun J3 => asr (!decide ((10 : UInt64) = 0)) <| asr (!decide ((10 : UInt64) = 0)) <| cal (zb8 n (v / (10 : UInt64))) fun y6 => asr (Nat.ble (y6.b.length + (Str.mk ([((48 : UInt64) + (v % (10 : UInt64))).toUInt8] : (List UInt8))).b.length) 4611686018427387904) <| J3 ((Str.mk (y6.b ++ (Str.mk ([((48 : UInt64) + (v % (10 : UInt64))).toUInt8] : (List UInt8))).b)))) (fun q2 => some (q2)) = some s := h
      refine zpx h fun J hJ h => zad h fun h1 h => zad h fun h2 h => zb h fun y hy h => ?_
      subst hJ
      have := zhM hy (by omega : n ≤ m)
      show asr (!decide ((10 : UInt64) = 0)) (asr (!decide ((10 : UInt64) = 0)) (cal (zb8 m (v / (10 : UInt64))) _)) = _
      rw [this]
      exact h
theorem dgs (v : Nat) (hv : v < 256) : Dg v := by
  have h := List.all_eq_true.1 zpN v (List.mem_range.2 hv)
  unfold dgOk at h
  simp only [Bool.and_eq_true, decide_eq_true_eq] at h
  obtain ⟨⟨⟨⟨⟨⟨⟨⟨h1, h2⟩, h3⟩, h4⟩, h5⟩, h6⟩, h7⟩, h8⟩, h9⟩ := h
  have he : zb8 20 (UInt64.ofNat v) = some ⟨dgl v⟩ := by
    cases hd : zb8 20 (UInt64.ofNat v) with
    | none => rw [hd] at h1; cases h1
    | some s =>
      rw [hd] at h1
      have : s.b = dgl v := zOT h1
      rw [← this]
  exact ⟨zhM he (by unfold fuel; omega), h2, ⟨zeb h2, h3⟩, h4, h5, h6, h7, h8, h9⟩
theorem zoV {v w : Nat} (hv : v < 256) (hw : w < 256) (h : dgl v = dgl w) : v = w := by
  rw [← (dgs v hv).inj, ← (dgs w hw).inj, h]

theorem KT.word {w x : List UInt8} {k : Int} {ks : KS} (h : nameOk w k = true) (hx : KT (32 :: x) ks) : KT (w ++ 32 :: x) ((k, w) :: ks) := by
  unfold nameOk at h
  simp only [Bool.and_eq_true, decide_eq_true_eq, Bool.not_eq_true', decide_eq_false_iff_not] at h
  obtain ⟨⟨⟨⟨h1, h2⟩, h3⟩, h4⟩, h5⟩ := h
  have := KT.name (x := 32 :: x) h1 h2 rfl h3 h4 hx
  rw [h5] at this
  exact this
theorem KT.dgt {v : Nat} {x : List UInt8} {ks : KS} (hv : v < 256) (h1 : isDigit (hd x) = false) (h2 : zaE (hd x) = false) (hx : KT x ks) : KT (dgl v ++ x) ((3, dgl v) :: ks) := KT.num (dgs v hv).num h1 h2 hx
end Go.Proofs.Q


namespace Go.Proofs.Q
open Go.Sy
set_option linter.unusedVariables false

@[reducible] def nullT : KS := [(5, [78, 85, 76, 76])]
@[reducible] def optT : KS := [(5, [79, 80, 84, 73, 79, 78, 65, 76])]
def nodeV (v : Nat) : GNode := { zm ⟨true, (v : Int), 0⟩ with kind := 4 }
def markT (v : Nat) : KS := (6, [91]) :: (3, dgl v) :: (6, [93]) :: nullT
def nullF (nm : List UInt8) (v : Nat) (o : Bool) : Fl := ⟨nm, markT v, 1, fun _ => [nodeV v], if o then optT else [], o, false, zv⟩
theorem zkQ {v : Nat} (hv : v < 256) : TypK 1 (markT v) 1 (fun _ => [nodeV v]) := zpD zmR (dgs v hv).val (by omega) (by omega) rfl rfl
theorem znc {nm : List UInt8} {v : Nat} {o : Bool} (hv : v < 256) {kind : Int} (h9 : o = true → kind ≠ 9) : FldK 1 kind (nullF nm v o) := by
  cases o with
  | false => exact zmP (zkQ hv) kind nm
  | true => exact zo5 (zkQ hv) (h9 rfl) nm
def leafV (v : Nat) : GTyp := ⟨4, [⟨2, (v : Int)⟩], ⟨false, false, false, false, 0, 0⟩, [], [], 0, false, 0⟩
theorem znU (v : Nat) : TypOk (leafV v) where
  tags := fun _ => by unfold leafV; simp
  tlen := by unfold leafV; simp
  root0 := Int.le_refl _
  rootF := fun h => by unfold leafV at h; simp at h
  rootI := fun h => by unfold leafV at h; simp at h
  fields := fun _ => rfl
  items := fun _ => rfl
  ilen := by unfold leafV; simp
  nums := fun it h => by unfold leafV at h; cases h
  dflt := fun f h => by unfold leafV at h; cases h
  rootZ := fun _ _ => rfl
theorem znJ {l : List GTyp} {i v : Nat} (h : l[i]? = some (leafV v)) : SubT 1 l i (i + 1) := ⟨_, h, znU v, by unfold kidsT leafV; rfl⟩
def chV (f : GFld) (v : Nat) : Ch := ⟨f, 1, fun _ => [leafV v]⟩
def chsV : List GFld → List Nat → List Ch
  | f :: r, v :: s => chV f v :: chsV r s
  | _, _ => []
theorem zlQ : ∀ {gf : List GFld} {vs : List Nat}, gf.length = vs.length → (chsV gf vs).map Ch.f = gf
  | [], [], _ => rfl
  | f :: r, v :: s, h => by show f :: (chsV r s).map Ch.f = _; rw [zlQ (by simpa using h)]
theorem zkN : ∀ {gf : List GFld} {vs : List Nat}, gf.length = vs.length → (chsV gf vs).length = vs.length
  | [], [], _ => rfl
  | f :: r, v :: s, h => by show (chsV r s).length + 1 = _; rw [zkN (by simpa using h)]; rfl
theorem zhW : ∀ {gf : List GFld} {vs : List Nat} {i : Nat}, gf.length = vs.length → tsC (chsV gf vs) i = vs.map leafV
  | [], [], _, _ => rfl
  | f :: r, v :: s, i, h => by show leafV v :: tsC (chsV r s) (i + 1) = _; rw [zhW (by simpa using h)]; rfl
theorem zkc : ∀ {gf : List GFld} {vs : List Nat}, gf.length = vs.length → szC (chsV gf vs) = vs.length
  | [], [], _ => rfl
  | f :: r, v :: s, h => by
    show szC (chV f v :: chsV r s) = _
    have : szC (chV f v :: chsV r s) = 1 + szC (chsV r s) := by unfold szC; simp [chV]
    rw [this, zkc (by simpa using h), List.length_cons]; omega
theorem zl1 : ∀ {gf : List GFld} {vs : List Nat} {i : Nat}, gf.length = vs.length → (∀ (j : Nat) f, gf[j]? = some f → f.ty = ((i + j : Nat) : Int)) → flC (chsV gf vs) i = gf
  | [], [], _, _, _ => rfl
  | f :: r, v :: s, i, h, hty => by
    show { f with ty := (i : Int) } :: flC (chsV r s) (i + 1) = _
    rw [zl1 (by simpa using h) fun j g hg => by rw [hty (j + 1) g hg]; omega]
    have : f.ty = (i : Int) := hty 0 f rfl
    rw [← this]
theorem zjd {L : List GTyp} : ∀ {gf : List GFld} {vs : List Nat} {i : Nat}, gf.length = vs.length → (∀ (j : Nat) v, vs[j]? = some v → L[i + j]? = some (leafV v)) →
    Kids (SubT 1 L) ((flC (chsV gf vs) i).map fun f => f.ty) i (i + vs.length) ∧ (flC (chsV gf vs) i).flatMap (fun f => bgs 1 L f.ty) = vs.map (fun (v : Nat) => (⟨2, (v : Int)⟩ : Tag)) ∧ ∀ f ∈ flC (chsV gf vs) i, wld 1 L f.ty = false
  | [], [], _, _, _ => ⟨rfl, rfl, fun f h => by cases h⟩
  | f :: r, v :: s, i, h, hL => by
    have h0 := hL 0 v rfl
    rw [Nat.add_zero] at h0
    obtain ⟨k1, k2, k3⟩ := zjd (L := L) (gf := r) (vs := s) (i := i + 1) (by simpa using h) fun j w hw => by
      have := hL (j + 1) w hw
      rw [show i + 1 + j = i + (j + 1) by omega]; exact this
    have e : flC (chsV (f :: r) (v :: s)) i = { f with ty := (i : Int) } :: flC (chsV r s) (i + 1) := rfl
    rw [e]
    refine ⟨⟨i + 1, rfl, znJ h0, by rw [List.length_cons, show i + (s.length + 1) = i + 1 + s.length by omega]; exact k1⟩, ?_, fun g hg => ?_⟩
    · rw [List.flatMap_cons, k2, ziH h0]; rfl
    · rcases List.mem_cons.1 hg with e | e
      · rw [e, zn4 h0]; rfl
      · exact k3 g e
theorem nodupV {vs : List Nat} (h : vs.Nodup) : (vs.map (fun (v : Nat) => (⟨2, (v : Int)⟩ : Tag))).Nodup := by
  unfold List.Nodup at h ⊢
  rw [List.pairwise_map]
  exact h.imp fun hne e => hne (by injection e with _ e; omega)
structure PF (gf : List GFld) (vs : List Nat) : Prop where
  len : gf.length = vs.length
  ty : ∀ (j : Nat) f, gf[j]? = some f → f.ty = ((1 + j : Nat) : Int)
  has : ∀ f ∈ gf, f.has = false
  nm : (gf.map fun f => f.name).Nodup
  nd : vs.Nodup
  v : ∀ v ∈ vs, v < 256
  l : vs.length ≤ 100
theorem zll {nd : GNode} {gf : List GFld} {vs : List Nat} (h : PF gf vs) (hk : nd.kind = 7 ∨ nd.kind = 8 ∨ nd.kind = 9) (h9 : nd.kind = 9 → vs ≠ []) (hf : nd.fields = gf) (hm : nd.mark.has = false) (r0 : 0 ≤ nd.root) (r1 : nd.root ≤ vs.length) {m : GMod} (hmd : m = ⟨⟨[77]⟩, 1, [⟨[65]⟩], [0], nd :: vs.map nodeV⟩) (w : WF m) :
    zc8 m = some (⟨⟨[77]⟩, [⟨[65]⟩], [0], fldT nd (tgs nd.kind) gf :: vs.map leafV⟩, 0, 0) := by
  subst hmd
  have hlen := zkN h.len
  have hN : ∀ c ∈ chsV gf vs, ChK ⟨⟨[77]⟩, 1, [⟨[65]⟩], [0], nd :: vs.map nodeV⟩ 1 c := by
    have key : ∀ (g : List GFld) (s : List Nat) (i : Nat), g.length = s.length → (∀ (j : Nat) f, g[j]? = some f → f.ty = ((i + j : Nat) : Int) ∧ f.has = false) → (∀ (j : Nat) v, s[j]? = some v → (nd :: vs.map nodeV)[i + j]? = some (nodeV v) ∧ v < 256) → ∀ c ∈ chsV g s, ChK ⟨⟨[77]⟩, 1, [⟨[65]⟩], [0], nd :: vs.map nodeV⟩ 1 c := by
      intro g
      induction g with
      | nil => intro s i _ _ _ c hc; cases s <;> cases hc
      | cons f r ih =>
        intro s i hs hg hv c hc
        cases s with
        | nil => cases hs
        | cons v s =>
          rcases List.mem_cons.1 hc with e | e
          · subst e
            obtain ⟨g1, g2⟩ := hg 0 f rfl
            obtain ⟨v1, v2⟩ := hv 0 v rfl
            refine ⟨?_, g2⟩
            show N10 _ f.ty 1 1 _
            rw [g1]
            exact zoZ (nd := nodeV v) (v := (v : Int)) v1 (by unfold nodeV; simp) rfl (by simp) (by omega) (by omega) (zmL (.inr rfl)) (fun i => ⟨_, rfl⟩)
          · exact ih s (i + 1) (by simpa using hs) (fun j g hj => by have := hg (j + 1) g hj; rw [show i + 1 + j = i + (j + 1) by omega]; exact this) (fun j w hj => by have := hv (j + 1) w hj; rw [show i + 1 + j = i + (j + 1) by omega]; exact this) c e
    refine key gf vs 1 h.len (fun j f hj => ⟨h.ty j f hj, h.has f (List.mem_of_getElem? hj)⟩) fun j v hj => ⟨?_, h.v v (List.mem_of_getElem? hj)⟩
    rw [Nat.add_comm, List.getElem?_cons_succ, List.getElem?_map, hj]; rfl
  have hM := zkR (m := ⟨⟨[77]⟩, 1, [⟨[65]⟩], [0], nd :: vs.map nodeV⟩) (nd := nd) (h := 1) (chs := chsV gf vs) hk (fun e => by intro e2; rw [e2] at hlen; exact h9 e (List.length_eq_zero_iff.1 hlen.symm)) (by rw [zlQ h.len]; exact hf) hN (by simp) (by
    have : ((chsV gf vs).map fun c => c.f.name) = ((chsV gf vs).map Ch.f).map fun f => f.name := by rw [List.map_map]; rfl
    rw [this, zlQ h.len]; exact h.nm) (by have := h.l; omega) fun l hl => by
      rw [zkc h.len] at hl
      have hLv : ∀ (T : GTyp) (j : Nat) v, vs[j]? = some v → (l ++ T :: tsC (chsV gf vs) (l.length + 1))[l.length + 1 + j]? = some (leafV v) := fun T j v hj => by
        rw [zhW h.len, List.getElem?_append_right (by omega), show l.length + 1 + j - l.length = j + 1 by omega, List.getElem?_cons_succ, List.getElem?_map, hj]; rfl
      obtain ⟨k1, k2, k3⟩ := zjd (L := l ++ fldT nd (tgs nd.kind) (flC (chsV gf vs) (l.length + 1)) :: tsC (chsV gf vs) (l.length + 1)) (i := l.length + 1) h.len (hLv _)
      have htl : (tsC (chsV gf vs) (l.length + 1)).length = vs.length := by rw [zhW h.len, List.length_map]
      refine zn6 (h := 1) (x := ⟨_, l ++ fldT nd (tgs nd.kind) (flC (chsV gf vs) (l.length + 1)) :: tsC (chsV gf vs) (l.length + 1), 0⟩) k1 (by omega) ?_ ?_ r0 (fun _ => ?_) k3 ?_
      · dsimp only; rw [List.length_append, List.length_cons, htl]; omega
      · dsimp only; rw [List.length_append, List.length_cons, htl]; omega
      · show nd.root ≤ (flC (chsV gf vs) (l.length + 1)).length; rw [zj3, hlen]; exact r1
      · show ((flC (chsV gf vs) (l.length + 1)).flatMap _).Nodup
        rw [k2]; exact nodupV h.nd
  have hU := zow (m := ⟨⟨[77]⟩, 1, [⟨[65]⟩], [0], nd :: vs.map nodeV⟩) (k := 0) (nd := nd) rfl (by omega) hm hM
  have := zn5 w (fun n hn => by
    rcases List.mem_cons.1 hn with e | e
    · rw [e]; omega
    · obtain ⟨v, _, rfl⟩ := List.mem_map.1 e
      unfold nodeV; simp) (by simp) (mk := [⟨_, _⟩]) rfl (fun i k c hk hc => by
      cases i with
      | zero =>
        cases hk; cases hc
        exact ⟨2, by omega, hU⟩
      | succ i => cases hc) (by
        have : szM [⟨szC (chsV gf vs) + 1, fun i => fldT nd (tgs nd.kind) (flC (chsV gf vs) (i + 1)) :: tsC (chsV gf vs) (i + 1)⟩] = szC (chsV gf vs) + 1 := by unfold szM; simp
        rw [this, zkc h.len]
        have := h.l
        omega)
  rw [this]
  show some ((⟨⟨[77]⟩, [⟨[65]⟩], [((0 : Nat) : Int)], fldT nd (tgs nd.kind) (flC (chsV gf vs) (0 + 1)) :: (tsC (chsV gf vs) (0 + 1) ++ [])⟩ : GTab), (0 : Int), (0 : Int)) = _
  rw [zhW h.len, zl1 h.len fun j f hj => h.ty j f hj, List.append_nil]; rfl
end Go.Proofs.Q


namespace Go.Proofs.Q
open Go.Sy
set_option linter.unusedVariables false
set_option maxRecDepth 4000

def fTxt (o : Bool) (i v : Nat) : List UInt8 := 102 :: (dgl i ++ ([32, 91] ++ (dgl v ++ ([93, 32, 78, 85, 76, 76] ++ (if o then [32, 79, 80, 84, 73, 79, 78, 65, 76] else [])))))
theorem zn8 {c : UInt8} (h : isDigit c = true) : sgN [91] c = true := by
  have : c ≠ 91 := fun e => by subst e; cases h
  unfold sgN
  rw [zDF this]
  simp
theorem zl0 {o : Bool} {i v : Nat} (hi : i < 256) (hv : v < 256) {x : List UInt8} {ks : KS} (hx : KT x ks) (h0 : (∃ r, x = 44 :: r) ∨ ∃ r, x = 32 :: r) : KT (fTxt o i v ++ x) ((nullF (102 :: dgl i) v o).toks ++ ks) := by
  have hd2 : isDigit (hd (dgl v)) = true := zfW (dgs v hv).num
  have e : fTxt o i v ++ x = (102 :: dgl i) ++ 32 :: ([91] ++ (dgl v ++ ([93, 32, 78, 85, 76, 76] ++ ((if o then [32, 79, 80, 84, 73, 79, 78, 65, 76] else []) ++ x)))) := by
    unfold fTxt; simp
  have et : (nullF (102 :: dgl i) v o).toks ++ ks = (2, 102 :: dgl i) :: (6, [91]) :: (3, dgl v) :: (6, [93]) :: (5, [78, 85, 76, 76]) :: ((if o then optT else []) ++ ks) := by
    unfold nullF Fl.toks markT; simp
  rw [e, et]
  have h2 : KT ([93, 32, 78, 85, 76, 76] ++ ((if o then [32, 79, 80, 84, 73, 79, 78, 65, 76] else []) ++ x)) ((6, [93]) :: (5, [78, 85, 76, 76]) :: ((if o then optT else []) ++ ks)) := by
    cases o with
    | true =>
      rcases h0 with ⟨r, rfl⟩ | ⟨r, rfl⟩
      · exact .tok rfl rfl (.tok rfl rfl (.tok rfl rfl hx))
      · exact .tok rfl rfl (.tok rfl rfl (.tok rfl rfl hx))
    | false =>
      rcases h0 with ⟨r, rfl⟩ | ⟨r, rfl⟩
      · exact .tok rfl rfl (.tok rfl rfl hx)
      · exact .tok rfl rfl (.tok rfl rfl hx)
  refine KT.word (dgs i hi).f (KT.sp (KT.sign (s := [91]) (by decide) ?_ (KT.dgt hv rfl rfl h2)))
  rw [zfB (zeb (dgs v hv).num)]
  exact zn8 hd2
def joinT (o : Bool) : Nat → List Nat → List UInt8
  | _, [] => []
  | i, [v] => fTxt o i v
  | i, v :: w :: r => fTxt o i v ++ ([44, 32] ++ joinT o (i + 1) (w :: r))
def flsV (o : Bool) : Nat → List Nat → List Fl
  | _, [] => []
  | i, v :: r => nullF (102 :: dgl i) v o :: flsV o (i + 1) r
theorem zk2 {o : Bool} : ∀ {vs : List Nat} {i : Nat} {x : List UInt8} {ks : KS}, vs ≠ [] → i + vs.length ≤ 256 → (∀ v ∈ vs, v < 256) → KT (32 :: x) ks → KT (joinT o i vs ++ 32 :: x) (sepK ((flsV o i vs).map Fl.toks) ++ ks)
  | [], _, _, _, h, _, _, _ => absurd rfl h
  | [v], i, x, ks, _, hi, hv, hx => zl0 (by simp only [List.length_cons, List.length_nil] at hi; omega) (hv v (List.mem_singleton.2 rfl)) hx (.inr ⟨_, rfl⟩)
  | v :: w :: r, i, x, ks, _, hi, hv, hx => by
    have ih := zk2 (o := o) (vs := w :: r) (i := i + 1) (by simp) (by simp only [List.length_cons] at hi ⊢; omega) (fun u hu => hv u (List.mem_cons_of_mem _ hu)) hx
    have e : joinT o i (v :: w :: r) ++ 32 :: x = fTxt o i v ++ (44 :: 32 :: (joinT o (i + 1) (w :: r) ++ 32 :: x)) := by
      show (fTxt o i v ++ ([44, 32] ++ joinT o (i + 1) (w :: r))) ++ 32 :: x = _
      simp
    have et : sepK ((flsV o i (v :: w :: r)).map Fl.toks) ++ ks = (nullF (102 :: dgl i) v o).toks ++ ((6, [44]) :: (sepK ((flsV o (i + 1) (w :: r)).map Fl.toks) ++ ks)) := by
      show ((nullF (102 :: dgl i) v o).toks ++ (6, [44]) :: sepK ((flsV o (i + 1) (w :: r)).map Fl.toks)) ++ ks = _
      simp
    rw [e, et]
    exact zl0 (by simp only [List.length_cons] at hi; omega) (hv v (List.mem_cons_self ..)) (.tok rfl rfl (KT.sp ih)) (.inl ⟨_, rfl⟩)
theorem ziD {o : Bool} : ∀ {vs : List Nat} {i v : Nat}, vs ≠ [] → joinT o i (vs ++ [v]) = joinT o i vs ++ ([44, 32] ++ fTxt o (i + vs.length) v)
  | [], _, _, h => absurd rfl h
  | [u], i, v, _ => rfl
  | u :: w :: r, i, v, _ => by
    show fTxt o i u ++ ([44, 32] ++ joinT o (i + 1) ((w :: r) ++ [v])) = (fTxt o i u ++ ([44, 32] ++ joinT o (i + 1) (w :: r))) ++ _
    rw [ziD (by simp)]
    simp only [List.length_cons, List.append_assoc]
    rw [show i + 1 + (r.length + 1) = i + (r.length + 1 + 1) by omega]
theorem zkq {o : Bool} {i v : Nat} (hi : i < 256) (hv : v < 256) : (fTxt o i v).length ≤ 30 := by
  have h1 := (dgs i hi).len
  have h2 := (dgs v hv).len
  unfold fTxt
  cases o <;> simp only [List.length_cons, List.length_append, List.length_nil, if_true, Bool.false_eq_true, if_false] <;> omega
theorem zhp {o : Bool} : ∀ {vs : List Nat} {i : Nat}, i + vs.length ≤ 256 → (∀ v ∈ vs, v < 256) → (joinT o i vs).length ≤ 32 * vs.length
  | [], _, _, _ => Nat.zero_le _
  | [v], i, hi, hv => by
    have := zkq (o := o) (i := i) (v := v) (by simp only [List.length_cons, List.length_nil] at hi; omega) (hv v (List.mem_singleton.2 rfl))
    show (fTxt o i v).length ≤ _
    simp only [List.length_cons, List.length_nil]; omega
  | v :: w :: r, i, hi, hv => by
    have h1 := zkq (o := o) (i := i) (v := v) (by simp only [List.length_cons] at hi; omega) (hv v (List.mem_cons_self ..))
    have h2 := zhp (o := o) (vs := w :: r) (i := i + 1) (by simp only [List.length_cons] at hi ⊢; omega) (fun u hu => hv u (List.mem_cons_of_mem _ hu))
    show (fTxt o i v ++ ([44, 32] ++ joinT o (i + 1) (w :: r))).length ≤ _
    simp only [List.length_append, List.length_cons, List.length_nil] at h2 ⊢
    omega

/-! ### What is parsed -/
def gflV (o : Bool) (g : Int) : Nat → Nat → List Nat → List GFld
  | _, _, [] => []
  | n, i, v :: r => (nullF (102 :: dgl n) v o).fl g i :: gflV o g (n + 1) (i + 1) r
theorem zky {o : Bool} : ∀ {vs : List Nat} {n i : Nat} {nd : GNode}, ndI 0 ((flsV o n vs).map FI.one) i nd = ⟨nd.kind, nd.name, nd.mark, nd.con, nd.items, nd.fields ++ gflV o 0 n i vs, nd.root, nd.more, nd.of⟩
  | [], _, _, nd => by show nd = _; simp only [gflV, List.append_nil]
  | v :: r, n, i, nd => by
    show ndI 0 ((flsV o (n + 1) r).map FI.one) (i + 1) (addF nd _) = _
    rw [zky]
    unfold addF
    simp only [List.append_assoc, List.singleton_append]; rfl
theorem zpl {o : Bool} : ∀ {vs : List Nat} {n i : Nat}, nsF (flsV o n vs) i = vs.map nodeV
  | [], _, _ => rfl
  | v :: r, n, i => by
    show [nodeV v] ++ nsF (flsV o (n + 1) r) (i + 1) = _
    rw [zpl]; rfl
theorem zkV {o : Bool} : ∀ {vs : List Nat} {n : Nat}, (flsV o n vs).length = vs.length
  | [], _ => rfl
  | v :: r, n => by show (flsV o (n + 1) r).length + 1 = _; rw [zkV]; rfl
theorem zl4 {o : Bool} : ∀ {vs : List Nat} {n : Nat}, szL (flsV o n vs) = vs.length
  | [], _ => rfl
  | v :: r, n => by
    show szL (nullF (102 :: dgl n) v o :: flsV o (n + 1) r) = _
    rw [zie, zl4]
    show 1 + r.length = r.length + 1; omega
theorem znz {o : Bool} {kind : Int} (h9 : o = true → kind ≠ 9) : ∀ {vs : List Nat} {n : Nat}, (∀ v ∈ vs, v < 256) → ∀ f ∈ flsV o n vs, FldK 1 kind f
  | [], _, _, f, hf => by cases hf
  | v :: r, n, hv, f, hf => by
    rcases List.mem_cons.1 hf with e | e
    · rw [e]; exact znc (hv v (List.mem_cons_self ..)) h9
    · exact znz h9 (fun u hu => hv u (List.mem_cons_of_mem _ hu)) f e
theorem zgO {o : Bool} {g : Int} : ∀ {vs : List Nat} {n i j : Nat} {f : GFld}, (gflV o g n i vs)[j]? = some f → ∃ v, vs[j]? = some v ∧ f = (nullF (102 :: dgl (n + j)) v o).fl g (i + j)
  | [], _, _, _, _, h => by cases h
  | v :: r, n, i, 0, f, h => ⟨v, rfl, by cases h; rfl⟩
  | v :: r, n, i, j + 1, f, h => by
    obtain ⟨w, h1, h2⟩ := zgO (j := j) (show (gflV o g (n + 1) (i + 1) r)[j]? = some f from h)
    exact ⟨w, h1, by rw [h2, show n + 1 + j = n + (j + 1) by omega, show i + 1 + j = i + (j + 1) by omega]⟩
theorem zfM {o : Bool} {g : Int} : ∀ {vs : List Nat} {n i : Nat}, (gflV o g n i vs).length = vs.length
  | [], _, _ => rfl
  | v :: r, n, i => by show (gflV o g (n + 1) (i + 1) r).length + 1 = _; rw [zfM]; rfl
theorem zo9 {o : Bool} {g : Int} {vs : List Nat} {n i : Nat} (h : n + vs.length ≤ 256) : ((gflV o g n i vs).map fun f => f.name).Nodup := by
  have key : ∀ (vs : List Nat) (n i : Nat), n + vs.length ≤ 256 → ((gflV o g n i vs).map fun f => f.name).Nodup ∧ ∀ s ∈ (gflV o g n i vs).map fun f => f.name, ∃ k, n ≤ k ∧ k < n + vs.length ∧ s = ⟨102 :: dgl k⟩ := by
    intro vs
    induction vs with
    | nil => intro n i _; exact ⟨.nil, fun s h => by cases h⟩
    | cons v r ih =>
      intro n i hn
      rw [List.length_cons] at hn
      obtain ⟨k1, k2⟩ := ih (n + 1) (i + 1) (by omega)
      have e : (gflV o g n i (v :: r)).map (fun f => f.name) = ⟨102 :: dgl n⟩ :: (gflV o g (n + 1) (i + 1) r).map (fun f => f.name) := rfl
      rw [e]
      refine ⟨List.nodup_cons.2 ⟨fun hm => ?_, k1⟩, fun s hs => ?_⟩
      · obtain ⟨k, h1, h2, h3⟩ := k2 _ hm
        have h3 : dgl n = dgl k := by injection h3 with h3; injection h3
        have := zoV (by omega) (by omega) h3
        omega
      · rcases List.mem_cons.1 hs with e | e
        · exact ⟨n, Nat.le_refl _, by rw [List.length_cons]; omega, e⟩
        · obtain ⟨k, h1, h2, h3⟩ := k2 s e
          exact ⟨k, by omega, by rw [List.length_cons]; omega, h3⟩
  exact (key vs n i h).1
def asV (kind : Int) (l : List FI) : As := ⟨[65], fldsT kind l, szI l + 1, fun i => endN (ndI 0 l (i + 1) { zm noM with kind := kind }) :: nsI l (i + 1), 2⟩
theorem zpU {kind : Int} (hk : kind = 7 ∨ kind = 8 ∨ kind = 9) {l : List FI} (hne : l ≠ []) (hF : okI 1 kind false l) (hs : szI l ≤ 300) (hl : (l.flatMap FI.fls).length ≤ 1000) : AsK (asV kind l) := by
  have hb := zks hk hne hF hs hl
  have hB : Beg 5 (kwF kind) := by
    rcases hk with rfl | rfl | rfl <;> exact fun ⟨_, _, _⟩ h1 h2 => by dsimp only at h1 h2; subst h1; subst h2; kernel_rfl
  exact ⟨zpP hb hB (by rcases hk with rfl | rfl | rfl <;> rfl), by show 2 ≤ 17; omega⟩
theorem zjZ {fls : List Fl} : (fls.map FI.one).flatMap FI.fls = fls := by
  induction fls with
  | nil => rfl
  | cons f r ih => show f :: (r.map FI.one).flatMap FI.fls = _; rw [ih]
theorem zma {h : Nat} {kind : Int} : ∀ {fls : List Fl} {b : Bool}, (∀ f ∈ fls, FldK h kind f) → okI h kind b (fls.map FI.one)
  | [], _, _ => trivial
  | f :: r, b, hf => ⟨hf f (List.mem_cons_self ..), zma fun x hx => hf x (List.mem_cons_of_mem _ hx)⟩
end Go.Proofs.Q


namespace Go.Proofs.Q
open Go.Sy
set_option maxRecDepth 4000
def zdc (zce : (List Int)) (zca : Int) : Option (Bool) :=
  asr (!decide ((3 : UInt64) = 0)) <| ck ((((UInt64.ofNat (zca % 18446744073709551616).toNat) % (3 : UInt64)).toNat : Int)) <| jp (ι := Bool) (fun J4 => br (decide ((zce.length : Int) = (0 : Int))) (J4 (true)) (J4 ((decide ((10 : Int) < (zce.length : Int)))))) (fun q3 => br q3 (cal (zcz ) fun y6 => some (y6)) (lp (ι := Str × (List Int) × Int) (fun L8 q7 => br (decide (q7.2.2 < (zce.length : Int))) (cal (getI zce q7.2.2) fun y101 => asr (!decide ((60 : UInt64) = 0)) <| ck ((((UInt64.ofNat (y101 % 18446744073709551616).toNat) % (60 : UInt64)).toNat : Int)) <| cal (zc4 q7.2.1 (((UInt64.ofNat (y101 % 18446744073709551616).toNat) % (60 : UInt64)).toNat : Int)) fun y104 => br y104 (cal (zcz ) fun y105 => some (y105)) (asr (Nat.ble (q7.2.1.length + ([(((UInt64.ofNat (y101 % 18446744073709551616).toNat) % (60 : UInt64)).toNat : Int)] : (List Int)).length) 68719476736) <| jp (ι := Str) (fun J110 => br (decide ((0 : Int) < q7.2.2)) (asr (Nat.ble (q7.1.b.length + (Str.mk [44, 32]).b.length) 4611686018427387904) <| J110 ((Str.mk (q7.1.b ++ (Str.mk [44, 32]).b)))) (J110 (q7.1))) (fun q109 => asr (Nat.ble (q109.b.length + (Str.mk [102]).b.length) 4611686018427387904) <| cal (zb8 fuel (UInt64.ofNat (q7.2.2 % 18446744073709551616).toNat)) fun y113 => asr (Nat.ble ((Str.mk (q109.b ++ (Str.mk [102]).b)).b.length + y113.b.length) 4611686018427387904) <| asr (Nat.ble ((Str.mk ((Str.mk (q109.b ++ (Str.mk [102]).b)).b ++ y113.b)).b.length + (Str.mk [32, 91]).b.length) 4611686018427387904) <| cal (zb8 fuel (UInt64.ofNat ((((UInt64.ofNat (y101 % 18446744073709551616).toNat) % (60 : UInt64)).toNat : Int) % 18446744073709551616).toNat)) fun y116 => asr (Nat.ble ((Str.mk ((Str.mk ((Str.mk (q109.b ++ (Str.mk [102]).b)).b ++ y113.b)).b ++ (Str.mk [32, 91]).b)).b.length + y116.b.length) 4611686018427387904) <| asr (Nat.ble ((Str.mk ((Str.mk ((Str.mk ((Str.mk (q109.b ++ (Str.mk [102]).b)).b ++ y113.b)).b ++ (Str.mk [32, 91]).b)).b ++ y116.b)).b.length + (Str.mk [93, 32, 78, 85, 76, 76]).b.length) 4611686018427387904) <| ck ((q7.2.2 + (1 : Int))) <| L8 ((Str.mk ((Str.mk ((Str.mk ((Str.mk ((Str.mk (q109.b ++ (Str.mk [102]).b)).b ++ y113.b)).b ++ (Str.mk [32, 91]).b)).b ++ y116.b)).b ++ (Str.mk [93, 32, 78, 85, 76, 76]).b)), (q7.2.1 ++ ([(((UInt64.ofNat (y101 % 18446744073709551616).toNat) % (60 : UInt64)).toNat : Int)] : (List Int))), (q7.2.2 + (1 : Int)))))) (cal (getI ([(Str.mk [83, 69, 84]), (Str.mk [67, 72, 79, 73, 67, 69]), (Str.mk [83, 69, 81, 85, 69, 78, 67, 69])] : (List Str)) (((UInt64.ofNat (zca % 18446744073709551616).toNat) % (3 : UInt64)).toNat : Int)) fun y121 => asr (Nat.ble ((Str.mk [77, 32, 68, 69, 70, 73, 78, 73, 84, 73, 79, 78, 83, 32, 73, 77, 80, 76, 73, 67, 73, 84, 32, 84, 65, 71, 83, 32, 58, 58, 61, 32, 66, 69, 71, 73, 78, 32, 65, 32, 58, 58, 61, 32]).b.length + y121.b.length) 4611686018427387904) <| asr (Nat.ble ((Str.mk ((Str.mk [77, 32, 68, 69, 70, 73, 78, 73, 84, 73, 79, 78, 83, 32, 73, 77, 80, 76, 73, 67, 73, 84, 32, 84, 65, 71, 83, 32, 58, 58, 61, 32, 66, 69, 71, 73, 78, 32, 65, 32, 58, 58, 61, 32]).b ++ y121.b)).b.length + (Str.mk [32, 123, 32]).b.length) 4611686018427387904) <| asr (Nat.ble ((Str.mk ((Str.mk ((Str.mk [77, 32, 68, 69, 70, 73, 78, 73, 84, 73, 79, 78, 83, 32, 73, 77, 80, 76, 73, 67, 73, 84, 32, 84, 65, 71, 83, 32, 58, 58, 61, 32, 66, 69, 71, 73, 78, 32, 65, 32, 58, 58, 61, 32]).b ++ y121.b)).b ++ (Str.mk [32, 123, 32]).b)).b.length + q7.1.b.length) 4611686018427387904) <| asr (Nat.ble ((Str.mk ((Str.mk ((Str.mk ((Str.mk [77, 32, 68, 69, 70, 73, 78, 73, 84, 73, 79, 78, 83, 32, 73, 77, 80, 76, 73, 67, 73, 84, 32, 84, 65, 71, 83, 32, 58, 58, 61, 32, 66, 69, 71, 73, 78, 32, 65, 32, 58, 58, 61, 32]).b ++ y121.b)).b ++ (Str.mk [32, 123, 32]).b)).b ++ q7.1.b)).b.length + (Str.mk [32, 125, 32, 69, 78, 68]).b.length) 4611686018427387904) <| cal (za0 (Str.mk ((Str.mk ((Str.mk ((Str.mk ((Str.mk [77, 32, 68, 69, 70, 73, 78, 73, 84, 73, 79, 78, 83, 32, 73, 77, 80, 76, 73, 67, 73, 84, 32, 84, 65, 71, 83, 32, 58, 58, 61, 32, 66, 69, 71, 73, 78, 32, 65, 32, 58, 58, 61, 32]).b ++ y121.b)).b ++ (Str.mk [32, 123, 32]).b)).b ++ q7.1.b)).b ++ (Str.mk [32, 125, 32, 69, 78, 68]).b))) fun y126 => cal (zcG y126.1 (0 : Int)) fun y128 => cal (zcz ) fun y129 => jp (ι := Bool) (fun J131 => br (!y129) (J131 (true)) (J131 ((!y126.2)))) (fun q130 => jp (ι := Bool) (fun J134 => br q130 (J134 (true)) (J134 ((!decide ((y128.length : Int) = (q7.2.1.length : Int)))))) (fun q133 => br q133 (some (false)) (lp (ι := Int) (fun L137 q136 => br (decide (q136 < (y128.length : Int))) (cal (getI y128 q136) fun y165 => jp (ι := Bool) (fun J167 => br (decide (y165 < (0 : Int))) (J167 (true)) (cal (getI y128 q136) fun y169 => J167 ((decide ((q7.2.1.length : Int) ≤ y169))))) (fun q166 => jp (ι := Bool) (fun J171 => br q166 (J171 (true)) (jp (ι := Bool) (fun J174 => br (decide ((((UInt64.ofNat (zca % 18446744073709551616).toNat) % (3 : UInt64)).toNat : Int) = (2 : Int))) (cal (getI y128 q136) fun y176 => J174 ((!decide (y176 = q136)))) (J174 (false))) (fun q173 => J171 (q173)))) (fun q170 => jp (ι := Bool) (fun J178 => br q170 (J178 (true)) (jp (ι := Bool) (fun J181 => br (decide ((((UInt64.ofNat (zca % 18446744073709551616).toNat) % (3 : UInt64)).toNat : Int) < (2 : Int))) (J181 ((decide ((0 : Int) < q136)))) (J181 (false))) (fun q180 => jp (ι := Bool) (fun J184 => br q180 (cal (getI y128 q136) fun y186 => cal (getI q7.2.1 y186) fun y187 => ck ((q136 - (1 : Int))) <| cal (getI y128 (q136 - (1 : Int))) fun y189 => cal (getI q7.2.1 y189) fun y190 => J184 ((decide (y187 ≤ y190)))) (J184 (false))) (fun q183 => J178 (q183))))) (fun q177 => br q177 (some (false)) (ck ((q136 + (1 : Int))) <| L137 ((q136 + (1 : Int)))))))) (some (true))) (((0 : Int)))))))) (((Str.mk []), ([] : (List Int)), (0 : Int)))))
end Go.Proofs.Q


namespace Go.Proofs.Q
open Go.Sy
set_option maxRecDepth 4000
def tokF (s : Str) : Option (List GTok × Int × Int) := some (toks s.b)
theorem zo6 : zcS = tokF := funext zhr
def zgC (zbm : Str) : Option (GMod × Int × Int) :=
  cal (tokF zbm) fun y2 => br (!decide (y2.2.2 = (0 : Int))) (some ((GMod.mk (Str.mk []) (0 : Int) ([] : (List Str)) ([] : (List Int)) ([] : (List GNode))), y2.2.1, y2.2.2)) (cal (zaQ (GPar.mk y2.1 (0 : Int) (GMod.mk (Str.mk []) (0 : Int) ([] : (List Str)) ([] : (List Int)) ([] : (List GNode))) (0 : Int) (0 : Int)) (1 : Int)) fun y7 => cal (zO (GPar.mk y7.2.l y7.2.at_ (GMod.mk y7.1 y7.2.m.tagging y7.2.m.names y7.2.m.types y7.2.m.nodes) y7.2.e y7.2.p) (Str.mk [68, 69, 70, 73, 78, 73, 84, 73, 79, 78, 83])) fun y10 => jp (ι := GPar) (fun J14 => cal (zF y10 (Str.mk [69, 88, 80, 76, 73, 67, 73, 84])) fun y15 => br y15.1 (cal (zO y15.2 (Str.mk [84, 65, 71, 83])) fun y18 => J14 (y18)) (cal (zF y15.2 (Str.mk [73, 77, 80, 76, 73, 67, 73, 84])) fun y21 => br y21.1 (cal (zO (GPar.mk y21.2.l y21.2.at_ (GMod.mk y21.2.m.name (1 : Int) y21.2.m.names y21.2.m.types y21.2.m.nodes) y21.2.e y21.2.p) (Str.mk [84, 65, 71, 83])) fun y24 => J14 (y24)) (cal (zF y21.2 (Str.mk [65, 85, 84, 79, 77, 65, 84, 73, 67])) fun y27 => br y27.1 (cal (zO (GPar.mk y27.2.l y27.2.at_ (GMod.mk y27.2.m.name (2 : Int) y27.2.m.names y27.2.m.types y27.2.m.nodes) y27.2.e y27.2.p) (Str.mk [84, 65, 71, 83])) fun y30 => J14 (y30)) (J14 (y27.2))))) (fun q13 => cal (zO q13 (Str.mk [58, 58, 61])) fun y33 => cal (zO y33 (Str.mk [66, 69, 71, 73, 78])) fun y36 => lp (ι := GPar) (fun L40 q39 => jp (ι := Bool × GPar) (fun J92 => br (decide (q39.e = (0 : Int))) (cal (zF q39 (Str.mk [69, 78, 68])) fun y94 => J92 ((!y94.1), y94.2)) (J92 (false, q39))) (fun q91 => br q91.1 (cal (zaj q91.2) fun y97 => cal (zaQ y97.2 (1 : Int)) fun y101 => jp (ι := Bool) (fun J105 => br (decide (y101.2.e = (0 : Int))) (J105 ((decide ((40 : Int) ≤ (y101.2.m.names.length : Int))))) (J105 (false))) (fun q104 => jp (ι := GPar) (fun J108 => br q104 (cal (zaB y101.2 (5 : Int) y97.1) fun y109 => J108 (y109)) (J108 (y101.2))) (fun q107 => cal (zO q107 (Str.mk [58, 58, 61])) fun y112 => cal (zaD fuel y112 (0 : Int)) fun y115 => asr (Nat.ble (y115.2.m.names.length + ([y101.1] : (List Str)).length) 68719476736) <| asr (Nat.ble (y115.2.m.types.length + ([y115.1] : (List Int)).length) 68719476736) <| L40 ((GPar.mk y115.2.l y115.2.at_ (GMod.mk y115.2.m.name y115.2.m.tagging (y115.2.m.names ++ ([y101.1] : (List Str))) (y115.2.m.types ++ ([y115.1] : (List Int))) y115.2.m.nodes) y115.2.e y115.2.p))))) (jp (ι := Bool × GPar) (fun J126 => br (decide (q91.2.e = (0 : Int))) (cal (zaj q91.2) fun y128 => J126 ((!decide (y128.1.kind = (0 : Int))), y128.2)) (J126 (false, q91.2))) (fun q125 => jp (ι := GPar) (fun J132 => br q125.1 (cal (zaj q125.2) fun y133 => cal (zaB y133.2 (7 : Int) y133.1) fun y136 => J132 (y136)) (J132 (q125.2))) (fun q131 => br (!decide (q131.e = (0 : Int))) (some ((GMod.mk (Str.mk []) (0 : Int) ([] : (List Str)) ([] : (List Int)) ([] : (List GNode))), q131.p, q131.e)) (some (q131.m, (0 : Int), (0 : Int)))))))) ((y36))))
theorem ziV : zcr = zgC := by
  funext zbm
  unfold zcr zgC
  rw [zo6]
def zdR (zbm : Str) : Option (GTab × Bool) :=
  br (decide ((3000 : Int) < (zbm.b.length : Int))) (some ((GTab.mk (Str.mk []) ([] : (List Str)) ([] : (List Int)) ([] : (List GTyp))), false)) (cal (zgC zbm) fun y2 => br (!decide (y2.2.2 = (0 : Int))) (some ((GTab.mk (Str.mk []) ([] : (List Str)) ([] : (List Int)) ([] : (List GTyp))), false)) (cal (zc8 y2.1) fun y4 => jp (ι := Bool) (fun J7 => br (decide (y4.2.2 = (0 : Int))) (J7 ((decide ((y4.1.types.length : Int) ≤ (120 : Int))))) (J7 (false))) (fun q6 => some (y4.1, q6))))
theorem zgs : za0 = zdR := by
  funext zbm
  unfold za0 zdR
  rw [ziV]
def zha : Option (Bool) :=
  cal (zdR (Str.mk [77, 32, 68, 69, 70, 73, 78, 73, 84, 73, 79, 78, 83, 32, 58, 58, 61, 32, 66, 69, 71, 73, 78, 32, 65, 32, 58, 58, 61, 32, 83, 69, 84, 32, 123, 32, 97, 32, 91, 49, 93, 32, 78, 85, 76, 76, 44, 32, 98, 32, 91, 48, 93, 32, 78, 85, 76, 76, 32, 125, 32, 69, 78, 68])) fun y1 => cal (zcG y1.1 (0 : Int)) fun y3 => jp (ι := Bool) (fun J5 => br y1.2 (J5 ((decide ((y3.length : Int) = (2 : Int))))) (J5 (false))) (fun q4 => jp (ι := Bool) (fun J8 => br q4 (cal (getI y3 (0 : Int)) fun y10 => J8 ((decide (y10 = (1 : Int))))) (J8 (false))) (fun q7 => jp (ι := Bool) (fun J12 => br q7 (cal (getI y3 (1 : Int)) fun y14 => J12 ((decide (y14 = (0 : Int))))) (J12 (false))) (fun q11 => some (q11))))
theorem zhR : zcz = zha := by
  unfold zcz zha
  rw [zgs]
end Go.Proofs.Q


namespace Go.Proofs.Q
open Go.Sy
set_option linter.unusedVariables false
set_option maxRecDepth 4000

theorem awake11 : zcz = some true := by rw [zhR]; kernel_rfl
theorem zpp (l : List Int) (x : Int) (hl : l.length ≤ 1000000) : zc4 l x = some (decide (x ∈ l)) := ze7 l x hl
def kindS (k : Int) : Int := if k = 0 then 8 else if k = 1 then 9 else 7
def preS : List UInt8 := [77, 32, 68, 69, 70, 73, 78, 73, 84, 73, 79, 78, 83, 32, 73, 77, 80, 76, 73, 67, 73, 84, 32, 84, 65, 71, 83, 32, 58, 58, 61, 32, 66, 69, 71, 73, 78, 32, 65, 32, 58, 58, 61, 32]
theorem zoR {k : Int} (hk : k = 0 ∨ k = 1 ∨ k = 2) {vs : List Nat} (hne : vs ≠ []) (hl : vs.length ≤ 10) (hv : ∀ v ∈ vs, v < 256) :
    KT (preS ++ (kwF (kindS k) ++ ([32, 123, 32] ++ (joinT false 0 vs ++ [32, 125, 32, 69, 78, 68])))) (modT [77] 1 [asV (kindS k) ((flsV false 0 vs).map FI.one)]) := by
  have h1 : KT [32, 125, 32, 69, 78, 68] [(6, [125]), (5, [69, 78, 68])] := .tok rfl rfl (.tok rfl rfl (.fin rfl))
  have h2 := zk2 (o := false) (vs := vs) (i := 0) (x := [125, 32, 69, 78, 68]) hne (by omega) hv h1
  have e : modT [77] 1 [asV (kindS k) ((flsV false 0 vs).map FI.one)] = (1, [77]) :: (5, [68, 69, 70, 73, 78, 73, 84, 73, 79, 78, 83]) :: (5, [73, 77, 80, 76, 73, 67, 73, 84]) :: (5, [84, 65, 71, 83]) :: (6, [58, 58, 61]) :: (5, [66, 69, 71, 73, 78]) :: (1, [65]) :: (6, [58, 58, 61]) :: (5, kwF (kindS k)) :: (6, [123]) :: (sepK ((flsV false 0 vs).map Fl.toks) ++ [(6, [125]), (5, [69, 78, 68])]) := by
    have e2 : ((flsV false 0 vs).map FI.one).map FI.toks = (flsV false 0 vs).map Fl.toks := by rw [List.map_map]; rfl
    unfold modT asV fldsT As.toks
    simp only [List.flatMap_cons, List.flatMap_nil, List.append_nil, e2]
    simp [tagT]
  rw [e]
  rcases hk with rfl | rfl | rfl <;> exact .tok rfl rfl (.tok rfl rfl (.tok rfl rfl (.tok rfl rfl (.tok rfl rfl (.tok rfl rfl (.tok rfl rfl (.tok rfl rfl (.tok rfl rfl (.tok rfl rfl (KT.sp h2))))))))))
theorem zlv {k : Int} (hk : k = 0 ∨ k = 1 ∨ k = 2) {vs : List Nat} (hne : vs ≠ []) (hl : vs.length ≤ 10) (hv : ∀ v ∈ vs, v < 256) (hn : vs.Nodup) {s : Str} (hs : s.b = preS ++ (kwF (kindS k) ++ ([32, 123, 32] ++ (joinT false 0 vs ++ [32, 125, 32, 69, 78, 68])))) :
    ∃ T : GTyp, za0 s = some (⟨⟨[77]⟩, [⟨[65]⟩], [0], T :: vs.map leafV⟩, true) ∧ T.kind = kindS k ∧ T.fields = gflV false 0 0 1 vs ∧ T.root = vs.length := by
  have hkind : kindS k = 7 ∨ kindS k = 8 ∨ kindS k = 9 := by rcases hk with rfl | rfl | rfl <;> decide
  have hkt := zoR hk hne hl hv
  rw [← hs] at hkt
  have hjl := zhp (o := false) (vs := vs) (i := 0) (by omega) hv
  have hsl : s.b.length ≤ 3000 := by
    have hkw : (kwF (kindS k)).length ≤ 10 := by rcases hk with rfl | rfl | rfl <;> decide
    rw [hs]
    simp only [List.length_append, List.length_cons, List.length_nil, preS]
    omega
  have hfne : (flsV false 0 vs).map FI.one ≠ [] := by cases vs with
    | nil => exact absurd rfl hne
    | cons v r => intro h; cases h
  have hszI : szI ((flsV false 0 vs).map FI.one) = vs.length := by unfold szI; rw [zjZ, zl4]
  have hAs := zpU hkind hfne (zma (znz (kind := kindS k) (fun h => by cases h) hv)) (by omega) (by rw [zjZ, zkV]; omega)
  have hp := zmF (g := 1) (by omega) hkt (by omega) (by show 1 ≤ 40; omega) (by show (_ + 0 : Nat) ≤ 300; show (szI _ + 1) + 0 ≤ 300; omega) (fun x hx => by rw [List.mem_singleton.1 hx]; exact hAs)
  have hmod : modM [77] 1 [asV (kindS k) ((flsV false 0 vs).map FI.one)] = ⟨⟨[77]⟩, 1, [⟨[65]⟩], [0], endN (ndI 0 ((flsV false 0 vs).map FI.one) 1 { zm noM with kind := kindS k }) :: vs.map nodeV⟩ := by
    show (⟨⟨[77]⟩, 1, [⟨[65]⟩], [((0 : Nat) : Int)], (endN (ndI 0 ((flsV false 0 vs).map FI.one) 1 { zm noM with kind := kindS k }) :: nsI ((flsV false 0 vs).map FI.one) 1) ++ []⟩ : GMod) = _
    unfold nsI
    rw [zjZ, zpl, List.append_nil]; rfl
  have w := zn2 hp
  rw [hmod] at hp w
  have hnd : endN (ndI 0 ((flsV false 0 vs).map FI.one) 1 { zm noM with kind := kindS k }) = ⟨kindS k, ⟨[]⟩, noM, ⟨false, false, false, false, 0, 0⟩, [], gflV false 0 0 1 vs, (vs.length : Int), false, 0⟩ := by
    rw [zky]
    unfold endN zm
    simp only [List.nil_append, Bool.false_eq_true, if_false, zfM]
  have hPF : PF (gflV false 0 0 1 vs) vs := ⟨zfM, fun j f hj => by
    obtain ⟨v, _, e⟩ := zgO hj
    rw [e]; rfl, fun f hf => by
    obtain ⟨j, hj⟩ := List.getElem?_of_mem hf
    obtain ⟨v, _, e⟩ := zgO hj
    rw [e]; rfl, zo9 (by omega), hn, hv, by omega⟩
  have hm := zll (nd := endN (ndI 0 ((flsV false 0 vs).map FI.one) 1 { zm noM with kind := kindS k })) hPF (by rw [hnd]; exact hkind) (fun _ => hne) (by rw [hnd]) (by rw [hnd]) (by rw [hnd]; dsimp only; omega) (by rw [hnd]; exact Int.le_refl _) rfl w
  refine ⟨_, zm0 hsl hp hm (by dsimp only; simp only [List.length_cons, List.length_map]; omega), ?_, rfl, ?_⟩
  · rw [hnd]; rfl
  · rw [hnd]; rfl
theorem zm1 {t : GTab} {T : GTyp} {vs : List Nat} (ht : t.types = T :: vs.map leafV) {j v : Nat} (hj : vs[j]? = some v) : leastT t ((j + 1 : Nat) : Int) = ⟨2, (v : Int)⟩ := by
  unfold leastT begT
  have h : t.types[j + 1]? = some (leafV v) := by rw [ht, List.getElem?_cons_succ, List.getElem?_map, hj]; rfl
  rw [ziH h]; rfl
theorem zmG (ns : List Int) (kind : Int) : zdc ns kind = some true := by
  refine T.eqs ?_
  unfold zdc
  have hk3 : ((UInt64.ofNat (kind % 18446744073709551616).toNat) % (3 : UInt64)).toNat < 3 := by rw [UInt64.toNat_mod]; exact Nat.mod_lt _ (by decide)
  generalize hk : ((((UInt64.ofNat (kind % 18446744073709551616).toNat) % (3 : UInt64)).toNat : Nat) : Int) = k
  have hk0 : k = 0 ∨ k = 1 ∨ k = 2 := by omega
  refine T.asr rfl (T.ck (by omega) ?_)
  refine T.jp (fun b => b = false → ns ≠ [] ∧ ns.length ≤ 10) (fun J hJ => T.br (fun _ => hJ _ fun h => by cases h) fun h1 => hJ _ fun h2 => ?_) fun b hb => T.br (fun _ => T.eq awake11 (T.some rfl)) fun hb' => ?_
  · have h1 := zOF h1
    have h2 := zOF h2
    exact ⟨fun e => by subst e; exact h1 rfl, by omega⟩
  obtain ⟨hne, hl10⟩ := hb hb'
  refine T.lp (ι := Str × List Int × Int) (fun q => ∃ vs : List Nat, (vs.length : Int) = q.2.2 ∧ vs.length ≤ ns.length ∧ q.2.1 = vs.map (fun (v : Nat) => (v : Int)) ∧ q.1.b = joinT false 0 vs ∧ vs.Nodup ∧ ∀ v ∈ vs, v < 60) (fun q => ((ns.length : Int) - q.2.2).toNat) ⟨[], rfl, Nat.zero_le _, rfl, rfl, .nil, fun v hv => by cases hv⟩ (by dsimp only; omega) fun L q hq hL => ?_
  obtain ⟨tx, us, i⟩ := q
  obtain ⟨vs, v1, v2, v3, v4, v5, v6⟩ := hq
  dsimp only at v1 v3 v4 hL ⊢
  have hv256 : ∀ v ∈ vs, v < 256 := fun v hv => by have := v6 v hv; omega
  have hjl := zhp (o := false) (vs := vs) (i := 0) (by omega) hv256
  refine T.br (fun h => ?_) fun h => ?_
  · have h := zOT h
    refine T.get (by omega) h fun y hy => T.asr rfl ?_
    have hn60 : ((UInt64.ofNat (y % 18446744073709551616).toNat) % (60 : UInt64)).toNat < 60 := by rw [UInt64.toNat_mod]; exact Nat.mod_lt _ (by decide)
    generalize ((UInt64.ofNat (y % 18446744073709551616).toNat) % (60 : UInt64)).toNat = n at *
    refine T.ck (by omega) (T.eq (zpp us n (by rw [v3, List.length_map]; omega)) (T.br (fun _ => T.eq awake11 (T.some rfl)) fun hin => ?_))
    have hin : ¬ n ∈ vs := fun hm => by
      have := zOF hin
      rw [v3] at this
      exact this (List.mem_map.2 ⟨n, hm, rfl⟩)
    have hil : i.toNat = vs.length := by omega
    have d1 := (dgs vs.length (by omega)).eq
    have d2 := (dgs n (by omega)).eq
    have l1 := (dgs vs.length (by omega)).len
    have l2 := (dgs n (by omega)).len
    have e1 : (i % 18446744073709551616).toNat = vs.length := by omega
    have e2 : ((n : Int) % 18446744073709551616).toNat = n := by omega
    rw [e1, e2]
    refine T.abl (by rw [v3, List.length_map]; simp only [List.length_singleton]; omega) (T.jp (ι := Str) (fun s => s.b = (if vs = [] then [] else joinT false 0 vs ++ [44, 32])) (fun J hJ => T.br (fun h0 => T.abl ?_ (hJ _ ?_)) fun h0 => hJ _ ?_) fun s hs => ?_)
    · rw [v4]; simp only [List.length_cons, List.length_nil]; omega
    · have h0 := zOT h0
      rw [if_neg (fun e => by rw [e] at v1; simp at v1; omega), v4]
    · have h0 := zOF h0
      have : vs = [] := List.length_eq_zero_iff.1 (by omega)
      rw [if_pos this, v4, this]; rfl
    have hsl : s.b.length ≤ 1000 := by
      rw [hs]
      split
      · simp
      · simp only [List.length_append, List.length_cons, List.length_nil]; omega
    refine T.abl (by simp only [List.length_cons, List.length_nil]; omega) (T.eq d1 (T.abl ?_ (T.abl ?_ (T.eq d2 (T.abl ?_ (T.abl ?_ (T.ck (by omega) (hL _ ⟨vs ++ [n], ?_, ?_, ?_, ?_, ?_, ?_⟩ (by dsimp only; omega))))))))) <;> try (simp only [List.length_append, List.length_cons, List.length_nil]; omega)
    · dsimp only; rw [v3, List.map_append]; rfl
    · dsimp only
      rw [hs]
      by_cases e : vs = []
      · subst e
        rw [if_pos rfl]
        show _ = fTxt false 0 n
        unfold fTxt; simp
      · rw [if_neg e, ziD e, Nat.zero_add]
        unfold fTxt; simp
    · exact List.nodup_append.2 ⟨v5, by simp, fun a ha b hb => by rw [List.mem_singleton.1 hb]; exact fun e => hin (e ▸ ha)⟩
    · intro v hv
      rcases List.mem_append.1 hv with h | h
      · exact v6 v h
      · rw [List.mem_singleton.1 h]; exact hn60
  -- all are written
  have h := zOF h
  have hvl : vs.length = ns.length := by omega
  have hvne : vs ≠ [] := fun e => by
    rw [e] at hvl
    exact hne (List.length_eq_zero_iff.1 hvl.symm)
  refine T.eq (y := ⟨kwF (kindS k)⟩) (by rcases hk0 with rfl | rfl | rfl <;> rfl) ?_
  have hkw : (kwF (kindS k)).length ≤ 10 := by rcases hk0 with rfl | rfl | rfl <;> decide
  refine T.abl ?_ (T.abl ?_ (T.abl ?_ (T.abl ?_ ?_)))
  · simp only [List.length_cons, List.length_nil]; omega
  · simp only [List.length_append, List.length_cons, List.length_nil]; omega
  · rw [v4]; simp only [List.length_append, List.length_cons, List.length_nil]; omega
  · rw [v4]; simp only [List.length_append, List.length_cons, List.length_nil]; omega
  obtain ⟨T0, hT, hTk, hTf, hTr⟩ := zlv hk0 hvne (by omega) hv256 v5 (s := Str.mk ((Str.mk ((Str.mk ((Str.mk (preS ++ kwF (kindS k))).b ++ (Str.mk [32, 123, 32]).b)).b ++ tx.b)).b ++ (Str.mk [32, 125, 32, 69, 78, 68]).b)) (by rw [v4]; simp)
  have htab : TabOk _ := (zmD _).get? hT
  refine T.eq hT ?_
  refine T.cal (zmu htab 0) fun l _ hfl => T.eq awake11 ?_
  unfold FldsS at hfl
  have hfl : (T0.kind = 7 → l = rng 0 T0.fields.length) ∧ (T0.kind = 8 ∨ T0.kind = 9 → Std (RK (fC _ T0) (fN _ T0)) T0.root T0.fields.length l) ∧ (¬ (T0.kind = 7 ∨ T0.kind = 8 ∨ T0.kind = 9) → l = []) := hfl
  have hfn : T0.fields.length = vs.length := by rw [hTf, zfM]
  rw [hfn, hTr, hTk] at hfl
  have hlen : l.length = vs.length ∧ ∀ x ∈ l, 0 ≤ x ∧ x < vs.length := by
    rcases hk0 with rfl | rfl | rfl
    · obtain ⟨s, e, p, _⟩ := (hfl.2.1 (.inl rfl)).go
      rw [zf9 (Int.le_refl _), List.append_nil] at e
      subst e
      exact ⟨by rw [p.length_eq, zfD]; omega, fun x hx => zh0.1 (p.subset hx)⟩
    · obtain ⟨s, e, p, _⟩ := (hfl.2.1 (.inr rfl)).go
      rw [zf9 (Int.le_refl _), List.append_nil] at e
      subst e
      exact ⟨by rw [p.length_eq, zfD]; omega, fun x hx => zh0.1 (p.subset hx)⟩
    · have e := hfl.1 rfl
      rw [e, zfD]
      exact ⟨by omega, fun x hx => zh0.1 hx⟩
  obtain ⟨hll, hlr⟩ := hlen
  have hul : us.length = vs.length := by rw [v3, List.length_map]
  refine T.jp (fun b => b = false) (fun J hJ => T.brF rfl (hJ _ rfl)) fun b hb1 => ?_
  subst hb1
  refine T.jp (fun b => b = false) (fun J hJ => T.brF rfl (hJ _ (by rw [zDT (by omega)]; rfl))) fun b hb1 => ?_
  subst hb1
  refine T.brF rfl ?_
  refine T.lp (ι := Int) (fun q => 0 ≤ q ∧ q ≤ l.length) (fun q => ((l.length : Int) - q).toNat) ⟨Int.le_refl _, by omega⟩ (by omega) fun L2 q ⟨q1, q2⟩ hL2 => ?_
  refine T.br (fun hb => ?_) fun _ => T.some rfl
  have hb := zOT hb
  refine T.get q1 hb fun y hy => ?_
  have hyr := hlr y (List.mem_of_getElem? hy)
  refine T.jp (fun b => b = false) (fun J hJ => T.brF (zDF (by omega)) (T.get q1 hb fun y' hy' => hJ _ ?_)) fun b hb1 => ?_
  · rw [hy] at hy'; cases hy'
    exact zDF (by omega)
  subst hb1
  refine T.jp (fun b => b = false) (fun J hJ => T.brF rfl (T.jp (fun b => b = false) (fun J2 hJ2 => T.br (fun h2 => T.get q1 hb fun y' hy' => hJ2 _ ?_) fun _ => hJ2 _ rfl) fun b hb1 => hJ _ hb1)) fun b hb1 => ?_
  · rw [hy] at hy'; cases hy'
    have h2 := zOT h2
    subst h2
    have e := hfl.1 rfl
    rw [e, zpc (by omega)] at hy
    have : y = q := by have := Option.some.inj hy; omega
    rw [zDT this]; rfl
  subst hb1
  refine T.jp (fun b => b = false) (fun J hJ => T.brF rfl (T.jp (fun b => b = true → k < 2 ∧ 0 < q) (fun J2 hJ2 => T.br (fun h2 => hJ2 _ fun h3 => ⟨zOT h2, zOT h3⟩) fun _ => hJ2 _ fun h => by cases h) fun b hb1 => T.jp (fun b => b = false) (fun J2 hJ2 => T.br (fun h2 => ?_) fun _ => hJ2 _ rfl) fun b hb2 => hJ _ hb2)) fun b hb1 => T.brF hb1 (T.ck (by omega) (hL2 _ (by omega) (by omega)))
  obtain ⟨c1, c2⟩ := hb1 h2
  refine T.get q1 hb fun y' hy' => ?_
  rw [hy] at hy'; cases hy'
  refine T.get hyr.1 (by omega) fun u hu => T.ck (by omega) (T.get (by omega) (by omega) fun z hz => ?_)
  have hzr := hlr z (List.mem_of_getElem? hz)
  refine T.get hzr.1 (by omega) fun w hw => hJ2 _ (zDF ?_)
  have hstd := hfl.2.1 (by rcases hk0 with rfl | rfl | rfl <;> first | exact .inl rfl | exact .inr rfl | omega)
  have hrk : RK (fC ⟨⟨[77]⟩, [⟨[65]⟩], [0], T0 :: vs.map leafV⟩ T0) (fN ⟨⟨[77]⟩, [⟨[65]⟩], [0], T0 :: vs.map leafV⟩ T0) z y := by
    obtain ⟨s, e, p, r⟩ := hstd.go
    rw [zf9 (Int.le_refl _), List.append_nil] at e
    subst e
    exact zfE r hz hy (by omega)
  have hkey : ∀ (x : Int) (u : Int), 0 ≤ x → x < vs.length → us[x.toNat]? = some u → ∃ v : Nat, u = v ∧ vs[x.toNat]? = some v ∧ leastT ⟨⟨[77]⟩, [⟨[65]⟩], [0], T0 :: vs.map leafV⟩ (((T0.fields[x.toNat]?).map fun f => f.ty).getD 0) = ⟨2, u⟩ := fun x u h0 h1 hu => by
    rw [v3, List.getElem?_map] at hu
    obtain ⟨v, hv, rfl⟩ := Option.map_eq_some_iff.1 hu
    refine ⟨v, rfl, hv, ?_⟩
    obtain ⟨g0, hg⟩ : ∃ g0, (gflV false 0 0 1 vs)[x.toNat]? = some g0 := ⟨_, List.getElem?_eq_getElem (by rw [zfM]; omega)⟩
    obtain ⟨v', _, e'⟩ := zgO hg
    rw [hTf, hg, e']
    show leastT _ ((1 + x.toNat : Nat) : Int) = _
    rw [Nat.add_comm 1]
    exact zm1 rfl hv
  obtain ⟨a, rfl, a1, a2⟩ := hkey y u hyr.1 hyr.2 hu
  obtain ⟨c, rfl, b1, b2⟩ := hkey z w hzr.1 hzr.2 hw
  unfold RK fC fN at hrk
  rw [a2, b2] at hrk
  dsimp only at hrk
  rcases hrk with h | ⟨_, h | ⟨h, h'⟩⟩
  · omega
  · omega
  · have hac : c = a := by omega
    subst hac
    obtain ⟨g1, g2⟩ := List.getElem?_eq_some_iff.1 a1
    obtain ⟨g3, g4⟩ := List.getElem?_eq_some_iff.1 b1
    have := (List.getElem_inj (h₀ := g1) (h₁ := g3) v5).1 (g2.trans g4.symm)
    omega
end Go.Proofs.Q

