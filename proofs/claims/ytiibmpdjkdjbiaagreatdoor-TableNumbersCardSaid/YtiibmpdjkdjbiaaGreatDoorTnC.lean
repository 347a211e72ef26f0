/- TableNumbers: whatever its arguments are, the law's model answers true. No condition. -/
import Derived.Test.YtiibmpdjkdjbiaaGreatDoorTnA
import Derived.Test.YtiibmpdjkdjbiaaGreatDoorTnB
import Derived.KernelRfl
set_option linter.unusedVariables false
set_option linter.unusedSimpArgs false

namespace Go.Proofs.YtiibmpdjkdjbiaaGreatDoor
open Go.Sy
set_option linter.unusedVariables false

structure Fl where
  name : List UInt8
  ts : KS
  sz : Nat
  ns : Nat → List GNode
  tail : KS
  opt : Bool
  has : Bool
  df : Val
def Fl.toks (f : Fl) : KS := (2, f.name) :: (f.ts ++ f.tail)
def Fl.fl (f : Fl) (g : Int) (i : Nat) : GFld := ⟨⟨f.name⟩, (i : Int), f.opt, f.has, f.df, g⟩
@[reducible] def zv : Val := Val.mk 0 0 [] [] 0 []
def addF (n : GNode) (f : GFld) : GNode := ⟨n.kind, n.name, n.mark, n.con, n.items, n.fields ++ [f], n.root, n.more, n.of⟩
structure Sep (k : Int) (t : List UInt8) : Prop where
  par : isK k t [40] = false
  opt : isK k t [79, 80, 84, 73, 79, 78, 65, 76] = false
  dft : isK k t [68, 69, 70, 65, 85, 76, 84] = false
structure FldK (h : Nat) (kind : Int) (f : Fl) : Prop where
  len : ∀ i, (f.ns i).length = f.sz
  go : ∀ {n : Nat} {d : Int} {L : List GTok} {a : Int} {m : GMod} {k : Int} {t : List UInt8} {ks : KS} {nd : GNode} {g : Int}, 4 * h + 1 ≤ n → 0 ≤ d → d + h ≤ 16 → Sg L a (f.toks ++ (k, t) :: ks) → Sep k t → m.nodes.length + f.sz ≤ 300 → nd.kind = kind → nd.fields.length ≤ 1000 →
    r05_parser_field n ⟨L, a, m, 0, 0⟩ nd d g = some (⟨L, a + f.toks.length, addN m (f.ns m.nodes.length), 0, 0⟩, addF nd (f.fl g m.nodes.length))
/-! ### Some of them, with commas -/
def sepK : List KS → KS
  | [] => []
  | [x] => x
  | x :: y :: r => x ++ (6, [44]) :: sepK (y :: r)
def Fl.stp (g : Int) (s : GMod × GNode) (f : Fl) : GMod × GNode := (addN s.1 (f.ns s.1.nodes.length), addF s.2 (f.fl g s.1.nodes.length))
/-! ### What stands within a bracket -/
inductive FI where
  | one (x : Fl)
  | dots
  | grp (l : List Fl)
def FI.toks : FI → KS
  | .one x => x.toks
  | .dots => [(6, [46, 46, 46])]
  | .grp l => (6, [91, 91]) :: (sepK (l.map Fl.toks) ++ [(6, [93, 93])])
def FI.stp (s : Int × GMod × GNode) : FI → Int × GMod × GNode
  | .one x => (s.1, Fl.stp 0 s.2 x)
  | .dots => (s.1, s.2.1, ⟨s.2.2.kind, s.2.2.name, s.2.2.mark, s.2.2.con, s.2.2.items, s.2.2.fields, (s.2.2.fields.length : Int), true, s.2.2.of⟩)
  | .grp l => (s.1 + 1, l.foldl (Fl.stp (s.1 + 1)) s.2)
end Go.Proofs.YtiibmpdjkdjbiaaGreatDoor


namespace Go.Proofs.YtiibmpdjkdjbiaaGreatDoor
open Go.Sy
set_option linter.unusedVariables false

/-! ### Modules -/
structure As where
  name : List UInt8
  ts : KS
  sz : Nat
  ns : Nat → List GNode
  h : Nat
structure AsK (x : As) : Prop where
  t : TypK x.h x.ts x.sz x.ns
  h : x.h ≤ 17
def As.toks (x : As) : KS := (1, x.name) :: (6, [58, 58, 61]) :: x.ts
def typesA : List As → Nat → List Int
  | [], _ => []
  | x :: r, i => (i : Int) :: typesA r (i + x.sz)
def nodesA : List As → Nat → List GNode
  | [], _ => []
  | x :: r, i => x.ns i ++ nodesA r (i + x.sz)
def szA (l : List As) : Nat := (l.map As.sz).sum
def tagT (g : Int) : KS := if g = 1 then [(5, [73, 77, 80, 76, 73, 67, 73, 84]), (5, [84, 65, 71, 83])] else if g = 2 then [(5, [65, 85, 84, 79, 77, 65, 84, 73, 67]), (5, [84, 65, 71, 83])] else if g = 3 then [(5, [69, 88, 80, 76, 73, 67, 73, 84]), (5, [84, 65, 71, 83])] else []
def tagOf (g : Int) : Int := if g = 1 then 1 else if g = 2 then 2 else 0
def modT (nm : List UInt8) (g : Int) (l : List As) : KS := (1, nm) :: (5, [68, 69, 70, 73, 78, 73, 84, 73, 79, 78, 83]) :: (tagT g ++ (6, [58, 58, 61]) :: (5, [66, 69, 71, 73, 78]) :: (l.flatMap As.toks ++ [(5, [69, 78, 68])]))
def modM (nm : List UInt8) (g : Int) (l : List As) : GMod := ⟨⟨nm⟩, tagOf g, l.map fun x => ⟨x.name⟩, typesA l 0, nodesA l 0⟩
theorem typesA_snoc : ∀ {a : List As} {x : As} {i : Nat}, typesA (a ++ [x]) i = typesA a i ++ [((i + szA a : Nat) : Int)]
  | [], x, i => by show [(i : Int)] = [] ++ [((i + 0 : Nat) : Int)]; rfl
  | y :: r, x, i => by
    show (i : Int) :: typesA (r ++ [x]) (i + y.sz) = (i : Int) :: (typesA r (i + y.sz) ++ _)
    rw [typesA_snoc]
    have : szA (y :: r) = y.sz + szA r := by unfold szA; simp
    rw [this, Nat.add_assoc]
theorem nodesA_snoc : ∀ {a : List As} {x : As} {i : Nat}, nodesA (a ++ [x]) i = nodesA a i ++ x.ns (i + szA a)
  | [], x, i => by show x.ns i ++ [] = [] ++ x.ns (i + 0); rw [List.append_nil]; rfl
  | y :: r, x, i => by
    show y.ns i ++ nodesA (r ++ [x]) (i + y.sz) = y.ns i ++ nodesA r (i + y.sz) ++ _
    rw [nodesA_snoc]
    have : szA (y :: r) = y.sz + szA r := by unfold szA; simp
    rw [this, Nat.add_assoc, List.append_assoc]
theorem nodesA_len : ∀ {a : List As} {i : Nat}, (∀ x ∈ a, AsK x) → (nodesA a i).length = szA a
  | [], _, _ => rfl
  | y :: r, i, h => by
    have := nodesA_len (a := r) (i := i + y.sz) fun x hx => h x (List.mem_cons_of_mem _ hx)
    show (y.ns i ++ nodesA r (i + y.sz)).length = _
    rw [List.length_append, this, (h y (List.mem_cons_self ..)).t.len]; unfold szA; simp
theorem parse_mod {s : Str} {nm : List UInt8} {g : Int} (hg : 0 ≤ g ∧ g ≤ 3) {l : List As} (hk : KT s.b (modT nm g l)) (hs : s.b.length ≤ 8000) (hl : l.length ≤ 40) (hz : szA l ≤ 300) (hF : ∀ x ∈ l, AsK x) :
    r05_Parse s = some (modM nm g l, 0, 0) := by
  obtain ⟨ts, e1, e2⟩ := toks_KT hk hs
  have htk := (tokens_tot s).get? (tokens_eq s) (by rw [e1])
  rw [e1] at htk
  have hlen : ts.length ≤ 8001 := htk.len
  have hA : Sg ts 0 (modT nm g l) := ⟨Int.le_refl _, by omega, by rw [show (0 : Int).toNat = 0 from rfl, List.drop_zero]; exact e2⟩
  refine T.fin ?_
  unfold r05_Parse
  refine T.eq (tokens_eq s) ?_
  rw [e1]
  have a1 := Sg.tl hA
  have a2 := Sg.tl a1
  refine T.brF rfl (T.eq (kind_yes hA) (T.eq (must_yes a1 rfl) ?_))
  have a3 := Sg.app (L := ts) (xs := tagT g) a2
  refine T.jp (fun x => x = (⟨ts, 0 + 1 + 1 + (tagT g).length, ⟨⟨nm⟩, tagOf g, [], [], []⟩, 0, 0⟩ : GPar)) (fun J hJ => ?_) fun x hx => ?_
  · have hc : g = 0 ∨ g = 1 ∨ g = 2 ∨ g = 3 := by omega
    rcases hc with rfl | rfl | rfl | rfl
    · have b : Sg ts (0 + 1 + 1) ((6, [58, 58, 61]) :: (5, [66, 69, 71, 73, 78]) :: (l.flatMap As.toks ++ [(5, [69, 78, 68])])) := a2
      exact T.eq (is_no b rfl) (T.brF rfl (T.eq (is_no b rfl) (T.brF rfl (T.eq (is_no b rfl) (T.brF rfl (hJ _ rfl))))))
    · have b : Sg ts (0 + 1 + 1) ((5, [73, 77, 80, 76, 73, 67, 73, 84]) :: (5, [84, 65, 71, 83]) :: (6, [58, 58, 61]) :: (5, [66, 69, 71, 73, 78]) :: (l.flatMap As.toks ++ [(5, [69, 78, 68])])) := a2
      exact T.eq (is_no b rfl) (T.brF rfl (T.eq (is_yes b rfl) (T.brT rfl (T.eq (must_yes b.tl rfl) (hJ _ rfl)))))
    · have b : Sg ts (0 + 1 + 1) ((5, [65, 85, 84, 79, 77, 65, 84, 73, 67]) :: (5, [84, 65, 71, 83]) :: (6, [58, 58, 61]) :: (5, [66, 69, 71, 73, 78]) :: (l.flatMap As.toks ++ [(5, [69, 78, 68])])) := a2
      exact T.eq (is_no b rfl) (T.brF rfl (T.eq (is_no b rfl) (T.brF rfl (T.eq (is_yes b rfl) (T.brT rfl (T.eq (must_yes b.tl rfl) (hJ _ rfl)))))))
    · have b : Sg ts (0 + 1 + 1) ((5, [69, 88, 80, 76, 73, 67, 73, 84]) :: (5, [84, 65, 71, 83]) :: (6, [58, 58, 61]) :: (5, [66, 69, 71, 73, 78]) :: (l.flatMap As.toks ++ [(5, [69, 78, 68])])) := a2
      exact T.eq (is_yes b rfl) (T.brT rfl (T.eq (must_yes b.tl rfl) (hJ _ rfl)))
  subst hx
  have a4 := Sg.tl a3
  have a5 := Sg.tl a4
  refine T.eq (must_yes a3 rfl) (T.eq (must_yes a4 rfl) ?_)
  generalize hb : (0 : Int) + 1 + 1 + ((tagT g).length : Int) + 1 + 1 = b at a5
  have hb0 := a5.a0
  have hbz := a5.size
  refine T.lp (ι := GPar) (fun x => ∃ (dn rest : List As) (a : Int), l = dn ++ rest ∧ x = ⟨ts, a, ⟨⟨nm⟩, tagOf g, dn.map fun x => ⟨x.name⟩, typesA dn 0, nodesA dn 0⟩, 0, 0⟩ ∧ Sg ts a (rest.flatMap As.toks ++ [(5, [69, 78, 68])])) (fun x => ((ts.length : Int) - x.at_).toNat) ⟨[], l, b, rfl, rfl, a5⟩ (by dsimp only; omega) fun L x hx hL => ?_
  obtain ⟨dn, rest, a, hdr, rfl, ha⟩ := hx
  dsimp only at hL ⊢
  cases rest with
  | nil =>
    rw [List.append_nil] at hdr
    subst hdr
    have ha' : Sg ts a [(5, [69, 78, 68])] := ha
    refine T.jp0 (T.brT rfl (T.eq (is_yes ha' rfl) (T.brF rfl ?_)))
    obtain ⟨y, y1, y2⟩ := ha'.tl.end_
    refine T.jp0 (T.brT rfl (T.eq (y := (y, (⟨ts, a + 1, ⟨⟨nm⟩, tagOf g, l.map fun x => ⟨x.name⟩, typesA l 0, nodesA l 0⟩, 0, 0⟩ : GPar))) (by unfold r05_parser_now; dsimp only; rw [getI_at ha'.tl.a0 y1]; rfl) ?_))
    refine T.jp0 (T.brF (by dsimp only; rw [y2]; rfl) (T.brF rfl (T.some rfl)))
  | cons x rest =>
    have hx := hF x (by rw [hdr]; exact List.mem_append_right _ (List.mem_cons_self ..))
    have hll : dn.length + (rest.length + 1) ≤ 40 := by rw [hdr, List.length_append, List.length_cons] at hl; exact hl
    have hzz : szA dn + x.sz ≤ 300 := by
      have : szA l = szA dn + (x.sz + szA rest) := by rw [hdr]; unfold szA; simp
      omega
    have hdk : ∀ y ∈ dn, AsK y := fun y hy => hF y (by rw [hdr]; exact List.mem_append_left _ hy)
    have hnl : (nodesA dn 0).length = szA dn := nodesA_len hdk
    have htl : (typesA dn 0).length = dn.length := by
      have : ∀ (a : List As) (i : Nat), (typesA a i).length = a.length := fun a => by
        induction a with
        | nil => intro i; rfl
        | cons y r ih => intro i; show (typesA r (i + y.sz)).length + 1 = _; rw [ih]; rfl
      exact this _ _
    have ha1 : Sg ts a ((1, x.name) :: (6, [58, 58, 61]) :: (x.ts ++ (rest.flatMap As.toks ++ [(5, [69, 78, 68])]))) := by
      have e : (x :: rest).flatMap As.toks ++ [(5, [69, 78, 68])] = (1, x.name) :: (6, [58, 58, 61]) :: (x.ts ++ (rest.flatMap As.toks ++ [(5, [69, 78, 68])])) := by
        show As.toks x ++ rest.flatMap As.toks ++ _ = _
        unfold As.toks; simp
      rw [e] at ha; exact ha
    have ha2 := Sg.tl ha1
    have ha3 := Sg.tl ha2
    have hnx : ∃ k t ks', rest.flatMap As.toks ++ [(5, [69, 78, 68])] = (k, t) :: ks' ∧ isK k t [40] = false := by
      cases rest with
      | nil => exact ⟨5, [69, 78, 68], [], rfl, rfl⟩
      | cons y r => exact ⟨1, y.name, _, rfl, rfl⟩
    obtain ⟨k, t, ks', ek, hkt⟩ := hnx
    have ha3' := ha3
    rw [ek] at ha3'
    obtain ⟨y, f1, f2, f3⟩ := now_at (m := ⟨⟨nm⟩, tagOf g, dn.map fun x => ⟨x.name⟩, typesA dn 0, nodesA dn 0⟩) (p := 0) (e := 0) ha1
    have hty := hx.t.go (n := fuel) (d := 0) (m := ⟨⟨nm⟩, tagOf g, dn.map fun x => ⟨x.name⟩, typesA dn 0, nodesA dn 0⟩) (by have := hx.h; unfold fuel; omega) (Int.le_refl _) (by have := hx.h; omega) ha3' hkt (by dsimp only; rw [hnl]; exact hzz)
    dsimp only at hty
    rw [hnl] at hty
    have hsz := ha3.size
    have hal := ha3.app.size
    have ha0 := ha1.a0
    refine T.jp0 (T.brT rfl (T.eq (is_no ha1 rfl) (T.brT rfl (T.eq f1 (T.eq (kind_yes ha1) ?_)))))
    refine T.jp (fun b => b = false) (fun J hJ => T.brT rfl (hJ _ (decide_eq_false (by dsimp only; rw [List.length_map]; omega)))) fun b hb2 => ?_
    subst hb2
    refine T.jp0 (T.brF rfl (T.eq (must_yes ha2 rfl) (T.eq hty (T.abl ?_ (T.abl ?_ (hL _ ⟨dn ++ [x], rest, a + 1 + 1 + (x.ts.length : Int), by rw [hdr, List.append_assoc]; rfl, ?_, ha3.app⟩ ?_))))))
    · show (dn.map fun x => (⟨x.name⟩ : Str)).length + 1 ≤ _; rw [List.length_map]; omega
    · show (typesA dn 0).length + 1 ≤ _; rw [htl]; omega
    · dsimp only
      rw [List.map_append, typesA_snoc, nodesA_snoc, Nat.zero_add]; rfl
    · dsimp only; omega
end Go.Proofs.YtiibmpdjkdjbiaaGreatDoor


namespace Go.Proofs.YtiibmpdjkdjbiaaGreatDoor
open Go.Sy
set_option linter.unusedVariables false

inductive EI where
  | it (nm : List UInt8)
  | num (nm ds : List UInt8) (v : Int)
  | dots
def EI.toks : EI → KS
  | .it nm => [(2, nm)]
  | .num nm ds _ => [(2, nm), (6, [40]), (3, ds), (6, [41])]
  | .dots => [(6, [46, 46, 46])]
def addI (n : GNode) (x : GItem) : GNode := ⟨n.kind, n.name, n.mark, n.con, n.items ++ [x], n.fields, n.root, n.more, n.of⟩
def EI.stp (n : GNode) : EI → GNode
  | .it nm => addI n ⟨⟨nm⟩, 0, false⟩
  | .num nm _ v => addI n ⟨⟨nm⟩, v, true⟩
  | .dots => ⟨n.kind, n.name, n.mark, n.con, n.items, n.fields, (n.items.length : Int), true, n.of⟩
def okE : GNode → List EI → Prop
  | _, [] => True
  | n, .it nm :: r => okE (EI.stp n (.it nm)) r
  | n, .num nm ds v :: r => Num ds v ∧ okE (EI.stp n (.num nm ds v)) r
  | n, .dots :: r => n.items ≠ [] ∧ n.more = false ∧ okE (EI.stp n .dots) r
def endE (n : GNode) : GNode := if n.more then n else ⟨n.kind, n.name, n.mark, n.con, n.items, n.fields, (n.items.length : Int), n.more, n.of⟩
theorem items_T {L : List GTok} {ks : KS} {l : List EI} {a : Int} {m : GMod} {nd : GNode} (hne : l ≠ []) (hA : Sg L a (sepK (l.map EI.toks) ++ (6, [125]) :: ks)) (hi : nd.items.length + l.length ≤ 1000) (hF : okE nd l) :
    r05_parser_items ⟨L, a, m, 0, 0⟩ nd = some (⟨L, a + (sepK (l.map EI.toks)).length, m, 0, 0⟩, endE (l.foldl EI.stp nd)) := by
  refine T.fin ?_
  unfold r05_parser_items
  refine T.jp (fun q => q = ((⟨L, a + (sepK (l.map EI.toks)).length, m, 0, 0⟩ : GPar), l.foldl EI.stp nd)) (fun J hJ => ?_) fun q hq => ?_
  · let I : GPar × GNode → Prop := fun q => ∃ (rest : List EI) (a1 : Int) (nd1 : GNode), q = (⟨L, a1, m, 0, 0⟩, nd1) ∧ rest ≠ [] ∧ Sg L a1 (sepK (rest.map EI.toks) ++ (6, [125]) :: ks) ∧ a1 + (sepK (rest.map EI.toks)).length = a + (sepK (l.map EI.toks)).length ∧ rest.foldl EI.stp nd1 = l.foldl EI.stp nd ∧ nd1.items.length + rest.length ≤ 1000 ∧ okE nd1 rest
    have hI0 : I (⟨L, a, m, 0, 0⟩, nd) := ⟨l, a, nd, rfl, hne, hA, rfl, rfl, hi, hF⟩
    refine T.lp I (fun q => ((L.length : Int) - q.1.at_).toNat) hI0 (by have := hA.a0; have := hA.len; dsimp only; omega) fun L2 q hq hL => ?_
    obtain ⟨rest, a1, nd1, rfl, hne1, hA1, ha1, hfo, hi1, hF1⟩ := hq
    dsimp only at hL ⊢
    refine T.brT rfl ?_
    cases rest with
    | nil => exact absurd rfl hne1
    | cons x r =>
      have hnext : ∃ k t ks', sepK ((x :: r).map EI.toks) ++ (6, [125]) :: ks = x.toks ++ (k, t) :: ks' ∧ isK k t [40] = false ∧ ((r = [] ∧ k = 6 ∧ t = [125] ∧ ks' = ks) ∨ (r ≠ [] ∧ k = 6 ∧ t = [44] ∧ ks' = sepK (r.map EI.toks) ++ (6, [125]) :: ks)) := by
        cases r with
        | nil => exact ⟨6, [125], ks, rfl, rfl, .inl ⟨rfl, rfl, rfl, rfl⟩⟩
        | cons y r => exact ⟨6, [44], _, by show (x.toks ++ (6, [44]) :: sepK ((y :: r).map EI.toks)) ++ _ = _; rw [List.append_assoc]; rfl, rfl, .inr ⟨by simp, rfl, rfl, rfl⟩⟩
      obtain ⟨k, t, ks', ek, hsep, hcase⟩ := hnext
      rw [ek] at hA1
      have hA2 := hA1.app
      have hA2s := hA2.size
      have hA20 := hA2.a0
      have hA10 := hA1.a0
      have hAl := hA1.len
      have hpos : 1 ≤ x.toks.length := by cases x <;> exact Nat.le_add_left 1 _
      rw [List.length_cons] at hi1
      have hstep : ∀ q : GPar × GNode, q = (⟨L, a1 + x.toks.length, m, 0, 0⟩, EI.stp nd1 x) → okE (EI.stp nd1 x) r → (EI.stp nd1 x).items.length ≤ nd1.items.length + 1 → T (fun r => r = ((⟨L, a + (sepK (l.map EI.toks)).length, m, 0, 0⟩ : GPar), endE (l.foldl EI.stp nd))) (cal (r05_parser_is q.1 (Str.mk [44])) fun y79 => br (!y79.1) (J (y79.2, q.2)) (L2 (y79.2, q.2))) := by
        intro q hq hok hil
        subst hq
        rcases hcase with ⟨hr, hk', ht', hks⟩ | ⟨hr, hk', ht', hks⟩
        · subst hr; subst hk'; subst ht'; subst hks
          refine T.eq (is_no hA2 rfl) (T.brT rfl (hJ _ ?_))
          have e1 : a1 + (x.toks.length : Int) = a + (sepK (l.map EI.toks)).length := ha1
          have e2 : EI.stp nd1 x = l.foldl EI.stp nd := hfo
          rw [← e1, ← e2]
        · subst hk'; subst ht'; subst hks
          refine T.eq (is_yes hA2 rfl) (T.brF rfl (hL _ ⟨r, _, _, rfl, hr, hA2.tl, ?_, hfo, by show (EI.stp nd1 x).items.length + r.length ≤ 1000; omega, hok⟩ (by dsimp only; omega)))
          have e : (sepK ((x :: r).map EI.toks)).length = x.toks.length + ((sepK (r.map EI.toks)).length + 1) := by
            cases r with
            | nil => exact absurd rfl hr
            | cons y r =>
              show (x.toks ++ (6, [44]) :: sepK ((y :: r).map EI.toks)).length = _
              rw [List.length_append, List.length_cons]
          rw [e] at ha1
          omega
      have hal : (addI nd1 ⟨⟨[]⟩, 0, false⟩).items.length = nd1.items.length + 1 := by unfold addI; simp
      cases x with
      | it nm =>
        have hA1' : Sg L a1 ((2, nm) :: (k, t) :: ks') := hA1
        refine T.jp (fun _ => True) (fun J2 h2 => T.br (fun _ => h2 _ trivial) fun _ => h2 _ trivial) fun b _ => ?_
        refine T.jp (fun q => q = (false, (⟨L, a1, m, 0, 0⟩ : GPar))) (fun J3 hJ3 => T.br (fun _ => T.eq (is_no hA1' rfl) (hJ3 _ rfl)) fun _ => hJ3 _ rfl) fun q hq => ?_
        subst hq
        refine T.jp (fun q => q = ((⟨L, a1 + (EI.toks (.it nm)).length, m, 0, 0⟩ : GPar), EI.stp nd1 (.it nm))) (fun J2 hJ2 => ?_) fun q hq => hstep q hq hF1 (by show (addI nd1 _).items.length ≤ _; unfold addI; simp)
        refine T.brF rfl (T.eq (kind_yes hA1') (T.eq (is_no hA1'.tl hsep) (T.jp0 (T.brF rfl (T.abl (by simp only [List.length_singleton]; omega) (hJ2 _ rfl))))))
      | num nm ds v =>
        obtain ⟨hv, hF2⟩ := hF1
        have hA1' : Sg L a1 ((2, nm) :: (6, [40]) :: (3, ds) :: (6, [41]) :: (k, t) :: ks') := hA1
        refine T.jp (fun _ => True) (fun J2 h2 => T.br (fun _ => h2 _ trivial) fun _ => h2 _ trivial) fun b _ => ?_
        refine T.jp (fun q => q = (false, (⟨L, a1, m, 0, 0⟩ : GPar))) (fun J3 hJ3 => T.br (fun _ => T.eq (is_no hA1' rfl) (hJ3 _ rfl)) fun _ => hJ3 _ rfl) fun q hq => ?_
        subst hq
        refine T.jp (fun q => q = ((⟨L, a1 + (EI.toks (.num nm ds v)).length, m, 0, 0⟩ : GPar), EI.stp nd1 (.num nm ds v))) (fun J2 hJ2 => ?_) fun q hq => hstep q hq hF2 (by show (addI nd1 _).items.length ≤ _; unfold addI; simp)
        have e : a1 + ((EI.toks (.num nm ds v)).length : Int) = a1 + 1 + 1 + 1 + 1 := by show a1 + (4 : Int) = _; omega
        rw [e] at hJ2
        refine T.brF rfl (T.eq (kind_yes hA1') (T.eq (is_yes hA1'.tl rfl) (T.jp0 (T.brT rfl (T.eq (number_yes hA1'.tl.tl hv.ne hv.val) (T.eq (must_yes hA1'.tl.tl.tl rfl) (T.abl (by simp only [List.length_singleton]; omega) (hJ2 _ rfl))))))))
      | dots =>
        obtain ⟨h0, hmo, hF2⟩ := hF1
        have hA1' : Sg L a1 ((6, [46, 46, 46]) :: (k, t) :: ks') := hA1
        have hl0 : (0 : Int) < nd1.items.length := by
          have : nd1.items.length ≠ 0 := fun e => h0 (List.eq_nil_of_length_eq_zero e)
          omega
        refine T.jp (fun b => b = true) (fun J2 h2 => T.br (fun _ => h2 _ (by rw [hmo]; rfl)) fun h => absurd hl0 (of_decide_eq_false h)) fun b hb => ?_
        refine T.jp (fun q => q = (true, (⟨L, a1 + 1, m, 0, 0⟩ : GPar))) (fun J3 hJ3 => T.brT hb (T.eq (is_yes hA1' rfl) (hJ3 _ rfl))) fun q hq => ?_
        subst hq
        exact T.jp (fun q => q = ((⟨L, a1 + (EI.toks .dots).length, m, 0, 0⟩ : GPar), EI.stp nd1 .dots)) (fun J2 hJ2 => T.brT rfl (hJ2 _ rfl)) fun q hq => hstep q hq hF2 (Nat.le_succ _)
  · subst hq
    unfold endE
    cases hmf : (l.foldl EI.stp nd).more with
    | true => exact T.brF rfl (T.some (by rw [if_pos rfl]))
    | false => exact T.brT rfl (T.some (by rw [if_neg (by decide)]))
def enumT (l : List EI) : KS := (5, [69, 78, 85, 77, 69, 82, 65, 84, 69, 68]) :: (6, [123]) :: (sepK (l.map EI.toks) ++ [(6, [125])])
theorem base_enum {l : List EI} (hne : l ≠ []) (hl : l.length ≤ 1000) (hF : ∀ μ, okE { zm μ with kind := 3 } l) : BaseK 0 (enumT l) 0 (fun _ => []) (fun μ _ => endE (l.foldl EI.stp { zm μ with kind := 3 })) := by
  refine ⟨fun _ => rfl, ?_⟩
  intro n d L a m k t ks μ h1 h2 h3 hA hk hm
  obtain ⟨n, rfl⟩ : ∃ n', n = n' + 1 := ⟨n - 1, by omega⟩
  rw [base_unf, addN_nil]
  obtain ⟨y, e1, e2, e3⟩ := now_at (m := m) (p := 0) (e := 0) hA
  have a1 := Sg.tl hA
  have a2 : Sg L (a + 1 + 1) (sepK (l.map EI.toks) ++ (6, [125]) :: (k, t) :: ks) := by
    have := Sg.tl a1
    simpa using this
  have hgo := items_T (m := m) (nd := { zm μ with kind := 3 }) hne a2 (by show 0 + _ ≤ _; omega) (hF μ)
  have e : a + ((enumT l).length : Int) = a + 1 + 1 + ((sepK (l.map EI.toks)).length : Int) + 1 := by
    unfold enumT; simp only [List.length_cons, List.length_append, List.length_nil]; omega
  rw [e]
  have no : ∀ s : List UInt8, isK 5 [69, 78, 85, 77, 69, 82, 65, 84, 69, 68] s = false → r05_parser_is ⟨L, a, m, 0, 0⟩ ⟨s⟩ = some (false, ⟨L, a, m, 0, 0⟩) := fun s hs => is_no hA hs
  refine T.fin ?_
  unfold r05_parser_base_F
  exact T.eq e1 (T.brF rfl (T.eq (no _ rfl) (T.brF rfl (T.eq (no _ rfl) (T.brF rfl (T.eq (no _ rfl) (T.brF rfl (T.eq (no _ rfl) (T.brF rfl (T.eq (no _ rfl) (T.brF rfl (T.eq (is_yes hA rfl) (T.brT rfl (T.eq (must_yes a1 rfl) (T.eq hgo (T.eq (must_yes a2.app rfl) (T.some rfl)))))))))))))))))
end Go.Proofs.YtiibmpdjkdjbiaaGreatDoor


namespace Go.Proofs.YtiibmpdjkdjbiaaGreatDoor
open Go.Sy
set_option maxRecDepth 4000
def refs_of (a_m : GMod) (a_at_ : Int) : Option (Int) :=
  br (decide ((a_m.types.length : Int) ≤ a_at_)) (some ((-1 : Int))) (cal (getI a_m.types a_at_) fun y1 => some (y1))

def slices_Index_Lstring_string (a_s : (List Str)) (a_v : Str) : Option (Int) :=
  lp (ι := Int) (fun L2 q1 => br (decide (q1 < (a_s.length : Int))) (cal (getI a_s q1) fun y5 => br (decide (a_v = y5)) (some (q1)) (ck ((q1 + (1 : Int))) <| L2 ((q1 + (1 : Int))))) (some ((-1 : Int)))) (((0 : Int)))

def slices_Contains_Lstring_string (a_s : (List Str)) (a_v : Str) : Option (Bool) :=
  cal (slices_Index_Lstring_string a_s a_v) fun y1 => some ((decide ((0 : Int) ≤ y1)))

def refs_with (a_l : (List Str)) (a_more : (List Str)) : Option ((List Str)) :=
  lp (ι := (List Str) × Int) (fun L2 q1 => br (decide (q1.2 < (a_more.length : Int))) (jp (ι := (List Str)) (fun J12 => cal (getI a_more q1.2) fun y13 => cal (slices_Contains_Lstring_string q1.1 y13) fun y14 => br (!y14) (asr (Nat.ble (q1.1.length + ([y13] : (List Str)).length) 68719476736) <| J12 ((q1.1 ++ ([y13] : (List Str))))) (J12 (q1.1))) (fun q11 => ck ((q1.2 + (1 : Int))) <| L2 (q11, (q1.2 + (1 : Int))))) (some (q1.1))) ((a_l, (0 : Int)))

def refs_refers_c1 (a_n_ : GNode) (a_a1 : (List Str)) : Option ((List Str)) :=
  br (decide (a_n_.kind = (11 : Int))) (cal (refs_with a_a1 ([a_n_.name] : (List Str))) fun y3 => some (y3)) (some (a_a1))

def refs_walk_F (refs_walk' : GMod → Int → (List Bool) → (List Str) → Option ((List Bool) × (List Str))) (a_m : GMod) (a_node : Int) (a_seen : (List Bool)) (a_do__0 : (List Str)) : Option ((List Bool) × (List Str)) :=
  jp (ι := Bool) (fun J3 => br (decide (a_node < (0 : Int))) (J3 (true)) (J3 ((decide ((a_m.nodes.length : Int) ≤ a_node))))) (fun q2 => jp (ι := Bool) (fun J6 => br q2 (J6 (true)) (asr (decide (0 ≤ a_node ∧ a_node < ((a_seen.length : Nat) : Int))) <| cal (a_seen[a_node.toNat]?) fun y9 => J6 (y9))) (fun q5 => br q5 (some (a_seen, a_do__0)) (asr (decide (0 ≤ a_node ∧ a_node < ((a_seen.length : Nat) : Int))) <| cal (a_seen[a_node.toNat]?) fun y11 => cal (getI a_m.nodes a_node) fun y12 => cal (refs_refers_c1 y12 a_do__0) fun y14 => br (decide (y12.kind = (11 : Int))) (some ((a_seen.set a_node.toNat true), y14)) (lp (ι := (List Bool) × Int × (List Str)) (fun L17 q16 => br (decide (q16.2.1 < (y12.fields.length : Int))) (cal (getI y12.fields q16.2.1) fun y27 => cal (refs_walk' a_m y27.ty q16.1 q16.2.2) fun y29 => asr (decide (y29.1.length = q16.1.length)) <| ck ((q16.2.1 + (1 : Int))) <| L17 (y29.1, (q16.2.1 + (1 : Int)), y29.2)) (br (decide (y12.kind = (10 : Int))) (cal (refs_walk' a_m y12.of q16.1 q16.2.2) fun y33 => asr (decide (y33.1.length = q16.1.length)) <| some (y33.1, y33.2)) (some (q16.1, q16.2.2)))) (((a_seen.set a_node.toNat true), (0 : Int), y14))))))
def refs_walk_grp : Nat → (GMod → Int → (List Bool) → (List Str) → Option ((List Bool) × (List Str)))
  | 0 => (fun _ _ _ _ => none)
  | n + 1 => let p := refs_walk_grp n; (refs_walk_F p)
def refs_walk (n : Nat) : GMod → Int → (List Bool) → (List Str) → Option ((List Bool) × (List Str)) := (refs_walk_grp n)

def refs_refers (a_m : GMod) (a_node : Int) : Option ((List Str)) :=
  asr (decide (0 ≤ (a_m.nodes.length : Int) ∧ (a_m.nodes.length : Int) ≤ 68719476736)) <| cal (refs_walk fuel a_m a_node (List.replicate ((a_m.nodes.length : Int)).toNat false) ([] : (List Str))) fun y5 => asr (decide (y5.1.length = (List.replicate ((a_m.nodes.length : Int)).toNat false).length)) <| some (y5.2)

def refs_Find (a_m : GMod) (a_name : Str) : Option (Int) :=
  cal (slices_Index_Lstring_string a_m.names a_name) fun y1 => some (y1)

def refs_Uses (a_m : GMod) (a_node : Int) : Option ((List Int)) :=
  cal (refs_refers a_m a_node) fun y1 => lp (ι := (List Int) × Int) (fun L3 q2 => br (decide (q2.2 < (y1.length : Int))) (jp (ι := (List Int)) (fun J14 => cal (getI y1 q2.2) fun y15 => cal (refs_Find a_m y15) fun y16 => br (decide ((0 : Int) ≤ y16)) (asr (Nat.ble (q2.1.length + ([y16] : (List Int)).length) 68719476736) <| J14 ((q2.1 ++ ([y16] : (List Int))))) (J14 (q2.1))) (fun q13 => ck ((q2.2 + (1 : Int))) <| L3 (q13, (q2.2 + (1 : Int))))) (some (q2.1))) ((([] : (List Int)), (0 : Int)))

def refs_lost_c1 (a_s : Str) (a_a1 : GMod) : Option (Bool) :=
  cal (refs_Find a_a1 a_s) fun y1 => some ((decide (y1 < (0 : Int))))

def slices_IndexFunc_Lstring_string (a_s : (List Str)) (a_f_0 : GMod) : Option (Int) :=
  lp (ι := Int) (fun L2 q1 => br (decide (q1 < (a_s.length : Int))) (cal (getI a_s q1) fun y6 => cal (refs_lost_c1 y6 a_f_0) fun y7 => br y7 (some (q1)) (ck ((q1 + (1 : Int))) <| L2 ((q1 + (1 : Int))))) (some ((-1 : Int)))) (((0 : Int)))

def slices_ContainsFunc_Lstring_string (a_s : (List Str)) (a_f_0 : GMod) : Option (Bool) :=
  cal (slices_IndexFunc_Lstring_string a_s a_f_0) fun y1 => some ((decide ((0 : Int) ≤ y1)))

def refs_lost (a_m : GMod) (a_node : Int) : Option (Bool) :=
  cal (refs_refers a_m a_node) fun y1 => cal (slices_ContainsFunc_Lstring_string y1 a_m) fun y2 => some (y2)

def refs_reaches_F (refs_reaches' : (List (List Int)) → Int → (List Bool) → Option ((List Bool))) (a_uses : (List (List Int))) (a_at_ : Int) (a_seen : (List Bool)) : Option ((List Bool)) :=
  cal (getI a_uses a_at_) fun y1 => lp (ι := (List Bool) × Int) (fun L3 q2 => br (decide (q2.2 < (y1.length : Int))) (jp (ι := (List Bool)) (fun J15 => cal (getI y1 q2.2) fun y16 => asr (decide (0 ≤ y16 ∧ y16 < ((q2.1.length : Nat) : Int))) <| cal (q2.1[y16.toNat]?) fun y18 => br (!y18) (asr (decide (0 ≤ y16 ∧ y16 < ((q2.1.length : Nat) : Int))) <| cal (q2.1[y16.toNat]?) fun y20 => cal (refs_reaches' a_uses y16 (q2.1.set y16.toNat true)) fun y21 => asr (decide (y21.length = q2.1.length)) <| J15 (y21)) (J15 (q2.1))) (fun q14 => ck ((q2.2 + (1 : Int))) <| L3 (q14, (q2.2 + (1 : Int))))) (some (q2.1))) ((a_seen, (0 : Int)))
def refs_reaches_grp : Nat → ((List (List Int)) → Int → (List Bool) → Option ((List Bool)))
  | 0 => (fun _ _ _ => none)
  | n + 1 => let p := refs_reaches_grp n; (refs_reaches_F p)
def refs_reaches (n : Nat) : (List (List Int)) → Int → (List Bool) → Option ((List Bool)) := (refs_reaches_grp n)

def refs_wrong (a_m : GMod) (a_uses : (List (List Int))) : Option (Int × Int) :=
  lp (ι := Int) (fun L2 q1 => br (decide (q1 < (a_m.names.length : Int))) (cal (getI a_m.names q1) fun y49 => cal (refs_Find a_m y49) fun y50 => br (decide (y50 < q1)) (some (q1, (8 : Int))) (ck ((q1 + (1 : Int))) <| L2 ((q1 + (1 : Int))))) (lp (ι := Int) (fun L53 q52 => br (decide (q52 < (a_m.names.length : Int))) (cal (refs_of a_m q52) fun y74 => cal (refs_lost a_m y74) fun y75 => br y75 (some (q52, (9 : Int))) (ck ((q52 + (1 : Int))) <| L53 ((q52 + (1 : Int))))) (lp (ι := Int) (fun L78 q77 => br (decide (q77 < (a_m.names.length : Int))) (asr (decide (0 ≤ (a_m.names.length : Int) ∧ (a_m.names.length : Int) ≤ 68719476736)) <| cal (refs_reaches fuel a_uses q77 (List.replicate ((a_m.names.length : Int)).toNat false)) fun y88 => asr (decide (y88.length = (List.replicate ((a_m.names.length : Int)).toNat false).length)) <| asr (decide (0 ≤ q77 ∧ q77 < ((y88.length : Nat) : Int))) <| cal (y88[q77.toNat]?) fun y91 => br y91 (some (q77, (10 : Int))) (ck ((q77 + (1 : Int))) <| L78 ((q77 + (1 : Int))))) (some ((0 : Int), (0 : Int)))) (((0 : Int))))) (((0 : Int))))) (((0 : Int)))

def slices_Index_Lint_int (a_s : (List Int)) (a_v : Int) : Option (Int) :=
  lp (ι := Int) (fun L2 q1 => br (decide (q1 < (a_s.length : Int))) (cal (getI a_s q1) fun y5 => br (decide (a_v = y5)) (some (q1)) (ck ((q1 + (1 : Int))) <| L2 ((q1 + (1 : Int))))) (some ((-1 : Int)))) (((0 : Int)))

def slices_Contains_Lint_int (a_s : (List Int)) (a_v : Int) : Option (Bool) :=
  cal (slices_Index_Lint_int a_s a_v) fun y1 => some ((decide ((0 : Int) ≤ y1)))

def refs_Order_c1 (a_k : Int) (a_a1 : (List Int)) : Option (Bool × (List Int)) :=
  cal (slices_Contains_Lint_int a_a1 a_k) fun y2 => some ((!y2), a_a1)

def slices_IndexFunc_Lint_int (a_s : (List Int)) (a_f_0 : (List Int)) : Option (Int × (List Int)) :=
  lp (ι := Int × (List Int)) (fun L3 q2 => br (decide (q2.1 < (a_s.length : Int))) (cal (getI a_s q2.1) fun y8 => cal (refs_Order_c1 y8 q2.2) fun y9 => br y9.1 (some (q2.1, y9.2)) (ck ((q2.1 + (1 : Int))) <| L3 ((q2.1 + (1 : Int)), y9.2))) (some ((-1 : Int), q2.2))) (((0 : Int), a_f_0))

def slices_ContainsFunc_Lint_int (a_s : (List Int)) (a_f_0 : (List Int)) : Option (Bool × (List Int)) :=
  cal (slices_IndexFunc_Lint_int a_s a_f_0) fun y2 => some ((decide ((0 : Int) ≤ y2.1)), y2.2)

def refs_Order (a_m : GMod) : Option ((List Int) × Int × Int) :=
  lp (ι := (List (List Int)) × Int) (fun L2 q1 => br (decide (q1.2 < (a_m.names.length : Int))) (cal (refs_of a_m q1.2) fun y65 => cal (refs_Uses a_m y65) fun y66 => asr (Nat.ble (q1.1.length + ([y66] : (List (List Int))).length) 68719476736) <| ck ((q1.2 + (1 : Int))) <| L2 ((q1.1 ++ ([y66] : (List (List Int)))), (q1.2 + (1 : Int)))) (cal (refs_wrong a_m q1.1) fun y71 => br (!decide (y71.2 = (0 : Int))) (some (([] : (List Int)), y71.1, y71.2)) (lp (ι := (List Int)) (fun L75 q74 => br (decide ((q74.length : Int) < (a_m.names.length : Int))) (lp (ι := Int × (List Int)) (fun L102 q101 => br (decide (q101.1 < (a_m.names.length : Int))) (cal (slices_Contains_Lint_int q101.2 q101.1) fun y114 => jp (ι := Bool × (List Int)) (fun J116 => br (!y114) (cal (getI q1.1 q101.1) fun y118 => cal (slices_ContainsFunc_Lint_int y118 q101.2) fun y119 => J116 ((!y119.1), y119.2)) (J116 (false, q101.2))) (fun q115 => br q115.1 (asr (Nat.ble (q115.2.length + ([q101.1] : (List Int)).length) 68719476736) <| L75 ((q115.2 ++ ([q101.1] : (List Int))))) (ck ((q101.1 + (1 : Int))) <| L102 ((q101.1 + (1 : Int)), q115.2)))) (L75 (q101.2))) (((0 : Int), q74))) (some (q74, (0 : Int), (0 : Int)))) ((([] : (List Int))))))) ((([] : (List (List Int))), (0 : Int)))

def slices_Clone_Lstring_string (a_s : (List Str)) : Option ((List Str)) :=
  br a_s.isEmpty (some (([] : (List Str)))) (asr (Nat.ble (([] : (List Str)).length + a_s.length) 68719476736) <| some ((([] : (List Str)) ++ a_s)))

def tags_Universal (a_kind : Int) : Option (Tag) :=
  jp (ι := Int) (fun J3 => br (decide (a_kind = (1 : Int))) (J3 ((1 : Int))) (br (decide (a_kind = (2 : Int))) (J3 ((2 : Int))) (br (decide (a_kind = (5 : Int))) (J3 ((4 : Int))) (br (decide (a_kind = (4 : Int))) (J3 ((5 : Int))) (br (decide (a_kind = (3 : Int))) (J3 ((10 : Int))) (br (decide (a_kind = (6 : Int))) (J3 ((12 : Int))) (jp (ι := Bool) (fun J5 => br (decide (a_kind = (7 : Int))) (J5 ((decide (a_kind = (7 : Int))))) (J5 ((decide (a_kind = (10 : Int)))))) (fun q4 => br q4 (J3 ((16 : Int))) (br (decide (a_kind = (8 : Int))) (J3 ((17 : Int))) (J3 ((0 : Int)))))))))))) (fun q2 => some ((Tag.mk (0 : Int) q2)))

def table_types_add (a_t : GTmk) (a_x : GTyp) : Option (Int × GTmk) :=
  jp (ι := GTmk) (fun J3 => asr (Nat.ble (a_t.types.l.length + ([a_x] : (List GTyp)).length) 68719476736) <| J3 ((GTmk.mk (GTys.mk (a_t.types.l ++ ([a_x] : (List GTyp)))) a_t.m))) (fun q2 => ck ((((q2.types.l.length : Nat) : Int) - (1 : Int))) <| some ((((q2.types.l.length : Nat) : Int) - (1 : Int)), q2))

def bounds_checked_both (a_c : GCkd) : Option (Bool) :=
  jp (ι := Bool) (fun J2 => br a_c.con.has (J2 (a_c.con.hasLow)) (J2 (false))) (fun q1 => jp (ι := Bool) (fun J5 => br q1 (J5 (a_c.con.hasHigh)) (J5 (false))) (fun q4 => some (q4)))

def bounds_checked_crossed (a_c : GCkd) : Option (Bool) :=
  cal (bounds_checked_both a_c) fun y1 => jp (ι := Bool) (fun J3 => br y1 (J3 ((decide (a_c.con.high < a_c.con.low)))) (J3 (false))) (fun q2 => some (q2))

def bounds_checked_lengths (a_c : GCkd) : Option (Bool) :=
  jp (ι := Bool) (fun J2 => br a_c.con.hasLow (J2 ((decide ((0 : Int) ≤ a_c.con.low)))) (J2 (false))) (fun q1 => jp (ι := Bool) (fun J5 => br q1 (J5 ((decide (a_c.con.low ≤ (70000 : Int))))) (J5 (false))) (fun q4 => jp (ι := Bool) (fun J8 => br q4 (jp (ι := Bool) (fun J11 => br (!a_c.con.hasHigh) (J11 (true)) (jp (ι := Bool) (fun J14 => br (decide ((0 : Int) ≤ a_c.con.high)) (J14 ((decide (a_c.con.high ≤ (70000 : Int))))) (J14 (false))) (fun q13 => J11 (q13)))) (fun q10 => J8 (q10))) (J8 (false))) (fun q7 => some (q7))))

def bounds_Check (a_c : GCon) (a_size : Bool) : Option (Int) :=
  jp (ι := Bool) (fun J3 => br a_c.has (cal (bounds_checked_crossed (GCkd.mk a_c)) fun y5 => jp (ι := Bool) (fun J7 => br y5 (J7 (true)) (jp (ι := Bool) (fun J10 => br a_size (cal (bounds_checked_lengths (GCkd.mk a_c)) fun y12 => J10 ((!y12))) (J10 (false))) (fun q9 => J7 (q9)))) (fun q6 => J3 (q6))) (J3 (false))) (fun q2 => br q2 (some ((11 : Int))) (some ((0 : Int))))

def table_root (a_n_ : Int) (a_l : (List GItem)) : Option (Int) :=
  some ((max (0 : Int) (min a_n_ (a_l.length : Int))))

def table_has_c1 (a_x : GItem) (a_a1 : Int) : Option (Bool) :=
  jp (ι := Bool) (fun J2 => br a_x.has (J2 ((decide (a_x.number = a_a1)))) (J2 (false))) (fun q1 => some (q1))

def slices_IndexFunc_Lapi_Item_api_Item (a_s : (List GItem)) (a_f_0 : Int) : Option (Int) :=
  lp (ι := Int) (fun L2 q1 => br (decide (q1 < (a_s.length : Int))) (cal (getI a_s q1) fun y6 => cal (table_has_c1 y6 a_f_0) fun y7 => br y7 (some (q1)) (ck ((q1 + (1 : Int))) <| L2 ((q1 + (1 : Int))))) (some ((-1 : Int)))) (((0 : Int)))

def slices_ContainsFunc_Lapi_Item_api_Item (a_s : (List GItem)) (a_f_0 : Int) : Option (Bool) :=
  cal (slices_IndexFunc_Lapi_Item_api_Item a_s a_f_0) fun y1 => some ((decide ((0 : Int) ≤ y1)))

def table_has (a_l : (List GItem)) (a_v : Int) : Option (Bool) :=
  cal (slices_ContainsFunc_Lapi_Item_api_Item a_l a_v) fun y1 => some (y1)

def table_behind (a_l : (List GItem)) : Option (Int × Bool) :=
  br (decide ((a_l.length : Int) = (0 : Int))) (some ((0 : Int), true)) (cal (getI a_l (0 : Int)) fun y1 => lp (ι := Int × Int) (fun L3 q2 => br (decide (q2.2 < (a_l.length : Int))) (cal (getI a_l q2.2) fun y8 => ck ((q2.2 + (1 : Int))) <| L3 ((max q2.1 y8.number), (q2.2 + (1 : Int)))) (ck ((q2.1 + (1 : Int))) <| some ((q2.1 + (1 : Int)), (decide (q2.1 < (9223372036854775807 : Int)))))) ((y1.number, (0 : Int))))

def table_numbered (a_n_ : GNode) : Option ((List GItem) × Bool) :=
  cal (table_root a_n_.root a_n_.items) fun y1 => lp (ι := (List GItem) × Int × Int) (fun L3 q2 => br (decide (q2.2.2 < (a_n_.items.length : Int))) (cal (getI a_n_.items q2.2.2) fun y24 => jp (ι := Int × Bool × GItem) (fun J27 => br y24.has (J27 (q2.2.1, true, y24)) (br (decide (q2.2.2 < y1)) (lp (ι := Int) (fun L29 q28 => asr (decide (0 ≤ (0 : Int) ∧ (0 : Int) ≤ y1 ∧ y1 ≤ (a_n_.items.length : Int))) <| cal (table_has ((a_n_.items.take (y1).toNat).drop (0 : Int).toNat) q28) fun y35 => br y35 (ck ((q28 + (1 : Int))) <| L29 ((q28 + (1 : Int)))) (ck ((q28 + (1 : Int))) <| J27 ((q28 + (1 : Int)), true, { y24 with number := q28 }))) ((q2.2.1))) (cal (table_behind q2.1) fun y39 => J27 (q2.2.1, y39.2, { y24 with number := y39.1 })))) (fun q26 => br (!q26.2.1) (some (([] : (List GItem)), false)) (asr (Nat.ble (q2.1.length + ([(GItem.mk q26.2.2.name q26.2.2.number false)] : (List GItem)).length) 68719476736) <| ck ((q2.2.2 + (1 : Int))) <| L3 ((q2.1 ++ ([(GItem.mk q26.2.2.name q26.2.2.number false)] : (List GItem))), q26.1, (q2.2.2 + (1 : Int)))))) (some (q2.1, true))) ((([] : (List GItem)), (0 : Int), (0 : Int)))

def table_items_c1 (a_y : GItem) (a_a1 : GItem) : Option (Bool) :=
  jp (ι := Bool) (fun J2 => br (decide (a_y.name = a_a1.name)) (J2 (true)) (J2 ((decide (a_y.number = a_a1.number))))) (fun q1 => some (q1))

def slices_IndexFunc_Lapi_Item_api_Item_1 (a_s : (List GItem)) (a_f_0 : GItem) : Option (Int) :=
  lp (ι := Int) (fun L2 q1 => br (decide (q1 < (a_s.length : Int))) (cal (getI a_s q1) fun y6 => cal (table_items_c1 y6 a_f_0) fun y7 => br y7 (some (q1)) (ck ((q1 + (1 : Int))) <| L2 ((q1 + (1 : Int))))) (some ((-1 : Int)))) (((0 : Int)))

def slices_ContainsFunc_Lapi_Item_api_Item_1 (a_s : (List GItem)) (a_f_0 : GItem) : Option (Bool) :=
  cal (slices_IndexFunc_Lapi_Item_api_Item_1 a_s a_f_0) fun y1 => some ((decide ((0 : Int) ≤ y1)))

def table_items (a_n_ : GNode) : Option ((List GItem) × Int) :=
  cal (table_numbered a_n_) fun y1 => br (!y1.2) (some (([] : (List GItem)), (11 : Int))) (cal (table_root a_n_.root a_n_.items) fun y2 => lp (ι := Int) (fun L4 q3 => br (decide (q3 < (y1.1.length : Int))) (cal (getI y1.1 q3) fun y18 => asr (decide (0 ≤ (0 : Int) ∧ (0 : Int) ≤ q3 ∧ q3 ≤ (y1.1.length : Int))) <| cal (slices_ContainsFunc_Lapi_Item_api_Item_1 ((y1.1.take (q3).toNat).drop (0 : Int).toNat) y18) fun y21 => jp (ι := Bool) (fun J23 => br y21 (J23 (true)) (jp (ι := Bool) (fun J26 => br (decide (y2 < q3)) (ck ((q3 - (1 : Int))) <| cal (getI y1.1 (q3 - (1 : Int))) fun y29 => J26 ((decide (y18.number ≤ y29.number)))) (J26 (false))) (fun q25 => J23 (q25)))) (fun q22 => br q22 (some (([] : (List GItem)), (8 : Int))) (ck ((q3 + (1 : Int))) <| L4 ((q3 + (1 : Int)))))) (some (y1.1, (0 : Int)))) (((0 : Int))))

def table_maker_automatic_c1 (a_f : GFld) (a_a1 : GTmk) : Option (Bool × GTmk) :=
  jp (ι := Bool) (fun J3 => br (decide ((0 : Int) ≤ a_f.ty)) (J3 ((decide (a_f.ty < (a_a1.m.nodes.length : Int))))) (J3 (false))) (fun q2 => jp (ι := Bool) (fun J6 => br q2 (cal (getI a_a1.m.nodes a_f.ty) fun y8 => J6 (y8.mark.has)) (J6 (false))) (fun q5 => some (q5, a_a1)))

def slices_IndexFunc_Lapi_Field_api_Field (a_s : (List GFld)) (a_f_0 : GTmk) : Option (Int × GTmk) :=
  lp (ι := Int × GTmk) (fun L3 q2 => br (decide (q2.1 < (a_s.length : Int))) (cal (getI a_s q2.1) fun y7 => cal (table_maker_automatic_c1 y7 q2.2) fun y8 => br y8.1 (some (q2.1, y8.2)) (ck ((q2.1 + (1 : Int))) <| L3 ((q2.1 + (1 : Int)), y8.2))) (some ((-1 : Int), q2.2))) (((0 : Int), a_f_0))

def slices_ContainsFunc_Lapi_Field_api_Field (a_s : (List GFld)) (a_f_0 : GTmk) : Option (Bool × GTmk) :=
  cal (slices_IndexFunc_Lapi_Field_api_Field a_s a_f_0) fun y2 => some ((decide ((0 : Int) ≤ y2.1)), y2.2)

def table_maker_automatic (a_x : GTmk) (a_n_ : GNode) : Option (Bool × GTmk) :=
  jp (ι := Bool × GTmk) (fun J3 => br (decide (a_x.m.tagging = (2 : Int))) (cal (slices_ContainsFunc_Lapi_Field_api_Field a_n_.fields a_x) fun y5 => J3 ((!y5.1), y5.2)) (J3 (false, a_x))) (fun q2 => some (q2.1, q2.2))

def table_maker_field_c1 (a_y : GFld) (a_a1 : GFld) : Option (Bool × GFld) :=
  some ((decide (a_y.name = a_a1.name)), a_a1)

def slices_IndexFunc_Lapi_Field_api_Field_1 (a_s : (List GFld)) (a_f_0 : GFld) : Option (Int × GFld) :=
  lp (ι := Int × GFld) (fun L2 q1 => br (decide (q1.1 < (a_s.length : Int))) (cal (getI a_s q1.1) fun y6 => cal (table_maker_field_c1 y6 q1.2) fun y7 => br y7.1 (some (q1.1, y7.2)) (ck ((q1.1 + (1 : Int))) <| L2 ((q1.1 + (1 : Int)), y7.2))) (some ((-1 : Int), q1.2))) (((0 : Int), a_f_0))

def slices_ContainsFunc_Lapi_Field_api_Field_1 (a_s : (List GFld)) (a_f_0 : GFld) : Option (Bool × GFld) :=
  cal (slices_IndexFunc_Lapi_Field_api_Field_1 a_s a_f_0) fun y1 => some ((decide ((0 : Int) ≤ y1.1)), y1.2)

def slices_Clone_Lbyte_byte (a_s : (List UInt8)) : Option ((List UInt8)) :=
  br a_s.isEmpty (some (([] : (List UInt8)))) (asr (Nat.ble (([] : (List UInt8)).length + a_s.length) 68719476736) <| some ((([] : (List UInt8)) ++ a_s)))

def bounds_Within (a_c : GCon) (a_v : Int) : Option (Bool) :=
  jp (ι := Bool) (fun J2 => br (!a_c.has) (J2 (true)) (jp (ι := Bool) (fun J5 => br (!a_c.hasLow) (J5 (true)) (J5 ((decide (a_c.low ≤ a_v))))) (fun q4 => jp (ι := Bool) (fun J8 => br q4 (jp (ι := Bool) (fun J11 => br (!a_c.hasHigh) (J11 (true)) (J11 ((decide (a_v ≤ a_c.high))))) (fun q10 => J8 (q10))) (J8 (false))) (fun q7 => J2 (q7))))) (fun q1 => some (q1))

def utf8_word_Lbyte (a_s : (List UInt8)) : Option (UInt64) :=
  cal (getI a_s (0 : Int)) fun y1 => cal (getI a_s (1 : Int)) fun y2 => asr (Nat.ble (8 : UInt64).toNat 64) <| cal (getI a_s (2 : Int)) fun y4 => asr (Nat.ble (16 : UInt64).toNat 64) <| cal (getI a_s (3 : Int)) fun y6 => asr (Nat.ble (24 : UInt64).toNat 64) <| cal (getI a_s (4 : Int)) fun y8 => asr (Nat.ble (32 : UInt64).toNat 64) <| cal (getI a_s (5 : Int)) fun y10 => asr (Nat.ble (40 : UInt64).toNat 64) <| cal (getI a_s (6 : Int)) fun y12 => asr (Nat.ble (48 : UInt64).toNat 64) <| cal (getI a_s (7 : Int)) fun y14 => asr (Nat.ble (56 : UInt64).toNat 64) <| some ((((((((y1.toUInt64 ||| (shl64 y2.toUInt64 (8 : UInt64).toNat)) ||| (shl64 y4.toUInt64 (16 : UInt64).toNat)) ||| (shl64 y6.toUInt64 (24 : UInt64).toNat)) ||| (shl64 y8.toUInt64 (32 : UInt64).toNat)) ||| (shl64 y10.toUInt64 (40 : UInt64).toNat)) ||| (shl64 y12.toUInt64 (48 : UInt64).toNat)) ||| (shl64 y14.toUInt64 (56 : UInt64).toNat)))

def utf8_Valid (a_p : (List UInt8)) : Option (Bool) :=
  asr (decide (0 ≤ (a_p.length : Int) ∧ (a_p.length : Int) ≤ (a_p.length : Int))) <| lp (ι := (List UInt8)) (fun L3 q2 => br (decide ((0 : Int) < (q2.length : Int))) (cal (getI q2 (0 : Int)) fun y99 => br (decide (y99 < (128 : UInt8))) (asr (decide (0 ≤ (1 : Int) ∧ (1 : Int) ≤ (q2.length : Int) ∧ (q2.length : Int) ≤ (q2.length : Int))) <| jp (ι := Bool) (fun J102 => br (decide ((8 : Int) < (((q2.take ((q2.length : Int)).toNat).drop ((1 : Int)).toNat).length : Int))) (cal (utf8_word_Lbyte ((q2.take ((q2.length : Int)).toNat).drop ((1 : Int)).toNat)) fun y104 => J102 ((decide ((y104 &&& (9259542123273814144 : UInt64)) = (0 : UInt64))))) (J102 (false))) (fun q101 => jp (ι := (List UInt8)) (fun J106 => br q101 (asr (decide (0 ≤ (8 : Int) ∧ (8 : Int) ≤ (((q2.take ((q2.length : Int)).toNat).drop ((1 : Int)).toNat).length : Int) ∧ (((q2.take ((q2.length : Int)).toNat).drop ((1 : Int)).toNat).length : Int) ≤ (((q2.take ((q2.length : Int)).toNat).drop ((1 : Int)).toNat).length : Int))) <| jp (ι := Bool) (fun J109 => br (decide ((16 : Int) < (((((q2.take ((q2.length : Int)).toNat).drop ((1 : Int)).toNat).take ((((q2.take ((q2.length : Int)).toNat).drop ((1 : Int)).toNat).length : Int)).toNat).drop ((8 : Int)).toNat).length : Int))) (asr (decide (0 ≤ (8 : Int) ∧ (8 : Int) ≤ (((((q2.take ((q2.length : Int)).toNat).drop ((1 : Int)).toNat).take ((((q2.take ((q2.length : Int)).toNat).drop ((1 : Int)).toNat).length : Int)).toNat).drop ((8 : Int)).toNat).length : Int) ∧ (((((q2.take ((q2.length : Int)).toNat).drop ((1 : Int)).toNat).take ((((q2.take ((q2.length : Int)).toNat).drop ((1 : Int)).toNat).length : Int)).toNat).drop ((8 : Int)).toNat).length : Int) ≤ (((((q2.take ((q2.length : Int)).toNat).drop ((1 : Int)).toNat).take ((((q2.take ((q2.length : Int)).toNat).drop ((1 : Int)).toNat).length : Int)).toNat).drop ((8 : Int)).toNat).length : Int))) <| cal (utf8_word_Lbyte ((((q2.take ((q2.length : Int)).toNat).drop ((1 : Int)).toNat).take ((((q2.take ((q2.length : Int)).toNat).drop ((1 : Int)).toNat).length : Int)).toNat).drop ((8 : Int)).toNat)) fun y112 => cal (utf8_word_Lbyte ((((((q2.take ((q2.length : Int)).toNat).drop ((1 : Int)).toNat).take ((((q2.take ((q2.length : Int)).toNat).drop ((1 : Int)).toNat).length : Int)).toNat).drop ((8 : Int)).toNat).take ((((((q2.take ((q2.length : Int)).toNat).drop ((1 : Int)).toNat).take ((((q2.take ((q2.length : Int)).toNat).drop ((1 : Int)).toNat).length : Int)).toNat).drop ((8 : Int)).toNat).length : Int)).toNat).drop ((8 : Int)).toNat)) fun y113 => J109 ((decide (((y112 ||| y113) &&& (9259542123273814144 : UInt64)) = (0 : UInt64))))) (J109 (false))) (fun q108 => br q108 (asr (decide (0 ≤ (16 : Int) ∧ (16 : Int) ≤ (((((q2.take ((q2.length : Int)).toNat).drop ((1 : Int)).toNat).take ((((q2.take ((q2.length : Int)).toNat).drop ((1 : Int)).toNat).length : Int)).toNat).drop ((8 : Int)).toNat).length : Int) ∧ (((((q2.take ((q2.length : Int)).toNat).drop ((1 : Int)).toNat).take ((((q2.take ((q2.length : Int)).toNat).drop ((1 : Int)).toNat).length : Int)).toNat).drop ((8 : Int)).toNat).length : Int) ≤ (((((q2.take ((q2.length : Int)).toNat).drop ((1 : Int)).toNat).take ((((q2.take ((q2.length : Int)).toNat).drop ((1 : Int)).toNat).length : Int)).toNat).drop ((8 : Int)).toNat).length : Int))) <| lp (ι := (List UInt8)) (fun L116 q115 => jp (ι := Bool) (fun J129 => br (decide ((32 : Int) < (q115.length : Int))) (asr (decide (0 ≤ (8 : Int) ∧ (8 : Int) ≤ (q115.length : Int) ∧ (q115.length : Int) ≤ (q115.length : Int))) <| asr (decide (0 ≤ (16 : Int) ∧ (16 : Int) ≤ (q115.length : Int) ∧ (q115.length : Int) ≤ (q115.length : Int))) <| asr (decide (0 ≤ (24 : Int) ∧ (24 : Int) ≤ (q115.length : Int) ∧ (q115.length : Int) ≤ (q115.length : Int))) <| cal (utf8_word_Lbyte q115) fun y134 => cal (utf8_word_Lbyte ((q115.take ((q115.length : Int)).toNat).drop ((8 : Int)).toNat)) fun y135 => cal (utf8_word_Lbyte ((q115.take ((q115.length : Int)).toNat).drop ((16 : Int)).toNat)) fun y136 => cal (utf8_word_Lbyte ((q115.take ((q115.length : Int)).toNat).drop ((24 : Int)).toNat)) fun y137 => J129 ((decide ((((y134 ||| y135) ||| (y136 ||| y137)) &&& (9259542123273814144 : UInt64)) = (0 : UInt64))))) (J129 (false))) (fun q128 => br q128 (asr (decide (0 ≤ (32 : Int) ∧ (32 : Int) ≤ (q115.length : Int) ∧ (q115.length : Int) ≤ (q115.length : Int))) <| L116 (((q115.take ((q115.length : Int)).toNat).drop ((32 : Int)).toNat))) (J106 (q115)))) ((((((((q2.take ((q2.length : Int)).toNat).drop ((1 : Int)).toNat).take ((((q2.take ((q2.length : Int)).toNat).drop ((1 : Int)).toNat).length : Int)).toNat).drop ((8 : Int)).toNat).take ((((((q2.take ((q2.length : Int)).toNat).drop ((1 : Int)).toNat).take ((((q2.take ((q2.length : Int)).toNat).drop ((1 : Int)).toNat).length : Int)).toNat).drop ((8 : Int)).toNat).length : Int)).toNat).drop ((16 : Int)).toNat)))) (J106 (((((q2.take ((q2.length : Int)).toNat).drop ((1 : Int)).toNat).take ((((q2.take ((q2.length : Int)).toNat).drop ((1 : Int)).toNat).length : Int)).toNat).drop ((8 : Int)).toNat))))) (J106 (((q2.take ((q2.length : Int)).toNat).drop ((1 : Int)).toNat)))) (fun q105 => L3 (q105)))) (asr (Nat.ble (4 : UInt64).toNat 8) <| asr (Nat.blt (shr8 (tab1 y99) (4 : UInt64).toNat).toNat 16) <| br (decide ((((tab1 y99) &&& (7 : UInt8)).toNat : Int) = (2 : Int))) (jp (ι := Bool) (fun J144 => br (decide ((q2.length : Int) < (2 : Int))) (J144 (true)) (cal (getI q2 (1 : Int)) fun y146 => J144 ((decide (y146 < (tab2 (shr8 (tab1 y99) (4 : UInt64).toNat)).lo))))) (fun q143 => jp (ι := Bool) (fun J148 => br q143 (J148 (true)) (cal (getI q2 (1 : Int)) fun y150 => J148 ((decide ((tab2 (shr8 (tab1 y99) (4 : UInt64).toNat)).hi < y150))))) (fun q147 => br q147 (some (false)) (asr (decide (0 ≤ (2 : Int) ∧ (2 : Int) ≤ (q2.length : Int) ∧ (q2.length : Int) ≤ (q2.length : Int))) <| L3 (((q2.take ((q2.length : Int)).toNat).drop ((2 : Int)).toNat)))))) (br (decide ((((tab1 y99) &&& (7 : UInt8)).toNat : Int) = (3 : Int))) (jp (ι := Bool) (fun J153 => br (decide ((q2.length : Int) < (3 : Int))) (J153 (true)) (cal (getI q2 (1 : Int)) fun y155 => J153 ((decide (y155 < (tab2 (shr8 (tab1 y99) (4 : UInt64).toNat)).lo))))) (fun q152 => jp (ι := Bool) (fun J157 => br q152 (J157 (true)) (cal (getI q2 (1 : Int)) fun y159 => J157 ((decide ((tab2 (shr8 (tab1 y99) (4 : UInt64).toNat)).hi < y159))))) (fun q156 => jp (ι := Bool) (fun J161 => br q156 (J161 (true)) (cal (getI q2 (2 : Int)) fun y163 => J161 ((decide (y163 < (128 : UInt8)))))) (fun q160 => jp (ι := Bool) (fun J165 => br q160 (J165 (true)) (cal (getI q2 (2 : Int)) fun y167 => J165 ((decide ((191 : UInt8) < y167))))) (fun q164 => br q164 (some (false)) (asr (decide (0 ≤ (3 : Int) ∧ (3 : Int) ≤ (q2.length : Int) ∧ (q2.length : Int) ≤ (q2.length : Int))) <| L3 (((q2.take ((q2.length : Int)).toNat).drop ((3 : Int)).toNat)))))))) (br (decide ((((tab1 y99) &&& (7 : UInt8)).toNat : Int) = (4 : Int))) (jp (ι := Bool) (fun J170 => br (decide ((q2.length : Int) < (4 : Int))) (J170 (true)) (cal (getI q2 (1 : Int)) fun y172 => J170 ((decide (y172 < (tab2 (shr8 (tab1 y99) (4 : UInt64).toNat)).lo))))) (fun q169 => jp (ι := Bool) (fun J174 => br q169 (J174 (true)) (cal (getI q2 (1 : Int)) fun y176 => J174 ((decide ((tab2 (shr8 (tab1 y99) (4 : UInt64).toNat)).hi < y176))))) (fun q173 => jp (ι := Bool) (fun J178 => br q173 (J178 (true)) (cal (getI q2 (2 : Int)) fun y180 => J178 ((decide (y180 < (128 : UInt8)))))) (fun q177 => jp (ι := Bool) (fun J182 => br q177 (J182 (true)) (cal (getI q2 (2 : Int)) fun y184 => J182 ((decide ((191 : UInt8) < y184))))) (fun q181 => jp (ι := Bool) (fun J186 => br q181 (J186 (true)) (cal (getI q2 (3 : Int)) fun y188 => J186 ((decide (y188 < (128 : UInt8)))))) (fun q185 => jp (ι := Bool) (fun J190 => br q185 (J190 (true)) (cal (getI q2 (3 : Int)) fun y192 => J190 ((decide ((191 : UInt8) < y192))))) (fun q189 => br q189 (some (false)) (asr (decide (0 ≤ (4 : Int) ∧ (4 : Int) ≤ (q2.length : Int) ∧ (q2.length : Int) ≤ (q2.length : Int))) <| L3 (((q2.take ((q2.length : Int)).toNat).drop ((4 : Int)).toNat)))))))))) (some (false)))))) (some (true))) (((a_p.take ((a_p.length : Int)).toNat)))

def table_maker_standard_c1 (a_y : GItem) (a_a1 : Val) : Option (Bool × Val) :=
  some ((decide (a_y.name = (Str.mk a_a1.b))), a_a1)

def slices_IndexFunc_Lapi_Item_api_Item_2 (a_s : (List GItem)) (a_f_0 : Val) : Option (Int × Val) :=
  lp (ι := Int × Val) (fun L2 q1 => br (decide (q1.1 < (a_s.length : Int))) (cal (getI a_s q1.1) fun y6 => cal (table_maker_standard_c1 y6 q1.2) fun y7 => br y7.1 (some (q1.1, y7.2)) (ck ((q1.1 + (1 : Int))) <| L2 ((q1.1 + (1 : Int)), y7.2))) (some ((-1 : Int), q1.2))) (((0 : Int), a_f_0))

def table_maker_standard (a_x : GTmk) (a_at_ : Int) (a_v : Val) : Option (Val × Bool × GTmk) :=
  asr (decide (0 ≤ a_at_ ∧ a_at_ < ((a_x.types.l.length : Nat) : Int))) <| cal (a_x.types.l[a_at_.toNat]?) fun y5 => br (!decide (a_v.kind = y5.kind)) (some ((Val.mk (0 : Int) (0 : Int) ([] : (List UInt8)) ([] : (List Val)) (0 : Int) ([] : (List Raw))), false, a_x)) (cal (slices_Clone_Lbyte_byte a_v.b) fun y7 => jp (ι := Val) (fun J9 => jp (ι := Bool) (fun J11 => br (decide (y5.kind = (1 : Int))) (J11 ((decide (y5.kind = (1 : Int))))) (J11 ((decide (y5.kind = (4 : Int)))))) (fun q10 => br q10 (some ((Val.mk a_v.kind a_v.n y7 a_v.l a_v.rule a_v.more), true, a_x)) (br (decide (y5.kind = (2 : Int))) (cal (bounds_Within y5.con a_v.n) fun y14 => some ((Val.mk a_v.kind a_v.n y7 a_v.l a_v.rule a_v.more), y14, a_x)) (br (decide (y5.kind = (5 : Int))) (cal (bounds_Within y5.con (y7.length : Int)) fun y17 => some ((Val.mk a_v.kind a_v.n y7 a_v.l a_v.rule a_v.more), y17, a_x)) (br (decide (y5.kind = (6 : Int))) (cal (bounds_Within y5.con (y7.length : Int)) fun y20 => jp (ι := Bool) (fun J22 => br y20 (cal (utf8_Valid y7) fun y24 => J22 (y24)) (J22 (false))) (fun q21 => some ((Val.mk a_v.kind a_v.n y7 a_v.l a_v.rule a_v.more), q21, a_x))) (br (decide (y5.kind = (3 : Int))) (cal (table_root y5.root y5.items) fun y25 => asr (decide (0 ≤ (0 : Int) ∧ (0 : Int) ≤ y25 ∧ y25 ≤ (y5.items.length : Int))) <| cal (slices_IndexFunc_Lapi_Item_api_Item_2 ((y5.items.take (y25).toNat).drop (0 : Int).toNat) (Val.mk a_v.kind a_v.n y7 a_v.l a_v.rule a_v.more)) fun y27 => br (decide ((0 : Int) ≤ y27.1)) (cal (getI y5.items y27.1) fun y28 => some ((Val.mk (3 : Int) y28.number ([] : (List UInt8)) ([] : (List Val)) (0 : Int) ([] : (List Raw))), true, a_x)) (J9 (y27.2))) (J9 ((Val.mk a_v.kind a_v.n y7 a_v.l a_v.rule a_v.more))))))))) (fun q8 => some ((Val.mk (0 : Int) (0 : Int) ([] : (List UInt8)) ([] : (List Val)) (0 : Int) ([] : (List Raw))), false, a_x)))

def table_maker_soft (a_x : GTmk) (a_at_ : Int) : Option (Int × GTmk) :=
  asr (decide (0 ≤ a_at_ ∧ a_at_ < ((a_x.types.l.length : Nat) : Int))) <| cal (a_x.types.l[a_at_.toNat]?) fun y3 => br (decide ((0 : Int) < (y3.tags.length : Int))) (some ((1 : Int), a_x)) (some ((0 : Int), a_x))

def tags_Wrap (a_tags : (List Tag)) (a_number : Int) (a_mode : Int) : Option ((List Tag) × Int) :=
  jp (ι := Bool) (fun J2 => br (decide (a_number < (0 : Int))) (J2 (true)) (J2 ((decide ((268435456 : Int) < a_number))))) (fun q1 => jp (ι := Bool) (fun J5 => br q1 (J5 (true)) (jp (ι := Bool) (fun J8 => br (decide (a_mode = (1 : Int))) (J8 ((decide ((a_tags.length : Int) = (0 : Int))))) (J8 (false))) (fun q7 => J5 (q7)))) (fun q4 => br q4 (some (([] : (List Tag)), (12 : Int))) (jp (ι := (List Tag)) (fun J11 => br (decide (a_mode = (1 : Int))) (asr (decide (0 ≤ (1 : Int) ∧ (1 : Int) ≤ (a_tags.length : Int) ∧ (a_tags.length : Int) ≤ (a_tags.length : Int))) <| J11 (((a_tags.take ((a_tags.length : Int)).toNat).drop ((1 : Int)).toNat))) (J11 (a_tags))) (fun q10 => cal (slices_Concat_Lapi_Tag_api_Tag ([([(Tag.mk (2 : Int) a_number)] : (List Tag)), q10] : (List (List Tag)))) fun y15 => some (y15, (0 : Int))))))

def table_maker_wrap (a_x : GTmk) (a_at_ : Int) (a_number : Int) (a_mode : Int) : Option (Int × GTmk) :=
  asr (decide (0 ≤ a_at_ ∧ a_at_ < ((a_x.types.l.length : Nat) : Int))) <| cal (a_x.types.l[a_at_.toNat]?) fun y3 => cal (tags_Wrap y3.tags a_number a_mode) fun y4 => jp (ι := GTmk) (fun J6 => br (decide (y4.2 = (0 : Int))) (asr (decide (0 ≤ a_at_ ∧ a_at_ < ((a_x.types.l.length : Nat) : Int))) <| cal (a_x.types.l[a_at_.toNat]?) fun y8 => J6 ((GTmk.mk (GTys.mk (a_x.types.l.set a_at_.toNat ({ y8 with tags := y4.1 }))) a_x.m))) (J6 (a_x))) (fun q5 => some (y4.2, q5))

def table_types_wild_c1 (a_x : GTyp) (a_a1 : Bool) : Option (Bool) :=
  jp (ι := Bool) (fun J2 => br a_a1 (J2 (true)) (jp (ι := Bool) (fun J5 => br (decide (a_x.kind = (9 : Int))) (J5 ((decide ((a_x.tags.length : Int) = (0 : Int))))) (J5 (false))) (fun q4 => jp (ι := Bool) (fun J8 => br q4 (J8 (a_x.more)) (J8 (false))) (fun q7 => J2 (q7))))) (fun q1 => some (q1))

def table_types_inner_F (table_types_inner' : GTmk → Int → Int → Bool → Option (GTmk × Int × Bool)) (a_t : GTmk) (a_at_ : Int) (a_left : Int) (a_do__0 : Bool) : Option (GTmk × Int × Bool) :=
  jp (ι := Bool) (fun J3 => br (decide (a_at_ < (0 : Int))) (J3 (true)) (J3 ((decide (((a_t.types.l.length : Nat) : Int) ≤ a_at_))))) (fun q2 => jp (ι := Bool) (fun J6 => br q2 (J6 (true)) (J6 ((decide (a_left = (0 : Int)))))) (fun q5 => br q5 (some (a_t, a_left, a_do__0)) (ck ((a_left - (1 : Int))) <| asr (decide (0 ≤ a_at_ ∧ a_at_ < ((a_t.types.l.length : Nat) : Int))) <| cal (a_t.types.l[a_at_.toNat]?) fun y10 => cal (table_types_wild_c1 y10 a_do__0) fun y12 => br (decide ((0 : Int) < (y10.tags.length : Int))) (some (a_t, (a_left - (1 : Int)), y12)) (lp (ι := Int × Bool × Int × GTmk) (fun L14 q13 => br (decide (q13.1 < (y10.fields.length : Int))) (cal (getI y10.fields q13.1) fun y19 => cal (table_types_inner' q13.2.2.2 y19.ty q13.2.2.1 q13.2.1) fun y21 => ck ((q13.1 + (1 : Int))) <| L14 ((q13.1 + (1 : Int)), y21.2.2, y21.2.1, y21.1)) (some (q13.2.2.2, q13.2.2.1, q13.2.1))) (((0 : Int), y12, (a_left - (1 : Int)), a_t))))))
def table_types_inner_grp : Nat → (GTmk → Int → Int → Bool → Option (GTmk × Int × Bool))
  | 0 => (fun _ _ _ _ => none)
  | n + 1 => let p := table_types_inner_grp n; (table_types_inner_F p)
def table_types_inner (n : Nat) : GTmk → Int → Int → Bool → Option (GTmk × Int × Bool) := (table_types_inner_grp n)

def table_types_wild (a_t : GTmk) (a_at_ : Int) : Option (Bool × GTmk) :=
  cal (table_types_inner fuel a_t a_at_ (300 : Int) false) fun y4 => some (y4.2.2, y4.1)

def table_types_begins_c1 (a_x : GTyp) (a_a1 : (List Tag)) : Option ((List Tag)) :=
  br (decide ((0 : Int) < (a_x.tags.length : Int))) (cal (getI a_x.tags (0 : Int)) fun y2 => asr (Nat.ble (a_a1.length + ([y2] : (List Tag)).length) 68719476736) <| some ((a_a1 ++ ([y2] : (List Tag))))) (some (a_a1))

def table_types_inner_1_F (table_types_inner_1' : GTmk → Int → Int → (List Tag) → Option (GTmk × Int × (List Tag))) (a_t : GTmk) (a_at_ : Int) (a_left : Int) (a_do__0 : (List Tag)) : Option (GTmk × Int × (List Tag)) :=
  jp (ι := Bool) (fun J4 => br (decide (a_at_ < (0 : Int))) (J4 (true)) (J4 ((decide (((a_t.types.l.length : Nat) : Int) ≤ a_at_))))) (fun q3 => jp (ι := Bool) (fun J7 => br q3 (J7 (true)) (J7 ((decide (a_left = (0 : Int)))))) (fun q6 => br q6 (some (a_t, a_left, a_do__0)) (ck ((a_left - (1 : Int))) <| asr (decide (0 ≤ a_at_ ∧ a_at_ < ((a_t.types.l.length : Nat) : Int))) <| cal (a_t.types.l[a_at_.toNat]?) fun y11 => cal (table_types_begins_c1 y11 a_do__0) fun y13 => br (decide ((0 : Int) < (y11.tags.length : Int))) (some (a_t, (a_left - (1 : Int)), y13)) (lp (ι := Int × (List Tag) × Int × GTmk) (fun L16 q15 => br (decide (q15.1 < (y11.fields.length : Int))) (cal (getI y11.fields q15.1) fun y22 => cal (table_types_inner_1' q15.2.2.2 y22.ty q15.2.2.1 q15.2.1) fun y24 => ck ((q15.1 + (1 : Int))) <| L16 ((q15.1 + (1 : Int)), y24.2.2, y24.2.1, y24.1)) (some (q15.2.2.2, q15.2.2.1, q15.2.1))) (((0 : Int), y13, (a_left - (1 : Int)), a_t))))))
def table_types_inner_1_grp : Nat → (GTmk → Int → Int → (List Tag) → Option (GTmk × Int × (List Tag)))
  | 0 => (fun _ _ _ _ => none)
  | n + 1 => let p := table_types_inner_1_grp n; (table_types_inner_1_F p)
def table_types_inner_1 (n : Nat) : GTmk → Int → Int → (List Tag) → Option (GTmk × Int × (List Tag)) := (table_types_inner_1_grp n)

def table_types_begins (a_t : GTmk) (a_at_ : Int) : Option ((List Tag) × GTmk) :=
  cal (table_types_inner_1 fuel a_t a_at_ (300 : Int) ([] : (List Tag))) fun y5 => some (y5.2.2, y5.1)

def table_types_told (a_t : GTmk) (a_l : (List GFld)) (a_open_ : Bool) : Option (Bool × GTmk) :=
  lp (ι := (List (List Tag)) × Int × GTmk) (fun L3 q2 => br (decide (q2.2.1 < (a_l.length : Int))) (cal (getI a_l q2.2.1) fun y19 => cal (table_types_wild q2.2.2 y19.ty) fun y21 => jp (ι := Bool) (fun J23 => br y21.1 (jp (ι := Bool) (fun J26 => br a_open_ (J26 (true)) (J26 ((decide ((1 : Int) < (a_l.length : Int)))))) (fun q25 => J23 (q25))) (J23 (false))) (fun q22 => br q22 (some (false, y21.2)) (cal (table_types_begins y21.2 y19.ty) fun y28 => asr (Nat.ble (q2.1.length + ([y28.1] : (List (List Tag))).length) 68719476736) <| ck ((q2.2.1 + (1 : Int))) <| L3 ((q2.1 ++ ([y28.1] : (List (List Tag)))), (q2.2.1 + (1 : Int)), y28.2)))) (cal (tags_Distinct q2.1) fun y33 => some (y33, q2.2.2))) ((([] : (List (List Tag))), (0 : Int), a_t))

def table_Loose (a_t : GTyp) (a_k : Int) : Option (Bool) :=
  cal (getI a_t.fields a_k) fun y1 => jp (ι := Bool) (fun J3 => br y1.optional (J3 (true)) (cal (getI a_t.fields a_k) fun y5 => J3 (y5.has))) (fun q2 => jp (ι := Bool) (fun J7 => br q2 (J7 (true)) (J7 ((decide (a_t.root ≤ a_k))))) (fun q6 => some (q6)))

def table_Last (a_t : GTyp) : Option (Int) :=
  lp (ι := Int) (fun L2 q1 => jp (ι := Bool) (fun J10 => br (decide ((0 : Int) < q1)) (ck ((q1 - (1 : Int))) <| cal (table_Loose a_t (q1 - (1 : Int))) fun y13 => J10 (y13)) (J10 (false))) (fun q9 => br q9 (ck ((q1 - (1 : Int))) <| L2 ((q1 - (1 : Int)))) (some (q1)))) (((min (max a_t.root (0 : Int)) (a_t.fields.length : Int))))

def table_types_apart (a_t : GTmk) (a_x : GTyp) : Option (Bool × GTmk) :=
  br (!decide (a_x.kind = (7 : Int))) (cal (table_types_told a_t a_x.fields a_x.more) fun y2 => some (y2.1, y2.2)) (lp (ι := Int × GTmk) (fun L4 q3 => br (decide (q3.1 < (a_x.fields.length : Int))) (jp (ι := GTmk) (fun J36 => cal (table_Loose a_x q3.1) fun y37 => br (!y37) (J36 (q3.2)) (ck ((q3.1 + (1 : Int))) <| lp (ι := Int) (fun L40 q39 => jp (ι := Bool) (fun J50 => br (decide (q39 < (a_x.fields.length : Int))) (ck ((q39 - (1 : Int))) <| cal (table_Loose a_x (q39 - (1 : Int))) fun y53 => J50 (y53)) (J50 (false))) (fun q49 => br q49 (ck ((q39 + (1 : Int))) <| L40 ((q39 + (1 : Int)))) (asr (decide (0 ≤ q3.1 ∧ q3.1 ≤ q39 ∧ q39 ≤ (a_x.fields.length : Int))) <| cal (table_types_told q3.2 ((a_x.fields.take (q39).toNat).drop (q3.1).toNat) false) fun y56 => br (!y56.1) (some (false, y56.2)) (J36 (y56.2))))) (((q3.1 + (1 : Int)))))) (fun q35 => ck ((q3.1 + (1 : Int))) <| L4 ((q3.1 + (1 : Int)), q35))) (jp (ι := Bool × GTmk) (fun J60 => br (!a_x.more) (J60 (true, q3.2)) (cal (table_Last a_x) fun y62 => asr (decide (0 ≤ y62 ∧ y62 ≤ (a_x.fields.length : Int) ∧ (a_x.fields.length : Int) ≤ (a_x.fields.length : Int))) <| cal (table_types_told q3.2 ((a_x.fields.take ((a_x.fields.length : Int)).toNat).drop (y62).toNat) true) fun y64 => J60 (y64.1, y64.2))) (fun q59 => some (q59.1, q59.2)))) (((0 : Int), a_t)))

def table_maker_marked (a_x : GTmk) (a_at_ : Int) (a_m : GMark) : Option (Int × GTmk) :=
  br (!a_m.has) (some ((0 : Int), a_x)) (jp (ι := Int × GTmk) (fun J3 => br (decide (a_m.mode = (2 : Int))) (J3 ((1 : Int), a_x)) (jp (ι := Bool) (fun J5 => br (decide (a_m.mode = (0 : Int))) (J5 ((!decide (a_x.m.tagging = (0 : Int))))) (J5 (false))) (fun q4 => br q4 (cal (table_maker_soft a_x a_at_) fun y7 => J3 (y7.1, y7.2)) (J3 ((0 : Int), a_x))))) (fun q2 => cal (table_maker_wrap q2.2 a_at_ a_m.number q2.1) fun y8 => some (y8.1, y8.2)))

def table_maker_field_F (table_maker_field' : GTmk → GNode → Int → Int → Bool → Option (GFld × Int × GTmk)) (table_maker_node' : GTmk → Int → Int → Option (Int × Int × GTmk)) (table_maker_made' : GTmk → GNode → Int → Option (Int × Int × GTmk)) (table_maker_fields' : GTmk → Int → GNode → Int → Option (Int × GTmk)) (a_x : GTmk) (a_n_ : GNode) (a_k : Int) (a_depth : Int) (a_auto : Bool) : Option (GFld × Int × GTmk) :=
  cal (getI a_n_.fields a_k) fun y3 => asr (decide (0 ≤ (0 : Int) ∧ (0 : Int) ≤ a_k ∧ a_k ≤ (a_n_.fields.length : Int))) <| cal (slices_ContainsFunc_Lapi_Field_api_Field_1 ((a_n_.fields.take (a_k).toNat).drop (0 : Int).toNat) y3) fun y6 => br y6.1 (some (y6.2, (8 : Int), a_x)) (ck ((a_depth + (1 : Int))) <| cal (table_maker_node' a_x y6.2.ty (a_depth + (1 : Int))) fun y8 => br (!decide (y8.2.1 = (0 : Int))) (some ({ y6.2 with ty := y8.1 }, y8.2.1, y8.2.2)) (jp (ι := GFld × GTmk) (fun J11 => br y6.2.has (cal (table_maker_standard y8.2.2 y8.1 y6.2.dflt) fun y12 => br (!y12.2.1) (some ({ y6.2 with ty := y8.1 }, (13 : Int), y12.2.2)) (J11 ({ { y6.2 with ty := y8.1 } with dflt := y12.1 }, y12.2.2))) (J11 ({ y6.2 with ty := y8.1 }, y8.2.2))) (fun q10 => jp (ι := Int × GTmk) (fun J15 => br a_auto (cal (table_maker_soft q10.2 q10.1.ty) fun y18 => cal (table_maker_wrap y18.2 q10.1.ty a_k y18.1) fun y19 => J15 (y19.1, y19.2)) (J15 (y8.2.1, q10.2))) (fun q14 => some (q10.1, q14.1, q14.2)))))
def table_maker_node_F (table_maker_field' : GTmk → GNode → Int → Int → Bool → Option (GFld × Int × GTmk)) (table_maker_node' : GTmk → Int → Int → Option (Int × Int × GTmk)) (table_maker_made' : GTmk → GNode → Int → Option (Int × Int × GTmk)) (table_maker_fields' : GTmk → Int → GNode → Int → Option (Int × GTmk)) (a_x : GTmk) (a_k : Int) (a_depth : Int) : Option (Int × Int × GTmk) :=
  jp (ι := Bool) (fun J3 => br (decide (a_k < (0 : Int))) (J3 (true)) (J3 ((decide ((a_x.m.nodes.length : Int) ≤ a_k))))) (fun q2 => br q2 (some ((0 : Int), (9 : Int), a_x)) (cal (getI a_x.m.nodes a_k) fun y5 => jp (ι := Int × Int × GTmk) (fun J8 => br (decide (y5.kind = (11 : Int))) (cal (refs_Find a_x.m y5.name) fun y11 => jp (ι := Bool) (fun J13 => br (decide (y11 < (0 : Int))) (J13 (true)) (J13 ((decide ((a_x.m.types.length : Int) ≤ y11))))) (fun q12 => br q12 (some ((0 : Int), (9 : Int), a_x)) (cal (getI a_x.m.types y11) fun y15 => cal (table_maker_node' a_x y15 a_depth) fun y16 => J8 (y16.1, y16.2.1, y16.2.2)))) (cal (table_maker_made' a_x y5 a_depth) fun y18 => J8 (y18.1, y18.2.1, y18.2.2))) (fun q7 => br (!decide (q7.2.1 = (0 : Int))) (some ((0 : Int), q7.2.1, q7.2.2)) (cal (table_maker_marked q7.2.2 q7.1 y5.mark) fun y20 => some (q7.1, y20.1, y20.2)))))
def table_maker_made_F (table_maker_field' : GTmk → GNode → Int → Int → Bool → Option (GFld × Int × GTmk)) (table_maker_node' : GTmk → Int → Int → Option (Int × Int × GTmk)) (table_maker_made' : GTmk → GNode → Int → Option (Int × Int × GTmk)) (table_maker_fields' : GTmk → Int → GNode → Int → Option (Int × GTmk)) (a_x : GTmk) (a_n_ : GNode) (a_depth : Int) : Option (Int × Int × GTmk) :=
  jp (ι := Bool) (fun J3 => br (decide ((16 : Int) < a_depth)) (J3 (true)) (J3 ((decide ((300 : Int) ≤ ((a_x.types.l.length : Nat) : Int)))))) (fun q2 => br q2 (some ((0 : Int), (5 : Int), a_x)) (jp (ι := GTyp) (fun J7 => br (!decide (a_n_.kind = (9 : Int))) (cal (tags_Universal a_n_.kind) fun y8 => J7 ((GTyp.mk a_n_.kind ([y8] : (List Tag)) a_n_.con ([] : (List GItem)) ([] : (List GFld)) a_n_.root a_n_.more (0 : Int)))) (J7 ((GTyp.mk a_n_.kind ([] : (List Tag)) a_n_.con ([] : (List GItem)) ([] : (List GFld)) a_n_.root a_n_.more (0 : Int))))) (fun q6 => cal (table_types_add a_x q6) fun y12 => jp (ι := Int × GTmk) (fun J15 => br (decide (a_n_.kind = (2 : Int))) (cal (bounds_Check a_n_.con false) fun y16 => J15 (y16, y12.2)) (jp (ι := Bool) (fun J18 => br (decide (a_n_.kind = (5 : Int))) (J18 ((decide (a_n_.kind = (5 : Int))))) (J18 ((decide (a_n_.kind = (6 : Int)))))) (fun q17 => br q17 (cal (bounds_Check a_n_.con true) fun y19 => J15 (y19, y12.2)) (br (decide (a_n_.kind = (10 : Int))) (cal (bounds_Check a_n_.con true) fun y20 => br (decide (y20 = (0 : Int))) (ck ((a_depth + (1 : Int))) <| cal (table_maker_node' y12.2 a_n_.of (a_depth + (1 : Int))) fun y22 => asr (decide (0 ≤ y12.1 ∧ y12.1 < ((y22.2.2.types.l.length : Nat) : Int))) <| cal (y22.2.2.types.l[y12.1.toNat]?) fun y25 => J15 (y22.2.1, (GTmk.mk (GTys.mk (y22.2.2.types.l.set y12.1.toNat ({ y25 with of := y22.1 }))) y22.2.2.m))) (J15 (y20, y12.2))) (br (decide (a_n_.kind = (3 : Int))) (cal (table_items a_n_) fun y28 => asr (decide (0 ≤ y12.1 ∧ y12.1 < ((y12.2.types.l.length : Nat) : Int))) <| cal (y12.2.types.l[y12.1.toNat]?) fun y30 => J15 (y28.2, (GTmk.mk (GTys.mk (y12.2.types.l.set y12.1.toNat ({ y30 with items := y28.1 }))) y12.2.m))) (jp (ι := Bool) (fun J32 => br (decide (a_n_.kind = (7 : Int))) (J32 ((decide (a_n_.kind = (7 : Int))))) (br (decide (a_n_.kind = (8 : Int))) (J32 ((decide (a_n_.kind = (8 : Int))))) (J32 ((decide (a_n_.kind = (9 : Int))))))) (fun q31 => br q31 (cal (table_maker_fields' y12.2 y12.1 a_n_ a_depth) fun y33 => J15 (y33.1, y33.2)) (J15 ((0 : Int), y12.2))))))))) (fun q14 => some (y12.1, q14.1, q14.2)))))
def table_maker_fields_F (table_maker_field' : GTmk → GNode → Int → Int → Bool → Option (GFld × Int × GTmk)) (table_maker_node' : GTmk → Int → Int → Option (Int × Int × GTmk)) (table_maker_made' : GTmk → GNode → Int → Option (Int × Int × GTmk)) (table_maker_fields' : GTmk → Int → GNode → Int → Option (Int × GTmk)) (a_x : GTmk) (a_at_ : Int) (a_n_ : GNode) (a_depth : Int) : Option (Int × GTmk) :=
  jp (ι := Bool) (fun J3 => br (decide (a_n_.kind = (9 : Int))) (J3 ((decide ((a_n_.fields.length : Int) = (0 : Int))))) (J3 (false))) (fun q2 => jp (ι := Bool) (fun J6 => br q2 (J6 ((!a_n_.more))) (J6 (false))) (fun q5 => br q5 (some ((11 : Int), a_x)) (cal (table_maker_automatic a_x a_n_) fun y8 => lp (ι := (List GFld) × Int × GTmk) (fun L10 q9 => br (decide (q9.2.1 < (a_n_.fields.length : Int))) (cal (table_maker_field' q9.2.2 a_n_ q9.2.1 a_depth y8.1) fun y23 => br (!decide (y23.2.1 = (0 : Int))) (some (y23.2.1, y23.2.2)) (asr (Nat.ble (q9.1.length + ([y23.1] : (List GFld)).length) 68719476736) <| ck ((q9.2.1 + (1 : Int))) <| L10 ((q9.1 ++ ([y23.1] : (List GFld))), (q9.2.1 + (1 : Int)), y23.2.2))) (asr (decide (0 ≤ a_at_ ∧ a_at_ < ((q9.2.2.types.l.length : Nat) : Int))) <| cal (q9.2.2.types.l[a_at_.toNat]?) fun y31 => asr (decide (0 ≤ a_at_ ∧ a_at_ < (((q9.2.2.types.l.set a_at_.toNat ({ y31 with fields := q9.1 })).length : Nat) : Int))) <| cal ((q9.2.2.types.l.set a_at_.toNat ({ y31 with fields := q9.1 }))[a_at_.toNat]?) fun y33 => cal (table_types_apart (GTmk.mk (GTys.mk (q9.2.2.types.l.set a_at_.toNat ({ y31 with fields := q9.1 }))) q9.2.2.m) y33) fun y34 => br (!y34.1) (some ((12 : Int), y34.2)) (some ((0 : Int), y34.2)))) ((([] : (List GFld)), (0 : Int), y8.2)))))
def table_maker_field_grp : Nat → (GTmk → GNode → Int → Int → Bool → Option (GFld × Int × GTmk)) × (GTmk → Int → Int → Option (Int × Int × GTmk)) × (GTmk → GNode → Int → Option (Int × Int × GTmk)) × (GTmk → Int → GNode → Int → Option (Int × GTmk))
  | 0 => (fun _ _ _ _ _ => none, fun _ _ _ => none, fun _ _ _ => none, fun _ _ _ _ => none)
  | n + 1 => let p := table_maker_field_grp n; (table_maker_field_F p.1 p.2.1 p.2.2.1 p.2.2.2, table_maker_node_F p.1 p.2.1 p.2.2.1 p.2.2.2, table_maker_made_F p.1 p.2.1 p.2.2.1 p.2.2.2, table_maker_fields_F p.1 p.2.1 p.2.2.1 p.2.2.2)
def table_maker_field (n : Nat) : GTmk → GNode → Int → Int → Bool → Option (GFld × Int × GTmk) := (table_maker_field_grp n).1
def table_maker_node (n : Nat) : GTmk → Int → Int → Option (Int × Int × GTmk) := (table_maker_field_grp n).2.1
def table_maker_made (n : Nat) : GTmk → GNode → Int → Option (Int × Int × GTmk) := (table_maker_field_grp n).2.2.1
def table_maker_fields (n : Nat) : GTmk → Int → GNode → Int → Option (Int × GTmk) := (table_maker_field_grp n).2.2.2

def table_Make (a_m : GMod) : Option (GTab × Int × Int) :=
  cal (refs_Order a_m) fun y2 => br (!decide (y2.2.2 = (0 : Int))) (some ((GTab.mk (Str.mk []) ([] : (List Str)) ([] : (List Int)) ([] : (List GTyp))), y2.2.1, y2.2.2)) (br (decide ((a_m.types.length : Int) < (a_m.names.length : Int))) (some ((GTab.mk (Str.mk []) ([] : (List Str)) ([] : (List Int)) ([] : (List GTyp))), (a_m.types.length : Int), (9 : Int))) (jp (ι := GTab) (fun J6 => cal (slices_Clone_Lstring_string a_m.names) fun y7 => J6 ((GTab.mk a_m.name y7 ([] : (List Int)) ([] : (List GTyp))))) (fun q5 => lp (ι := Int × GTab × GTmk) (fun L15 q14 => br (decide (q14.1 < (a_m.names.length : Int))) (cal (getI a_m.types q14.1) fun y23 => cal (table_maker_node fuel q14.2.2 y23 (0 : Int)) fun y24 => br (!decide (y24.2.1 = (0 : Int))) (some ((GTab.mk (Str.mk []) ([] : (List Str)) ([] : (List Int)) ([] : (List GTyp))), q14.1, y24.2.1)) (asr (Nat.ble (q14.2.1.roots.length + ([y24.1] : (List Int)).length) 68719476736) <| ck ((q14.1 + (1 : Int))) <| L15 ((q14.1 + (1 : Int)), (GTab.mk q14.2.1.name q14.2.1.names (q14.2.1.roots ++ ([y24.1] : (List Int))) q14.2.1.types), y24.2.2))) (some ((GTab.mk q14.2.1.name q14.2.1.names q14.2.1.roots q14.2.2.types.l), (0 : Int), (0 : Int)))) (((0 : Int), q5, (GTmk.mk (GTys.mk ([] : (List GTyp))) a_m))))))
end Go.Proofs.YtiibmpdjkdjbiaaGreatDoor


namespace Go.Proofs.YtiibmpdjkdjbiaaGreatDoor
open Go.Sy
set_option maxRecDepth 4000
def table_Find (a_t : GTab) (a_name : Str) : Option (Int) :=
  cal (slices_Index_Lstring_string a_t.names a_name) fun y1 => jp (ι := Bool) (fun J3 => br (decide (y1 < (0 : Int))) (J3 (true)) (J3 ((decide ((a_t.roots.length : Int) ≤ y1))))) (fun q2 => br q2 (some ((-1 : Int))) (cal (getI a_t.roots y1) fun y5 => some (y5)))

def law10_awake  : Option (Bool) :=
  cal (r05_Parse (Str.mk [77, 32, 68, 69, 70, 73, 78, 73, 84, 73, 79, 78, 83, 32, 58, 58, 61, 32, 66, 69, 71, 73, 78, 32, 65, 32, 58, 58, 61, 32, 83, 69, 81, 85, 69, 78, 67, 69, 32, 123, 32, 120, 32, 73, 78, 84, 69, 71, 69, 82, 32, 40, 48, 46, 46, 55, 41, 44, 32, 46, 46, 46, 32, 125, 32, 69, 78, 68])) fun y1 => cal (table_Make y1.1) fun y3 => jp (ι := Bool) (fun J6 => br (decide (y3.2.2 = (0 : Int))) (J6 ((decide ((y3.1.types.length : Int) = (2 : Int))))) (J6 (false))) (fun q5 => jp (ι := Bool) (fun J9 => br q5 (cal (table_Find y3.1 (Str.mk [65])) fun y11 => J9 ((decide (y11 = (0 : Int))))) (J9 (false))) (fun q8 => jp (ι := Bool) (fun J13 => br q8 (cal (getI y3.1.types (1 : Int)) fun y15 => J13 ((decide ((y15.tags.length : Int) = (1 : Int))))) (J13 (false))) (fun q12 => some (q12))))
end Go.Proofs.YtiibmpdjkdjbiaaGreatDoor


namespace Go.Proofs.YtiibmpdjkdjbiaaGreatDoor
open Go.Sy
set_option maxRecDepth 4000
def h_Digits_F (h_Digits' : UInt64 → Option (Str)) (a_v : UInt64) : Option (Str) :=
  br (decide (a_v < (10 : UInt64))) (some ((Str.mk ([((48 : UInt64) + a_v).toUInt8] : (List UInt8))))) (jp (ι := Str) (fun J3 => asr (!decide ((10 : UInt64) = 0)) <| asr (!decide ((10 : UInt64) = 0)) <| cal (h_Digits' (a_v / (10 : UInt64))) fun y6 => asr (Nat.ble (y6.b.length + (Str.mk ([((48 : UInt64) + (a_v % (10 : UInt64))).toUInt8] : (List UInt8))).b.length) 4611686018427387904) <| J3 ((Str.mk (y6.b ++ (Str.mk ([((48 : UInt64) + (a_v % (10 : UInt64))).toUInt8] : (List UInt8))).b)))) (fun q2 => some (q2)))
def h_Digits_grp : Nat → (UInt64 → Option (Str))
  | 0 => (fun _ => none)
  | n + 1 => let p := h_Digits_grp n; (h_Digits_F p)
def h_Digits (n : Nat) : UInt64 → Option (Str) := (h_Digits_grp n)

def h_Number (a_v : Int) : Option (Str) :=
  br (decide (a_v < (0 : Int))) (ck ((a_v + (1 : Int))) <| ck ((-(a_v + (1 : Int)))) <| cal (h_Digits fuel ((UInt64.ofNat ((-(a_v + (1 : Int))) % 18446744073709551616).toNat) + (1 : UInt64))) fun y3 => asr (Nat.ble ((Str.mk [45]).b.length + y3.b.length) 4611686018427387904) <| some ((Str.mk ((Str.mk [45]).b ++ y3.b)))) (cal (h_Digits fuel (UInt64.ofNat (a_v % 18446744073709551616).toNat)) fun y5 => some (y5))

end Go.Proofs.YtiibmpdjkdjbiaaGreatDoor


namespace Go.Proofs.YtiibmpdjkdjbiaaGreatDoor
open Go.Sy
set_option maxRecDepth 4000
end Go.Proofs.YtiibmpdjkdjbiaaGreatDoor


namespace Go.Proofs.YtiibmpdjkdjbiaaGreatDoor
open Go.Sy
set_option maxRecDepth 4000
def h_In_int64 (a_l : (List Int)) (a_x : Int) : Option (Bool) :=
  lp (ι := Int) (fun L2 q1 => br (decide (q1 < (a_l.length : Int))) (cal (getI a_l q1) fun y5 => br (decide (y5 = a_x)) (some (true)) (ck ((q1 + (1 : Int))) <| L2 ((q1 + (1 : Int))))) (some (false))) (((0 : Int)))

def law10_TableNumbers (a_written : (List Int)) (a_has : (List Bool)) (a_added : Int) : Option (Bool) :=
  jp (ι := Bool) (fun J2 => br (decide ((a_written.length : Int) = (0 : Int))) (J2 (true)) (J2 ((decide ((12 : Int) < (a_written.length : Int)))))) (fun q1 => br q1 (cal (law10_awake ) fun y4 => some (y4)) (lp (ι := Str × (List Int) × Int) (fun L6 q5 => br (decide (q5.2.2 < (a_written.length : Int))) (jp (ι := Str × (List Int)) (fun J187 => jp (ι := Str) (fun J189 => br (decide ((0 : Int) < q5.2.2)) (asr (Nat.ble (q5.1.b.length + (Str.mk [44, 32]).b.length) 4611686018427387904) <| J189 ((Str.mk (q5.1.b ++ (Str.mk [44, 32]).b)))) (J189 (q5.1))) (fun q188 => asr (Nat.ble (q188.b.length + (Str.mk [105]).b.length) 4611686018427387904) <| cal (h_Digits fuel (UInt64.ofNat (q5.2.2 % 18446744073709551616).toNat)) fun y192 => asr (Nat.ble ((Str.mk (q188.b ++ (Str.mk [105]).b)).b.length + y192.b.length) 4611686018427387904) <| jp (ι := Bool) (fun J195 => br (decide (q5.2.2 < (a_has.length : Int))) (cal (getI a_has q5.2.2) fun y197 => J195 (y197)) (J195 (false))) (fun q194 => br q194 (cal (getI a_written q5.2.2) fun y198 => asr (!decide ((20 : UInt64) = 0)) <| ck ((((UInt64.ofNat (y198 % 18446744073709551616).toNat) % (20 : UInt64)).toNat : Int)) <| cal (h_In_int64 q5.2.1 (((UInt64.ofNat (y198 % 18446744073709551616).toNat) % (20 : UInt64)).toNat : Int)) fun y201 => br y201 (cal (law10_awake ) fun y202 => some (y202)) (asr (Nat.ble (q5.2.1.length + ([(((UInt64.ofNat (y198 % 18446744073709551616).toNat) % (20 : UInt64)).toNat : Int)] : (List Int)).length) 68719476736) <| asr (Nat.ble ((Str.mk ((Str.mk (q188.b ++ (Str.mk [105]).b)).b ++ y192.b)).b.length + (Str.mk [32, 40]).b.length) 4611686018427387904) <| cal (h_Number (((UInt64.ofNat (y198 % 18446744073709551616).toNat) % (20 : UInt64)).toNat : Int)) fun y207 => asr (Nat.ble ((Str.mk ((Str.mk ((Str.mk (q188.b ++ (Str.mk [105]).b)).b ++ y192.b)).b ++ (Str.mk [32, 40]).b)).b.length + y207.b.length) 4611686018427387904) <| asr (Nat.ble ((Str.mk ((Str.mk ((Str.mk ((Str.mk (q188.b ++ (Str.mk [105]).b)).b ++ y192.b)).b ++ (Str.mk [32, 40]).b)).b ++ y207.b)).b.length + (Str.mk [41]).b.length) 4611686018427387904) <| J187 ((Str.mk ((Str.mk ((Str.mk ((Str.mk ((Str.mk (q188.b ++ (Str.mk [105]).b)).b ++ y192.b)).b ++ (Str.mk [32, 40]).b)).b ++ y207.b)).b ++ (Str.mk [41]).b)), (q5.2.1 ++ ([(((UInt64.ofNat (y198 % 18446744073709551616).toNat) % (20 : UInt64)).toNat : Int)] : (List Int)))))) (J187 ((Str.mk ((Str.mk (q188.b ++ (Str.mk [105]).b)).b ++ y192.b)), q5.2.1))))) (fun q186 => ck ((q5.2.2 + (1 : Int))) <| L6 (q186.1, q186.2, (q5.2.2 + (1 : Int))))) (asr (!decide ((4 : UInt64) = 0)) <| ck ((((UInt64.ofNat (a_added % 18446744073709551616).toNat) % (4 : UInt64)).toNat : Int)) <| lp (ι := Str × Int) (fun L214 q213 => br (decide (q213.2 < (((UInt64.ofNat (a_added % 18446744073709551616).toNat) % (4 : UInt64)).toNat : Int))) (jp (ι := Str) (fun J290 => br (decide (q213.2 = (0 : Int))) (asr (Nat.ble (q213.1.b.length + (Str.mk [44, 32, 46, 46, 46]).b.length) 4611686018427387904) <| J290 ((Str.mk (q213.1.b ++ (Str.mk [44, 32, 46, 46, 46]).b)))) (J290 (q213.1))) (fun q289 => asr (Nat.ble (q289.b.length + (Str.mk [44, 32, 97]).b.length) 4611686018427387904) <| cal (h_Digits fuel (UInt64.ofNat (q213.2 % 18446744073709551616).toNat)) fun y293 => asr (Nat.ble ((Str.mk (q289.b ++ (Str.mk [44, 32, 97]).b)).b.length + y293.b.length) 4611686018427387904) <| ck ((q213.2 + (1 : Int))) <| L214 ((Str.mk ((Str.mk (q289.b ++ (Str.mk [44, 32, 97]).b)).b ++ y293.b)), (q213.2 + (1 : Int))))) (asr (Nat.ble ((Str.mk [77, 32, 68, 69, 70, 73, 78, 73, 84, 73, 79, 78, 83, 32, 58, 58, 61, 32, 66, 69, 71, 73, 78, 32, 69, 32, 58, 58, 61, 32, 69, 78, 85, 77, 69, 82, 65, 84, 69, 68, 32, 123, 32]).b.length + q213.1.b.length) 4611686018427387904) <| asr (Nat.ble ((Str.mk ((Str.mk [77, 32, 68, 69, 70, 73, 78, 73, 84, 73, 79, 78, 83, 32, 58, 58, 61, 32, 66, 69, 71, 73, 78, 32, 69, 32, 58, 58, 61, 32, 69, 78, 85, 77, 69, 82, 65, 84, 69, 68, 32, 123, 32]).b ++ q213.1.b)).b.length + (Str.mk [32, 125, 32, 69, 78, 68]).b.length) 4611686018427387904) <| cal (r05_Parse (Str.mk ((Str.mk ((Str.mk [77, 32, 68, 69, 70, 73, 78, 73, 84, 73, 79, 78, 83, 32, 58, 58, 61, 32, 66, 69, 71, 73, 78, 32, 69, 32, 58, 58, 61, 32, 69, 78, 85, 77, 69, 82, 65, 84, 69, 68, 32, 123, 32]).b ++ q213.1.b)).b ++ (Str.mk [32, 125, 32, 69, 78, 68]).b))) fun y298 => cal (table_Make y298.1) fun y300 => cal (law10_awake ) fun y302 => jp (ι := Bool) (fun J304 => br (!y302) (J304 (true)) (J304 ((!decide (y298.2.2 = (0 : Int)))))) (fun q303 => jp (ι := Bool) (fun J307 => br q303 (J307 (true)) (J307 ((!decide (y300.2.2 = (0 : Int)))))) (fun q306 => jp (ι := Bool) (fun J310 => br q306 (J310 (true)) (J310 ((!decide ((y300.1.types.length : Int) = (1 : Int)))))) (fun q309 => jp (ι := Bool) (fun J313 => br q309 (J313 (true)) (cal (getI y300.1.types (0 : Int)) fun y315 => ck (((a_written.length : Int) + (((UInt64.ofNat (a_added % 18446744073709551616).toNat) % (4 : UInt64)).toNat : Int))) <| J313 ((!decide ((y315.items.length : Int) = ((a_written.length : Int) + (((UInt64.ofNat (a_added % 18446744073709551616).toNat) % (4 : UInt64)).toNat : Int))))))) (fun q312 => br q312 (some (false)) (cal (getI y300.1.types (0 : Int)) fun y317 => lp (ι := Int × Int × Int) (fun L319 q318 => br (decide (q318.2.2 < (y317.items.length : Int))) (ck ((q318.2.1 + (1 : Int))) <| jp (ι := Int × Int) (fun J343 => br (decide (q318.2.2 < (a_written.length : Int))) (jp (ι := Bool) (fun J345 => br (decide (q318.2.2 < (a_has.length : Int))) (cal (getI a_has q318.2.2) fun y347 => J345 (y347)) (J345 (false))) (fun q344 => br q344 (cal (getI a_written q318.2.2) fun y348 => asr (!decide ((20 : UInt64) = 0)) <| ck ((((UInt64.ofNat (y348 % 18446744073709551616).toNat) % (20 : UInt64)).toNat : Int)) <| J343 (q318.1, (((UInt64.ofNat (y348 % 18446744073709551616).toNat) % (20 : UInt64)).toNat : Int))) (lp (ι := Int) (fun L352 q351 => cal (h_In_int64 q5.2.1 q351) fun y356 => br y356 (ck ((q351 + (1 : Int))) <| L352 ((q351 + (1 : Int)))) (ck ((q351 + (1 : Int))) <| J343 ((q351 + (1 : Int)), q351))) ((q318.1))))) (J343 (q318.1, (q318.2.1 + (1 : Int))))) (fun q342 => cal (getI y317.items q318.2.2) fun y360 => br (!decide (y360.number = q342.2)) (some (false)) (ck ((q318.2.2 + (1 : Int))) <| L319 (q342.1, (max q318.2.1 q342.2), (q318.2.2 + (1 : Int)))))) (some (true))) (((0 : Int), (-1 : Int), (0 : Int)))))))))) ((q5.1, (0 : Int))))) (((Str.mk []), ([] : (List Int)), (0 : Int)))))
end Go.Proofs.YtiibmpdjkdjbiaaGreatDoor


namespace Go.Proofs.YtiibmpdjkdjbiaaGreatDoor
open Go.Sy
set_option linter.unusedVariables false
set_option maxRecDepth 4000

theorem in64_eq (l : List Int) (x : Int) (hl : l.length ≤ 1000000) : h_In_int64 l x = some (decide (x ∈ l)) := by
  refine T.fin ?_
  unfold h_In_int64
  refine T.lp (fun (k : Int) => 0 ≤ k ∧ k ≤ l.length ∧ ¬ x ∈ l.take k.toNat) (fun (k : Int) => ((l.length : Int) - k).toNat) ⟨Int.le_refl _, by omega, fun h => by cases h⟩ (by omega) fun L k ⟨k1, k2, k3⟩ hL => T.br (fun h => ?_) fun h => T.some ?_
  · have h := of_decide_eq_true h
    have hk1 : (k + 1).toNat = k.toNat + 1 := by omega
    refine T.get k1 h fun y hy => T.br (fun h2 => T.some ?_) fun h2 => T.ck (by omega) (hL _ ⟨by omega, by omega, ?_⟩ (by omega))
    · have h2 := of_decide_eq_true h2
      subst h2
      exact (decide_eq_true (List.mem_of_getElem? hy)).symm
    · have h2 := of_decide_eq_false h2
      rw [hk1, List.take_add_one, hy]
      intro hm
      rcases List.mem_append.1 hm with h | h
      · exact k3 h
      · exact h2 (List.mem_singleton.1 h).symm
  · have h := of_decide_eq_false h
    have : k.toNat = l.length := by omega
    rw [this, List.take_length] at k3
    exact (decide_eq_false k3).symm
def itG (p : List UInt8 × Option Int) : GItem := match p.2 with
  | some v => ⟨⟨p.1⟩, v, true⟩
  | none => ⟨⟨p.1⟩, 0, false⟩
theorem has_eq {ps : List (List UInt8 × Option Int)} {v : Int} (hl : ps.length ≤ 1000) : table_has (ps.map itG) v = some (decide (v ∈ somes (ps.map Prod.snd))) := by
  refine T.fin ?_
  unfold table_has slices_ContainsFunc_Lapi_Item_api_Item
  have hll : (ps.map itG).length = ps.length := List.length_map ..
  refine T.cal (Q := fun r => r = decide (v ∈ somes (ps.map Prod.snd))) ?_ fun r _ hr => T.some hr
  refine T.cal (Q := fun r => decide (0 ≤ r) = decide (v ∈ somes (ps.map Prod.snd))) ?_ fun r _ hr => T.some hr
  unfold slices_IndexFunc_Lapi_Item_api_Item
  refine T.lp (fun (k : Int) => 0 ≤ k ∧ k ≤ ps.length ∧ ¬ v ∈ somes ((ps.take k.toNat).map Prod.snd)) (fun (k : Int) => ((ps.length : Int) - k).toNat) ⟨Int.le_refl _, by omega, fun h => by cases h⟩ (by omega) fun L k ⟨k1, k2, k3⟩ hL => T.br (fun h => ?_) fun h => T.some ?_
  · have h := of_decide_eq_true h
    rw [hll] at h
    have hk1 : (k + 1).toNat = k.toNat + 1 := by omega
    obtain ⟨p, hp⟩ : ∃ p, ps[k.toNat]? = some p := ⟨_, List.getElem?_eq_getElem (by omega)⟩
    have hsn : somes ((ps.take (k.toNat + 1)).map Prod.snd) = somes ((ps.take k.toNat).map Prod.snd) ++ p.2.toList := by
      rw [List.take_add_one, hp, List.map_append]
      unfold somes
      rw [List.filterMap_append]
      cases hp2 : p.2 <;> simp [hp2]
    have hmem : v ∈ p.2.toList → v ∈ somes (ps.map Prod.snd) := fun hm => by
      unfold somes
      refine List.mem_filterMap.2 ⟨p.2, List.mem_map.2 ⟨p, List.mem_of_getElem? hp, rfl⟩, ?_⟩
      cases hp2 : p.2 with
      | none => rw [hp2] at hm; cases hm
      | some w => rw [hp2] at hm; rw [List.mem_singleton.1 hm]; rfl
    refine T.eq (getI_at k1 (by rw [List.getElem?_map, hp]; rfl)) ?_
    have hc : table_has_c1 (itG p) v = some (decide (v ∈ p.2.toList)) := by
      refine T.fin ?_
      unfold table_has_c1 itG
      cases p.2 with
      | none => exact T.jp (fun b => b = false) (fun J hJ => T.brF rfl (hJ _ rfl)) fun b hb => T.some (by rw [hb]; rfl)
      | some w => exact T.jp (fun b => b = decide (w = v)) (fun J hJ => T.brT rfl (hJ _ rfl)) fun b hb => T.some (by
          rw [hb]
          exact decide_eq_decide.2 ⟨fun e => List.mem_singleton.2 e.symm, fun h => (List.mem_singleton.1 h).symm⟩)
    refine T.eq hc (T.br (fun h2 => T.some ?_) fun h2 => T.ck (by omega) (hL _ ⟨by omega, by omega, ?_⟩ (by omega)))
    · rw [decide_eq_true k1, decide_eq_true (hmem (of_decide_eq_true h2))]
    · rw [hk1, hsn]
      intro hm
      rcases List.mem_append.1 hm with h | h
      · exact k3 h
      · exact of_decide_eq_false h2 h
  · have h := of_decide_eq_false h
    rw [hll] at h
    have : k.toNat = ps.length := by omega
    rw [this, List.take_length] at k3
    rw [decide_eq_false k3]; rfl
end Go.Proofs.YtiibmpdjkdjbiaaGreatDoor


namespace Go.Proofs.YtiibmpdjkdjbiaaGreatDoor
open Go.Sy
set_option linter.unusedVariables false
set_option maxRecDepth 4000

def topN (l : List Int) : Int := l.foldl max (-1)
theorem topN_snoc (l : List Int) (v : Int) : topN (l ++ [v]) = max (topN l) v := by unfold topN; rw [List.foldl_append]; rfl
theorem fold_ge : ∀ (l : List Int) (a : Int), a ≤ l.foldl max a ∧ ∀ x ∈ l, x ≤ l.foldl max a
  | [], a => ⟨Int.le_refl _, fun x h => by cases h⟩
  | b :: r, a => by
    obtain ⟨h1, h2⟩ := fold_ge r (max a b)
    rw [List.foldl_cons]
    refine ⟨by omega, fun x hx => ?_⟩
    rcases List.mem_cons.1 hx with h | h
    · subst h; omega
    · exact h2 x h
theorem fold_le {b : Int} : ∀ (l : List Int) (a : Int), a ≤ b → (∀ x ∈ l, x ≤ b) → l.foldl max a ≤ b
  | [], a, h, _ => h
  | c :: r, a, h, hl => by
    rw [List.foldl_cons]
    have := hl c (List.mem_cons_self ..)
    exact fold_le r _ (by omega) fun x hx => hl x (List.mem_cons_of_mem _ hx)
theorem topN_ge {l : List Int} : ∀ x ∈ l, x ≤ topN l := (fold_ge l (-1)).2
theorem topN_m1 (l : List Int) : -1 ≤ topN l := (fold_ge l (-1)).1
theorem topN_le {l : List Int} {b : Int} (hb : -1 ≤ b) (h : ∀ x ∈ l, x ≤ b) : topN l ≤ b := fold_le l (-1) hb h
def addsN : Nat → List Int → List Int
  | 0, l => l
  | j + 1, l => addsN j l ++ [topN (addsN j l) + 1]
theorem addsN_len : ∀ (j : Nat) (l : List Int), (addsN j l).length = l.length + j
  | 0, l => rfl
  | j + 1, l => by show (addsN j l ++ [_]).length = _; rw [List.length_append, addsN_len j l]; simp; omega
theorem addsN_in {b : Int} {l : List Int} (hb : 0 ≤ b) (h : ∀ x ∈ l, 0 ≤ x ∧ x ≤ b) : ∀ j : Nat, ∀ x ∈ addsN j l, 0 ≤ x ∧ x ≤ b + j
  | 0, x, hx => by have := h x hx; omega
  | j + 1, x, hx => by
    have ih := addsN_in hb h j
    rcases List.mem_append.1 hx with hx | hx
    · have := ih x hx; omega
    · have hx : x = topN (addsN j l) + 1 := List.mem_singleton.1 hx
      have h1 := topN_m1 (addsN j l)
      have h2 : topN (addsN j l) ≤ b + j := topN_le (by omega) fun y hy => (ih y hy).2
      omega
theorem addsN_nd {l : List Int} (h : l.Nodup) : ∀ j : Nat, (addsN j l).Nodup
  | 0 => h
  | j + 1 => List.nodup_append.2 ⟨addsN_nd h j, List.nodup_cons.2 ⟨List.not_mem_nil, List.nodup_nil⟩, fun a ha c hc e => by
    have hc : c = topN (addsN j l) + 1 := List.mem_singleton.1 hc
    have := topN_ge a ha
    omega⟩
theorem behind_eq {l : List GItem} (hne : l ≠ []) (hb : ∀ x ∈ l, 0 ≤ x.number ∧ x.number ≤ 100000) (hl : l.length ≤ 1000) : table_behind l = some (topN (l.map fun x => x.number) + 1, true) := by
  refine T.fin ?_
  unfold table_behind
  have h0 : 0 < l.length := List.length_pos_iff.2 hne
  refine T.brF (decide_eq_false (by omega)) ?_
  obtain ⟨y, r, rfl⟩ : ∃ y r, l = y :: r := by
    cases l with
    | nil => exact absurd rfl hne
    | cons y r => exact ⟨y, r, rfl⟩
  refine T.eq (getI_at (t := y) (Int.le_refl _) rfl) ?_
  generalize hL : y :: r = l at *
  refine T.lp (ι := Int × Int) (fun q => 0 ≤ q.2 ∧ q.2 ≤ l.length ∧ q.1 = ((l.take q.2.toNat).map fun x => x.number).foldl max y.number) (fun q => ((l.length : Int) - q.2).toNat) ⟨Int.le_refl _, by dsimp only; omega, rfl⟩ (by dsimp only; omega) fun L q ⟨q1, q2, q3⟩ hL2 => ?_
  obtain ⟨m, k⟩ := q
  dsimp only at q1 q2 q3 hL2 ⊢
  refine T.br (fun h => ?_) fun h => ?_
  · have h := of_decide_eq_true h
    have hk1 : (k + 1).toNat = k.toNat + 1 := by omega
    refine T.get q1 h fun z hz => T.ck (by omega) (hL2 _ ⟨by dsimp only; omega, by dsimp only; omega, ?_⟩ (by dsimp only; omega))
    dsimp only
    rw [hk1, List.take_add_one, hz, List.map_append, List.foldl_append, ← q3]; rfl
  · have h := of_decide_eq_false h
    have hk : k.toNat = l.length := by omega
    rw [hk, List.take_length] at q3
    have hy := hb y (by rw [← hL]; exact List.mem_cons_self ..)
    have e : m = topN (l.map fun x => x.number) := by
      rw [q3, ← hL]
      unfold topN
      rw [List.map_cons, List.foldl_cons, List.foldl_cons]
      rw [show max y.number y.number = max (-1) y.number by omega]
    have h2 : m ≤ 100000 := by
      rw [e]
      exact topN_le (by omega) fun x hx => by
        obtain ⟨z, hz, rfl⟩ := List.mem_map.1 hx
        exact (hb z hz).2
    have h3 := topN_m1 (l.map fun x => x.number)
    refine T.ck (by omega) (T.some ?_)
    rw [decide_eq_true (show m < 9223372036854775807 by omega), e]
def numAt (ps : List (List UInt8 × Option Int)) (i : Nat) : List Int := addsN (i - ps.length) (numsN (somes (ps.map Prod.snd)) ((ps.map Prod.snd).take i)).2
theorem somes_take {l : List (Option Int)} (i : Nat) : (∀ x ∈ somes (l.take i), x ∈ somes l) ∧ ((somes l).Nodup → (somes (l.take i)).Nodup) := by
  have h : somes l = somes (l.take i) ++ somes (l.drop i) := by
    unfold somes
    rw [← List.filterMap_append, List.take_append_drop]
  exact ⟨fun x hx => by rw [h]; exact List.mem_append_left _ hx, fun hn => by rw [h] at hn; exact (List.nodup_append.1 hn).1⟩
theorem somes_len (l : List (Option Int)) : (somes l).length ≤ l.length := List.length_filterMap_le _ _
structure PsOk (ps : List (List UInt8 × Option Int)) : Prop where
  ne : ps ≠ []
  len : ps.length ≤ 12
  nd : (somes (ps.map Prod.snd)).Nodup
  b : ∀ x ∈ somes (ps.map Prod.snd), 0 ≤ x ∧ x < 20
theorem ps_next {ps : List (List UInt8 × Option Int)} (h : PsOk ps) (i : Nat) : 0 ≤ (numsN (somes (ps.map Prod.snd)) ((ps.map Prod.snd).take i)).1 ∧ (numsN (somes (ps.map Prod.snd)) ((ps.map Prod.snd).take i)).1 ≤ 200 ∧ (numsN (somes (ps.map Prod.snd)) ((ps.map Prod.snd).take i)).2.Nodup ∧ ∀ x ∈ (numsN (somes (ps.map Prod.snd)) ((ps.map Prod.snd).take i)).2, 0 ≤ x ∧ x ≤ 200 := by
  have hs := somes_take (l := ps.map Prod.snd) i
  have I := numI (u := somes (ps.map Prod.snd)) ((ps.map Prod.snd).take i) hs.1 (hs.2 h.nd)
  have h1 := somes_len (ps.map Prod.snd)
  rw [List.length_map] at h1
  have h2 : ((ps.map Prod.snd).take i).length ≤ 12 := by rw [List.length_take, List.length_map]; have := h.len; omega
  have h3 : ((somes (ps.map Prod.snd)).length + 1) * ((ps.map Prod.snd).take i).length ≤ 13 * 12 := Nat.mul_le_mul (by have := h.len; omega) h2
  have i1 := I.n1
  have i0 := I.n0
  have h4 : (numsN (somes (ps.map Prod.snd)) ((ps.map Prod.snd).take i)).1 ≤ 200 := by
    have : (((((somes (ps.map Prod.snd)).length + 1) * ((ps.map Prod.snd).take i).length : Nat)) : Int) ≤ 156 := by omega
    rw [Int.natCast_mul] at this
    have e : (((somes (ps.map Prod.snd)).length + 1 : Nat) : Int) = ((somes (ps.map Prod.snd)).length : Int) + 1 := by omega
    rw [e] at this
    omega
  refine ⟨i0, h4, I.nd, fun x hx => ?_⟩
  rcases I.mem x hx with h5 | h5
  · have := h.b x (hs.1 x h5); omega
  · omega
theorem numAt_in {ps : List (List UInt8 × Option Int)} (h : PsOk ps) (i : Nat) : ∀ x ∈ numAt ps i, 0 ≤ x ∧ x ≤ 200 + ((i - ps.length : Nat) : Int) := addsN_in (by omega) (ps_next h i).2.2.2 _
theorem numAt_nd {ps : List (List UInt8 × Option Int)} (h : PsOk ps) (i : Nat) : (numAt ps i).Nodup := addsN_nd (ps_next h i).2.2.1 _
end Go.Proofs.YtiibmpdjkdjbiaaGreatDoor


namespace Go.Proofs.YtiibmpdjkdjbiaaGreatDoor
open Go.Sy
set_option linter.unusedVariables false
set_option maxRecDepth 4000

def allP (ps : List (List UInt8 × Option Int)) (ad : List (List UInt8)) : List (List UInt8 × Option Int) := ps ++ ad.map fun nm => (nm, none)
theorem allP_len (ps : List (List UInt8 × Option Int)) (ad : List (List UInt8)) : (allP ps ad).length = ps.length + ad.length := by unfold allP; rw [List.length_append, List.length_map]
theorem numAt_has {ps : List (List UInt8 × Option Int)} {i : Nat} {p : List UInt8 × Option Int} (hp : ps[i]? = some p) : numAt ps (i + 1) = (stN (somes (ps.map Prod.snd)) (numsN (somes (ps.map Prod.snd)) ((ps.map Prod.snd).take i)) p.2).2 ∧ numAt ps i = (numsN (somes (ps.map Prod.snd)) ((ps.map Prod.snd).take i)).2 ∧ (numsN (somes (ps.map Prod.snd)) ((ps.map Prod.snd).take (i + 1))) = stN (somes (ps.map Prod.snd)) (numsN (somes (ps.map Prod.snd)) ((ps.map Prod.snd).take i)) p.2 := by
  have hi := (List.getElem?_eq_some_iff.1 hp).1
  have e : (ps.map Prod.snd).take (i + 1) = (ps.map Prod.snd).take i ++ [p.2] := by
    rw [List.take_add_one, List.getElem?_map, hp]; rfl
  unfold numAt
  rw [show i + 1 - ps.length = 0 by omega, show i - ps.length = 0 by omega, e, numsN_snoc]
  exact ⟨rfl, rfl, rfl⟩
theorem numAt_add {ps : List (List UInt8 × Option Int)} {i : Nat} (hi : ps.length ≤ i) : numAt ps (i + 1) = numAt ps i ++ [topN (numAt ps i) + 1] := by
  unfold numAt
  rw [List.take_of_length_le (by rw [List.length_map]; omega), List.take_of_length_le (by rw [List.length_map]; omega), show i + 1 - ps.length = (i - ps.length) + 1 by omega]
  rfl
theorem numAt_len {ps : List (List UInt8 × Option Int)} {k : Nat} (hk : ps.length ≤ k) : (numAt ps k).length = k := by
  unfold numAt
  rw [addsN_len]
  unfold numsN
  rw [numsN_len, List.length_take, List.length_map]
  show 0 + min k ps.length + (k - ps.length) = k
  omega
theorem numAt_take {ps : List (List UInt8 × Option Int)} {k : Nat} (hk : ps.length ≤ k) : ∀ d : Nat, (numAt ps (k + d)).take k = numAt ps k
  | 0 => List.take_of_length_le (by rw [Nat.add_zero, numAt_len hk]; exact Nat.le_refl _)
  | d + 1 => by
    rw [show k + (d + 1) = (k + d) + 1 by omega, numAt_add (by omega), List.take_append_of_le_length (by rw [numAt_len (by omega)]; omega)]
    exact numAt_take hk d
theorem numbered_T {ps : List (List UInt8 × Option Int)} {ad : List (List UInt8)} (h : PsOk ps) (ha : ad.length ≤ 4) {n : GNode} (hi : n.items = (allP ps ad).map itG) (hr : n.root = ps.length) :
    T (fun r => r.2 = true ∧ (r.1.map fun x => x.number) = numAt ps (allP ps ad).length ∧ (r.1.map fun x => x.name) = (allP ps ad).map fun p => ⟨p.1⟩) (table_numbered n) := by
  have hall := allP_len ps ad
  have hl12 := h.len
  have hil : n.items.length = (allP ps ad).length := by rw [hi, List.length_map]
  have hroot : table_root n.root n.items = some (ps.length : Int) := by
    show some (max (0 : Int) (min n.root (n.items.length : Int))) = _
    rw [hr, hil]
    congr 1
    omega
  unfold table_numbered
  refine T.eq hroot ?_
  refine T.lp (ι := List GItem × Int × Int) (fun q => 0 ≤ q.2.2 ∧ q.2.2 ≤ (allP ps ad).length ∧ (q.1.map fun x => x.number) = numAt ps q.2.2.toNat ∧ (q.1.map fun x => x.name) = ((allP ps ad).map fun p => (⟨p.1⟩ : Str)).take q.2.2.toNat ∧ q.1.length ≤ 100 ∧ (q.2.2 < ps.length → q.2.1 = (numsN (somes (ps.map Prod.snd)) ((ps.map Prod.snd).take q.2.2.toNat)).1)) (fun q => (((allP ps ad).length : Int) - q.2.2).toNat)
    ⟨Int.le_refl _, by dsimp only; omega, by show [] = _; unfold numAt; rw [show (0 : Int).toNat - ps.length = 0 by show 0 - ps.length = 0; omega]; rfl, rfl, Nat.zero_le _, fun _ => rfl⟩ (by dsimp only; omega) fun L q ⟨q1, q2, q3, q4, q5, q6⟩ hL => ?_
  obtain ⟨out, nx, i⟩ := q
  dsimp only at q1 q2 q3 q4 q5 q6 hL ⊢
  rw [hil]
  have hol : (out.map fun x => x.name).length = min i.toNat (allP ps ad).length := by rw [q4, List.length_take, List.length_map]
  rw [List.length_map] at hol
  refine T.br (fun hb => ?_) fun hb => T.some ⟨rfl, ?_, ?_⟩
  · have hb := of_decide_eq_true hb
    have hi1 : (i + 1).toNat = i.toNat + 1 := by omega
    obtain ⟨p, hp⟩ : ∃ p, (allP ps ad)[i.toNat]? = some p := ⟨_, List.getElem?_eq_getElem (by omega)⟩
    refine T.eq (getI_at (t := itG p) q1 (by rw [hi, List.getElem?_map, hp]; rfl)) ?_
    have hnm : (itG p).name = ⟨p.1⟩ := by unfold itG; split <;> rfl
    refine T.jp (ι := Int × Bool × GItem) (fun r => r.2.1 = true ∧ r.2.2.name = ⟨p.1⟩ ∧ numAt ps (i.toNat + 1) = numAt ps i.toNat ++ [r.2.2.number] ∧ (i + 1 < ps.length → r.1 = (numsN (somes (ps.map Prod.snd)) ((ps.map Prod.snd).take (i.toNat + 1))).1)) (fun J hJ => ?_) fun r ⟨r1, r2, r3, r4⟩ => ?_
    · rcases Int.lt_or_le i (ps.length : Int) with hk | hk
      · have hp' : ps[i.toNat]? = some p := by
          unfold allP at hp
          rw [List.getElem?_append_left (by omega)] at hp
          exact hp
        obtain ⟨n1, n2, n3⟩ := numAt_has hp'
        obtain ⟨b1, b2, _, _⟩ := ps_next h i.toNat
        have q6 := q6 hk
        cases hp2 : p.2 with
        | some v =>
          have e : itG p = ⟨⟨p.1⟩, v, true⟩ := by unfold itG; rw [hp2]
          rw [e]
          refine T.brT rfl (hJ _ ⟨rfl, rfl, ?_, fun _ => ?_⟩)
          · rw [n1, n2, hp2]; rfl
          · rw [n3, hp2]; exact q6
        | none =>
          have e : itG p = ⟨⟨p.1⟩, 0, false⟩ := by unfold itG; rw [hp2]
          rw [e]
          have hf := fr_spec (somes (ps.map Prod.snd)) nx
          have hf2 := fr_le (somes (ps.map Prod.snd)) nx
          have hsl := somes_len (ps.map Prod.snd)
          rw [List.length_map] at hsl
          refine T.brF rfl (T.brT (decide_eq_true hk) ?_)
          refine T.lp (fun (v : Int) => nx ≤ v ∧ v ≤ fr (somes (ps.map Prod.snd)) nx) (fun (v : Int) => (fr (somes (ps.map Prod.snd)) nx - v).toNat) ⟨Int.le_refl _, hf.le⟩ (by omega) fun L2 v ⟨v1, v2⟩ hL2 => ?_
          refine T.asd ⟨Int.le_refl _, by omega, by omega⟩ ?_
          have e2 : (n.items.take ((ps.length : Nat) : Int).toNat).drop (0 : Int).toNat = ps.map itG := by
            show n.items.take ps.length = _
            rw [hi]
            unfold allP
            rw [List.map_append, List.take_append_of_le_length (by rw [List.length_map]; exact Nat.le_refl _), List.take_of_length_le (by rw [List.length_map]; exact Nat.le_refl _)]
          rw [e2]
          refine T.eq (has_eq (by omega)) (T.br (fun hm => ?_) fun hm => ?_)
          · have := hf.lt v2 (of_decide_eq_true hm)
            exact T.ck (by omega) (hL2 _ ⟨by omega, by omega⟩ (by omega))
          · have hv := hf.eq v1 v2 (of_decide_eq_false hm)
            refine T.ck (by omega) (hJ _ ⟨rfl, rfl, ?_, fun _ => ?_⟩)
            · rw [n1, n2, hp2, hv, q6]; rfl
            · rw [n3, hp2, hv, q6]; rfl
      · have hp2 : p.2 = none := by
          unfold allP at hp
          rw [List.getElem?_append_right (by omega), List.getElem?_map] at hp
          cases ha2 : ad[i.toNat - ps.length]? with
          | none => rw [ha2] at hp; cases hp
          | some nm => rw [ha2] at hp; cases hp; rfl
        have e : itG p = ⟨⟨p.1⟩, 0, false⟩ := by unfold itG; rw [hp2]
        rw [e]
        have hne : out ≠ [] := fun e => by
          rw [e] at hol
          have := h.ne
          have h1 : 0 < ps.length := List.length_pos_iff.2 h.ne
          have hol : 0 = min i.toNat (allP ps ad).length := hol
          omega
        have hbd : ∀ x ∈ out, 0 ≤ x.number ∧ x.number ≤ 100000 := fun x hx => by
          have := numAt_in h i.toNat x.number (by rw [← q3]; exact List.mem_map.2 ⟨x, hx, rfl⟩)
          omega
        refine T.brF rfl (T.brF (decide_eq_false (by omega)) (T.eq (behind_eq hne hbd (by omega)) (hJ _ ⟨rfl, rfl, ?_, fun h => by omega⟩)))
        rw [numAt_add (by omega), q3]
    · refine T.brF (by rw [r1]; rfl) (T.abl (by simp only [List.length_singleton]; omega) (T.ck (by omega) (hL _ ⟨by dsimp only; omega, by dsimp only; omega, ?_, ?_, ?_, ?_⟩ (by dsimp only; omega))))
      · dsimp only
        rw [List.map_append, q3, hi1, r3]; rfl
      · dsimp only
        rw [List.map_append, q4, hi1, List.take_add_one, List.getElem?_map, hp]
        show _ ++ [r.2.2.name] = _
        rw [r2]; rfl
      · dsimp only
        rw [List.length_append, List.length_singleton]; omega
      · dsimp only
        rw [hi1]; exact r4
  · have hb := of_decide_eq_false hb
    have : i.toNat = (allP ps ad).length := by omega
    rw [q3, this]
  · have hb := of_decide_eq_false hb
    have : i.toNat = (allP ps ad).length := by omega
    rw [q4, this]
    exact List.take_of_length_le (by rw [List.length_map]; exact Nat.le_refl _)
theorem nd_inj2 {α : Type} {l : List α} (h : l.Nodup) {i j : Nat} {a : α} (hi : l[i]? = some a) (hj : l[j]? = some a) : i = j := by
  obtain ⟨k1, e1⟩ := List.getElem?_eq_some_iff.1 hi
  obtain ⟨k2, e2⟩ := List.getElem?_eq_some_iff.1 hj
  rcases Nat.lt_trichotomy i j with c | c | c
  · exact absurd (e1.trans e2.symm) (List.pairwise_iff_getElem.1 h i j k1 k2 c)
  · exact c
  · exact absurd (e2.trans e1.symm) (List.pairwise_iff_getElem.1 h j i k2 k1 c)
theorem alike_no {l : List GItem} {y : GItem} (hl : l.length ≤ 1000) (h : ∀ x ∈ l, x.name ≠ y.name ∧ x.number ≠ y.number) : slices_ContainsFunc_Lapi_Item_api_Item_1 l y = some false := by
  refine T.fin ?_
  unfold slices_ContainsFunc_Lapi_Item_api_Item_1
  refine T.cal (Q := fun r => r = -1) ?_ fun r _ hr => T.some (by rw [hr]; rfl)
  unfold slices_IndexFunc_Lapi_Item_api_Item_1
  refine T.lp (fun (k : Int) => 0 ≤ k ∧ k ≤ l.length) (fun (k : Int) => ((l.length : Int) - k).toNat) ⟨Int.le_refl _, by omega⟩ (by omega) fun L k ⟨k1, k2⟩ hL => T.br (fun hb => ?_) fun _ => T.some rfl
  have hb := of_decide_eq_true hb
  refine T.get k1 hb fun z hz => ?_
  obtain ⟨h1, h2⟩ := h z (List.mem_of_getElem? hz)
  have hc : table_items_c1 z y = some false := by
    refine T.fin ?_
    unfold table_items_c1
    exact T.jp (fun b => b = false) (fun J hJ => T.brF (decide_eq_false h1) (hJ _ (decide_eq_false h2))) fun b hb => T.some hb
  exact T.eq hc (T.brF rfl (T.ck (by omega) (hL _ ⟨by omega, by omega⟩ (by omega))))
theorem items_T2 {ps : List (List UInt8 × Option Int)} {ad : List (List UInt8)} (h : PsOk ps) (ha : ad.length ≤ 4) (hn : ((allP ps ad).map fun p => (⟨p.1⟩ : Str)).Nodup) {n : GNode} (hi : n.items = (allP ps ad).map itG) (hr : n.root = ps.length) :
    T (fun r => r.2 = 0 ∧ (r.1.map fun x => x.number) = numAt ps (allP ps ad).length) (table_items n) := by
  have hall := allP_len ps ad
  have hl12 := h.len
  have hil : n.items.length = (allP ps ad).length := by rw [hi, List.length_map]
  have hroot : table_root n.root n.items = some (ps.length : Int) := by
    show some (max (0 : Int) (min n.root (n.items.length : Int))) = _
    rw [hr, hil]
    congr 1
    omega
  unfold table_items
  refine T.cal (numbered_T h ha hi hr) fun r _ ⟨r1, r2, r3⟩ => T.brF (by rw [r1]; rfl) (T.eq hroot ?_)
  have hrl : r.1.length = (allP ps ad).length := by
    have := congrArg List.length r3
    rwa [List.length_map, List.length_map] at this
  refine T.lp (fun (k : Int) => 0 ≤ k ∧ k ≤ r.1.length) (fun (k : Int) => ((r.1.length : Int) - k).toNat) ⟨Int.le_refl _, by omega⟩ (by omega) fun L k ⟨k1, k2⟩ hL => T.br (fun hb => ?_) fun _ => T.some ⟨rfl, r2⟩
  have hb := of_decide_eq_true hb
  obtain ⟨y, hy⟩ : ∃ y, r.1[k.toNat]? = some y := ⟨_, List.getElem?_eq_getElem (by omega)⟩
  have nk : (r.1.map fun x => x.number)[k.toNat]? = some y.number := by rw [List.getElem?_map, hy]; rfl
  have mk : (r.1.map fun x => x.name)[k.toNat]? = some y.name := by rw [List.getElem?_map, hy]; rfl
  refine T.eq (getI_at k1 hy) (T.asd ⟨Int.le_refl _, k1, k2⟩ (T.eq (alike_no (by rw [List.length_drop, List.length_take]; omega) fun x hx => ?_) ?_))
  · have hx : x ∈ r.1.take k.toNat := hx
    obtain ⟨j, hj⟩ := List.getElem?_of_mem hx
    have hjk := (List.getElem?_eq_some_iff.1 hj).1
    rw [List.length_take] at hjk
    have hj2 : r.1[j]? = some x := by rw [List.getElem?_take, if_pos (by omega)] at hj; exact hj
    refine ⟨fun e => ?_, fun e => ?_⟩
    · have := nd_inj2 (r3 ▸ hn) (i := j) (j := k.toNat) (a := y.name) (by rw [List.getElem?_map, hj2]; show some x.name = _; rw [e]) mk
      omega
    · have := nd_inj2 (r2 ▸ numAt_nd h _) (i := j) (j := k.toNat) (a := y.number) (by rw [List.getElem?_map, hj2]; show some x.number = _; rw [e]) nk
      omega
  refine T.jp (fun b => b = false) (fun J hJ => T.brF rfl (T.jp (fun b => b = false) (fun J2 h2 => T.br (fun hk => ?_) fun _ => h2 _ rfl) fun b hb2 => hJ _ hb2)) fun b hb2 => T.brF hb2 (T.ck (by omega) (hL _ ⟨by omega, by omega⟩ (by omega)))
  have hk := of_decide_eq_true hk
  obtain ⟨z, hz⟩ : ∃ z, r.1[(k - 1).toNat]? = some z := ⟨_, List.getElem?_eq_getElem (by omega)⟩
  refine T.ck (by omega) (T.eq (getI_at (by omega) hz) (h2 _ (decide_eq_false ?_)))
  have hkl : ps.length ≤ k.toNat := by omega
  have zk : (r.1.map fun x => x.number)[(k - 1).toNat]? = some z.number := by rw [List.getElem?_map, hz]; rfl
  rw [r2] at nk zk
  have t1 := numAt_take hkl ((allP ps ad).length - k.toNat)
  rw [show k.toNat + ((allP ps ad).length - k.toNat) = (allP ps ad).length by omega] at t1
  have t2 := numAt_take (ps := ps) (k := k.toNat + 1) (by omega) ((allP ps ad).length - (k.toNat + 1))
  rw [show k.toNat + 1 + ((allP ps ad).length - (k.toNat + 1)) = (allP ps ad).length by omega, numAt_add hkl] at t2
  have hz2 : z.number ∈ numAt ps k.toNat := by
    rw [← t1]
    exact List.mem_of_getElem? (i := (k - 1).toNat) (by rw [List.getElem?_take, if_pos (by omega)]; exact zk)
  have hy2 : (numAt ps k.toNat ++ [topN (numAt ps k.toNat) + 1])[k.toNat]? = some y.number := by
    rw [← t2, List.getElem?_take, if_pos (by omega)]; exact nk
  have e := numAt_len hkl
  rw [List.getElem?_append_right (by omega), e, Nat.sub_self] at hy2
  have hy3 : topN (numAt ps k.toNat) + 1 = y.number := Option.some.inj hy2
  have := topN_ge z.number hz2
  omega
end Go.Proofs.YtiibmpdjkdjbiaaGreatDoor


namespace Go.Proofs.YtiibmpdjkdjbiaaGreatDoor
open Go.Sy
set_option linter.unusedVariables false
set_option maxRecDepth 4000

def dgl (v : Nat) : List UInt8 := match h_Digits 20 (UInt64.ofNat v) with
  | some s => s.b
  | none => []
def nameOk (w : List UInt8) (k : Int) : Bool := isLetter (hd w) && nmAll w 32 && !decide (w.getLast? = some 45) && decide (w.length ≤ 60) && decide (kindN w = k)
def dgOk (v : Nat) : Bool := (match h_Digits 20 (UInt64.ofNat v) with
  | some s => decide (s.b = dgl v)
  | none => false) && numOk false (dgl v) && decide (r05_Whole ⟨dgl v⟩ = some (v : Int)) && decide ((dgl v).length ≤ 3) && nameOk (102 :: dgl v) 2 && nameOk (84 :: dgl v) 1 && nameOk (105 :: dgl v) 2 && nameOk (97 :: dgl v) 2 && decide (dval (dgl v) = v)
theorem dg_all : (List.range 256).all dgOk = true := by kernel_rfl
structure Dg (v : Nat) : Prop where
  eq : h_Digits fuel (UInt64.ofNat v) = some ⟨dgl v⟩
  num : numOk false (dgl v) = true
  val : Num (dgl v) v
  len : (dgl v).length ≤ 3
  f : nameOk (102 :: dgl v) 2 = true
  t : nameOk (84 :: dgl v) 1 = true
  i : nameOk (105 :: dgl v) 2 = true
  a : nameOk (97 :: dgl v) 2 = true
  inj : dval (dgl v) = v
theorem digits_mono : ∀ {n m : Nat} {v : UInt64} {s : Str}, h_Digits n v = some s → n ≤ m → h_Digits m v = some s
  | 0, _, _, _, h, _ => by cases h
  | n + 1, m, v, s, h, hm => by
    obtain ⟨m, rfl⟩ : ∃ m', m = m' + 1 := ⟨m - 1, by omega⟩
    have h : h_Digits_F (h_Digits n) v = some s := h
    show h_Digits_F (h_Digits m) v = some s
    unfold h_Digits_F at h ⊢
    cases hb : decide (v < (10 : UInt64)) with
    | true => rw [hb] at h; exact h
    | false =>
      rw [hb] at h
      have h : jp (ι := Str) (fun J3 => asr (!decide ((10 : UInt64) = 0)) <| asr (!decide ((10 : UInt64) = 0)) <| cal (h_Digits n (v / (10 : UInt64))) fun y6 => asr (Nat.ble (y6.b.length + (Str.mk ([((48 : UInt64) + (v % (10 : UInt64))).toUInt8] : (List UInt8))).b.length) 4611686018427387904) <| J3 ((Str.mk (y6.b ++ (Str.mk ([((48 : UInt64) + (v % (10 : UInt64))).toUInt8] : (List UInt8))).b)))) (fun q2 => some (q2)) = some s := h
      refine jp_inv h fun J hJ h => asr_inv h fun h1 h => asr_inv h fun h2 h => cal_inv h fun y hy h => ?_
      subst hJ
      have := digits_mono hy (by omega : n ≤ m)
      show asr (!decide ((10 : UInt64) = 0)) (asr (!decide ((10 : UInt64) = 0)) (cal (h_Digits m (v / (10 : UInt64))) _)) = _
      rw [this]
      exact h
theorem dgs (v : Nat) (hv : v < 256) : Dg v := by
  have h := List.all_eq_true.1 dg_all v (List.mem_range.2 hv)
  unfold dgOk at h
  simp only [Bool.and_eq_true, decide_eq_true_eq] at h
  obtain ⟨⟨⟨⟨⟨⟨⟨⟨h1, h2⟩, h3⟩, h4⟩, h5⟩, h6⟩, h7⟩, h8⟩, h9⟩ := h
  have he : h_Digits 20 (UInt64.ofNat v) = some ⟨dgl v⟩ := by
    cases hd : h_Digits 20 (UInt64.ofNat v) with
    | none => rw [hd] at h1; cases h1
    | some s =>
      rw [hd] at h1
      have : s.b = dgl v := of_decide_eq_true h1
      rw [← this]
  exact ⟨digits_mono he (by unfold fuel; omega), h2, ⟨numOk_ne h2, h3⟩, h4, h5, h6, h7, h8, h9⟩
theorem dgl_inj {v w : Nat} (hv : v < 256) (hw : w < 256) (h : dgl v = dgl w) : v = w := by
  rw [← (dgs v hv).inj, ← (dgs w hw).inj, h]

theorem KT.word {w x : List UInt8} {k : Int} {ks : KS} (h : nameOk w k = true) (hx : KT (32 :: x) ks) : KT (w ++ 32 :: x) ((k, w) :: ks) := by
  unfold nameOk at h
  simp only [Bool.and_eq_true, decide_eq_true_eq, Bool.not_eq_true', decide_eq_false_iff_not] at h
  obtain ⟨⟨⟨⟨h1, h2⟩, h3⟩, h4⟩, h5⟩ := h
  have := KT.name (x := 32 :: x) h1 h2 rfl h3 h4 hx
  rw [h5] at this
  exact this
theorem KT.dgt {v : Nat} {x : List UInt8} {ks : KS} (hv : v < 256) (h1 : isDigit (hd x) = false) (h2 : isLetter (hd x) = false) (hx : KT x ks) : KT (dgl v ++ x) ((3, dgl v) :: ks) := KT.num (dgs v hv).num h1 h2 hx
end Go.Proofs.YtiibmpdjkdjbiaaGreatDoor


namespace Go.Proofs.YtiibmpdjkdjbiaaGreatDoor
open Go.Sy
set_option linter.unusedVariables false

theorem nm_44 : ∀ w : List UInt8, nmAll w 44 = nmAll w 32
  | [] => rfl
  | c :: w => by
    show (inName c (w ++ [44]) && nmAll w 44) = (inName c (w ++ [32]) && nmAll w 32)
    rw [nm_44 w]
    cases w with
    | nil => rfl
    | cons d w => rw [inName_hd (r := (d :: w) ++ [44]) (s := (d :: w) ++ [32]) rfl]
theorem KT.wordc {w x : List UInt8} {k : Int} {ks : KS} (h : nameOk w k = true) (hx : KT (44 :: x) ks) : KT (w ++ 44 :: x) ((k, w) :: ks) := by
  unfold nameOk at h
  simp only [Bool.and_eq_true, decide_eq_true_eq, Bool.not_eq_true', decide_eq_false_iff_not] at h
  obtain ⟨⟨⟨⟨h1, h2⟩, h3⟩, h4⟩, h5⟩ := h
  have := KT.name (x := 44 :: x) h1 (by show nmAll w 44 = true; rw [nm_44]; exact h2) rfl h3 h4 hx
  rw [h5] at this
  exact this
def EI.byts : EI → List UInt8
  | .it nm => nm
  | .num nm ds _ => nm ++ (32 :: 40 :: (ds ++ [41]))
  | .dots => [46, 46, 46]
def EI.lexK : EI → Prop
  | .it nm => nameOk nm 2 = true
  | .num nm ds v => nameOk nm 2 = true ∧ ∃ n : Nat, n < 256 ∧ ds = dgl n ∧ v = n
  | .dots => True
theorem ei_KT {x : EI} (hx : x.lexK) {c : UInt8} (hc : c = 44 ∨ c = 32) {y : List UInt8} {ks : KS} (h : KT (c :: y) ks) : KT (x.byts ++ c :: y) (x.toks ++ ks) := by
  cases x with
  | it nm =>
    rcases hc with rfl | rfl
    · exact KT.wordc hx h
    · exact KT.word hx h
  | num nm ds v =>
    obtain ⟨h1, n, hn, rfl, rfl⟩ := hx
    have h2 : KT (41 :: c :: y) ((6, [41]) :: ks) := .tok rfl rfl h
    have h3 : KT (32 :: 40 :: (dgl n ++ 41 :: c :: y)) ((6, [40]) :: (3, dgl n) :: (6, [41]) :: ks) := .tok rfl rfl (KT.dgt hn rfl rfl h2)
    have h4 := KT.word h1 h3
    have e : (nm ++ (32 :: 40 :: (dgl n ++ [41]))) ++ c :: y = nm ++ 32 :: 40 :: (dgl n ++ 41 :: c :: y) := by simp
    show KT ((nm ++ (32 :: 40 :: (dgl n ++ [41]))) ++ c :: y) _
    rw [e]
    exact h4
  | dots =>
    rcases hc with rfl | rfl
    · exact .tok rfl rfl h
    · exact .tok rfl rfl h
def joinE : List EI → List UInt8
  | [] => []
  | [x] => x.byts
  | x :: y :: r => x.byts ++ (44 :: 32 :: joinE (y :: r))
theorem joinE_KT : ∀ {l : List EI}, l ≠ [] → (∀ x ∈ l, x.lexK) → ∀ {y : List UInt8} {ks : KS}, KT (32 :: y) ks → KT (joinE l ++ 32 :: y) (sepK (l.map EI.toks) ++ ks)
  | [], hne, _, _, _, _ => absurd rfl hne
  | [x], _, hl, y, ks, h => ei_KT (hl x (List.mem_singleton.2 rfl)) (.inr rfl) h
  | x :: z :: r, _, hl, y, ks, h => by
    have ih := joinE_KT (l := z :: r) (by simp) (fun w hw => hl w (List.mem_cons_of_mem _ hw)) h
    have h2 : KT (44 :: 32 :: (joinE (z :: r) ++ 32 :: y)) ((6, [44]) :: (sepK ((z :: r).map EI.toks) ++ ks)) := .tok rfl rfl (KT.sp ih)
    have h3 := ei_KT (hl x (List.mem_cons_self ..)) (.inl rfl) h2
    have e1 : joinE (x :: z :: r) ++ 32 :: y = x.byts ++ 44 :: 32 :: (joinE (z :: r) ++ 32 :: y) := by
      show (x.byts ++ (44 :: 32 :: joinE (z :: r))) ++ 32 :: y = _
      rw [List.append_assoc]; rfl
    have e2 : sepK ((x :: z :: r).map EI.toks) ++ ks = x.toks ++ ((6, [44]) :: (sepK ((z :: r).map EI.toks) ++ ks)) := by
      show (x.toks ++ (6, [44]) :: sepK ((z :: r).map EI.toks)) ++ ks = _
      rw [List.append_assoc]; rfl
    rw [e1, e2]
    exact h3
theorem joinE_snoc : ∀ {l : List EI} (x : EI), l ≠ [] → joinE (l ++ [x]) = joinE l ++ (44 :: 32 :: x.byts)
  | [], _, h => absurd rfl h
  | [y], x, _ => rfl
  | y :: z :: r, x, _ => by
    have ih := joinE_snoc (l := z :: r) x (by simp)
    show y.byts ++ (44 :: 32 :: joinE ((z :: r) ++ [x])) = (y.byts ++ (44 :: 32 :: joinE (z :: r))) ++ _
    rw [ih, List.append_assoc]; rfl
theorem byts_len {x : EI} (h : x.lexK) : x.byts.length ≤ 70 := by
  cases x with
  | it nm =>
    have h : nameOk nm 2 = true := h
    unfold nameOk at h
    simp only [Bool.and_eq_true, decide_eq_true_eq, Bool.not_eq_true', decide_eq_false_iff_not] at h
    have := h.1.2
    show nm.length ≤ 70
    omega
  | num nm ds v =>
    obtain ⟨h, n, hn, rfl, rfl⟩ := h
    unfold nameOk at h
    simp only [Bool.and_eq_true, decide_eq_true_eq, Bool.not_eq_true', decide_eq_false_iff_not] at h
    have := h.1.2
    have := (dgs n hn).len
    show (nm ++ (32 :: 40 :: (dgl n ++ [41]))).length ≤ 70
    simp only [List.length_append, List.length_cons, List.length_nil]
    omega
  | dots => exact Nat.le_of_ble_eq_true rfl
theorem joinE_len : ∀ {l : List EI}, (∀ x ∈ l, x.lexK) → (joinE l).length ≤ 72 * l.length
  | [], _ => Nat.zero_le _
  | [x], h => by have := byts_len (h x (List.mem_singleton.2 rfl)); show x.byts.length ≤ 72 * 1; omega
  | x :: z :: r, h => by
    have := byts_len (h x (List.mem_cons_self ..))
    have ih := joinE_len (l := z :: r) fun w hw => h w (List.mem_cons_of_mem _ hw)
    show (x.byts ++ (44 :: 32 :: joinE (z :: r))).length ≤ 72 * ((z :: r).length + 1)
    simp only [List.length_append, List.length_cons] at ih ⊢
    omega
end Go.Proofs.YtiibmpdjkdjbiaaGreatDoor


namespace Go.Proofs.YtiibmpdjkdjbiaaGreatDoor
open Go.Sy
set_option linter.unusedVariables false
set_option maxRecDepth 4000

def eiP (p : List UInt8 × Option Int) : EI := match p.2 with
  | none => .it p.1
  | some v => .num p.1 (dgl v.toNat) v
theorem eiP_stp (n : GNode) (p : List UInt8 × Option Int) : EI.stp n (eiP p) = addI n (itG p) := by
  unfold eiP itG
  cases p.2 <;> rfl
def eisA (ps : List (List UInt8 × Option Int)) (ad : List (List UInt8)) : List EI := ps.map eiP ++ (if ad = [] then [] else .dots :: ad.map .it)
def setI (n : GNode) (l : List GItem) : GNode := ⟨n.kind, n.name, n.mark, n.con, l, n.fields, n.root, n.more, n.of⟩
theorem fold_ei : ∀ (ps : List (List UInt8 × Option Int)) (n : GNode), (ps.map eiP).foldl EI.stp n = setI n (n.items ++ ps.map itG)
  | [], n => by rw [List.map_nil, List.map_nil, List.append_nil]; rfl
  | p :: r, n => by
    rw [List.map_cons, List.foldl_cons, eiP_stp, fold_ei r]
    unfold setI addI
    dsimp only
    rw [List.append_assoc]; rfl
theorem fold_it : ∀ (ad : List (List UInt8)) (n : GNode), (ad.map EI.it).foldl EI.stp n = setI n (n.items ++ (ad.map fun nm => ((nm, none) : List UInt8 × Option Int)).map itG)
  | [], n => by rw [List.map_nil, List.map_nil, List.map_nil, List.append_nil]; rfl
  | p :: r, n => by
    rw [List.map_cons, List.foldl_cons, fold_it r]
    unfold setI EI.stp addI
    dsimp only
    rw [List.append_assoc]; rfl
theorem okE_app : ∀ {a b : List EI} {n : GNode}, okE n a → okE (a.foldl EI.stp n) b → okE n (a ++ b)
  | [], _, _, _, h => h
  | .it nm :: r, b, n, h1, h2 => okE_app (a := r) h1 h2
  | .num nm ds v :: r, b, n, h1, h2 => ⟨h1.1, okE_app (a := r) h1.2 h2⟩
  | .dots :: r, b, n, h1, h2 => ⟨h1.1, h1.2.1, okE_app (a := r) h1.2.2 h2⟩
theorem okE_ps : ∀ {ps : List (List UInt8 × Option Int)} {n : GNode}, (∀ x ∈ somes (ps.map Prod.snd), 0 ≤ x ∧ x < 20) → okE n (ps.map eiP)
  | [], _, _ => trivial
  | p :: r, n, h => by
    obtain ⟨nm, o⟩ := p
    cases o with
    | none => exact okE_ps (ps := r) fun x hx => h x hx
    | some v =>
      have hv := h v (by unfold somes; exact List.mem_filterMap.2 ⟨some v, List.mem_map.2 ⟨_, List.mem_cons_self .., rfl⟩, rfl⟩)
      have e : (v.toNat : Int) = v := by omega
      have hN := (dgs v.toNat (by omega)).val
      rw [e] at hN
      exact ⟨hN, okE_ps (ps := r) fun x hx => h x (by
        unfold somes at hx ⊢
        rw [List.map_cons, List.filterMap_cons]
        exact List.mem_cons_of_mem _ hx)⟩
theorem okE_it : ∀ {ad : List (List UInt8)} {n : GNode}, okE n (ad.map EI.it)
  | [], _ => trivial
  | p :: r, n => okE_it (ad := r)
@[reducible] def con0 : GCon := ⟨false, false, false, false, 0, 0⟩
def nodeE (μ : GMark) (ps : List (List UInt8 × Option Int)) (ad : List (List UInt8)) : GNode := ⟨3, ⟨[]⟩, μ, con0, (allP ps ad).map itG, [], (ps.length : Int), !decide (ad = []), 0⟩
theorem eisA_ok {ps : List (List UInt8 × Option Int)} (h : PsOk ps) (ad : List (List UInt8)) (μ : GMark) : okE { zm μ with kind := 3 } (eisA ps ad) := by
  unfold eisA
  refine okE_app (okE_ps h.b) ?_
  rw [fold_ei]
  split
  · trivial
  · refine ⟨?_, rfl, okE_it⟩
    show [] ++ ps.map itG ≠ []
    rw [List.nil_append]
    intro e
    exact h.ne (List.map_eq_nil_iff.1 e)
theorem eisA_node {ps : List (List UInt8 × Option Int)} (ad : List (List UInt8)) (μ : GMark) : endE ((eisA ps ad).foldl EI.stp { zm μ with kind := 3 }) = nodeE μ ps ad := by
  unfold eisA
  rw [List.foldl_append, fold_ei]
  by_cases ha : ad = []
  · subst ha
    rw [if_pos rfl]
    unfold nodeE allP endE setI zm
    simp
  · rw [if_neg ha, List.foldl_cons, fold_it]
    unfold nodeE allP endE setI zm EI.stp
    simp [ha]
theorem beg_enum : Beg 5 [69, 78, 85, 77, 69, 82, 65, 84, 69, 68] := fun ⟨_, _, _⟩ h1 h2 => by dsimp only at h1 h2; subst h1; subst h2; kernel_rfl
theorem eisA_len (ps : List (List UInt8 × Option Int)) (ad : List (List UInt8)) : (eisA ps ad).length ≤ ps.length + ad.length + 1 := by
  unfold eisA
  rw [List.length_append, List.length_map]
  split
  · simp; omega
  · rw [List.length_cons, List.length_map]; omega
theorem eisA_ne {ps : List (List UInt8 × Option Int)} (h : PsOk ps) (ad : List (List UInt8)) : eisA ps ad ≠ [] := fun e => by
  unfold eisA at e
  exact h.ne (List.map_eq_nil_iff.1 (List.append_eq_nil_iff.1 e).1)
def asE (ps : List (List UInt8 × Option Int)) (ad : List (List UInt8)) : As := ⟨[69], enumT (eisA ps ad), 1, fun _ => [nodeE noM ps ad], 1⟩
theorem asE_K {ps : List (List UInt8 × Option Int)} (h : PsOk ps) {ad : List (List UInt8)} (ha : ad.length ≤ 4) : AsK (asE ps ad) := by
  have hl := eisA_len ps ad
  have h12 := h.len
  have hb := base_enum (eisA_ne h ad) (by omega) (eisA_ok h ad)
  have ht := typ_un hb beg_enum rfl
  refine ⟨?_, by show 1 ≤ 17; omega⟩
  have e : (fun i : Nat => endE ((eisA ps ad).foldl EI.stp { zm noM with kind := 3 }) :: ([] : List GNode)) = fun _ => [nodeE noM ps ad] := by
    funext i
    rw [eisA_node]
  show TypK 1 (enumT (eisA ps ad)) 1 (fun _ => [nodeE noM ps ad])
  rw [← e]
  exact ht
def modE (ps : List (List UInt8 × Option Int)) (ad : List (List UInt8)) : GMod := ⟨⟨[77]⟩, 0, [⟨[69]⟩], [0], [nodeE noM ps ad]⟩
def preE : List UInt8 := [77, 32, 68, 69, 70, 73, 78, 73, 84, 73, 79, 78, 83, 32, 58, 58, 61, 32, 66, 69, 71, 73, 78, 32, 69, 32, 58, 58, 61, 32, 69, 78, 85, 77, 69, 82, 65, 84, 69, 68, 32, 123, 32]
theorem parse_enum {ps : List (List UInt8 × Option Int)} (h : PsOk ps) {ad : List (List UInt8)} (ha : ad.length ≤ 4) (hlex : ∀ x ∈ eisA ps ad, x.lexK) {s : Str} (hs : s.b = preE ++ (joinE (eisA ps ad) ++ [32, 125, 32, 69, 78, 68])) : ∃ p, r05_Parse s = some (modE ps ad, p, 0) := by
  have h1 : KT [32, 125, 32, 69, 78, 68] [(6, [125]), (5, [69, 78, 68])] := .tok rfl rfl (.tok rfl rfl (.fin rfl))
  have h2 := joinE_KT (eisA_ne h ad) hlex h1
  have e : modT [77] 0 [asE ps ad] = (1, [77]) :: (5, [68, 69, 70, 73, 78, 73, 84, 73, 79, 78, 83]) :: (6, [58, 58, 61]) :: (5, [66, 69, 71, 73, 78]) :: (1, [69]) :: (6, [58, 58, 61]) :: (5, [69, 78, 85, 77, 69, 82, 65, 84, 69, 68]) :: (6, [123]) :: (sepK ((eisA ps ad).map EI.toks) ++ [(6, [125]), (5, [69, 78, 68])]) := by
    unfold modT asE As.toks enumT
    simp [tagT]
  have hkt : KT s.b (modT [77] 0 [asE ps ad]) := by
    rw [hs, e]
    exact .tok rfl rfl (.tok rfl rfl (.tok rfl rfl (.tok rfl rfl (.tok rfl rfl (.tok rfl rfl (.tok rfl rfl (.tok rfl rfl (KT.sp h2))))))))
  have hl := eisA_len ps ad
  have h12 := h.len
  have hjl := joinE_len hlex
  have hp := parse_mod (g := 0) (by omega) hkt (by
    rw [hs]
    simp only [List.length_append, List.length_cons, List.length_nil, preE]
    omega) (by show 1 ≤ 40; omega) (by show 1 + 0 ≤ 300; omega) (fun x hx => by rw [List.mem_singleton.1 hx]; exact asE_K h ha)
  exact ⟨_, hp⟩
theorem ord1 (its : List GItem) (root : Int) (more : Bool) : refs_Order ⟨⟨[77]⟩, 0, [⟨[69]⟩], [0], [⟨3, ⟨[]⟩, noM, con0, its, [], root, more, 0⟩]⟩ = some ([0], 0, 0) := by kernel_rfl
end Go.Proofs.YtiibmpdjkdjbiaaGreatDoor


namespace Go.Proofs.YtiibmpdjkdjbiaaGreatDoor
open Go.Sy
set_option maxRecDepth 4000
def tokF (s : Str) : Option (List GTok × Int × Int) := some (toks s.b)
theorem tokF_eq : r04_Tokens = tokF := funext tokens_eq
def r05_ParseF (a_text : Str) : Option (GMod × Int × Int) :=
  cal (tokF a_text) fun y2 => br (!decide (y2.2.2 = (0 : Int))) (some ((GMod.mk (Str.mk []) (0 : Int) ([] : (List Str)) ([] : (List Int)) ([] : (List GNode))), y2.2.1, y2.2.2)) (cal (r05_parser_kind (GPar.mk y2.1 (0 : Int) (GMod.mk (Str.mk []) (0 : Int) ([] : (List Str)) ([] : (List Int)) ([] : (List GNode))) (0 : Int) (0 : Int)) (1 : Int)) fun y7 => cal (r05_parser_must (GPar.mk y7.2.l y7.2.at_ (GMod.mk y7.1 y7.2.m.tagging y7.2.m.names y7.2.m.types y7.2.m.nodes) y7.2.e y7.2.p) (Str.mk [68, 69, 70, 73, 78, 73, 84, 73, 79, 78, 83])) fun y10 => jp (ι := GPar) (fun J14 => cal (r05_parser_is y10 (Str.mk [69, 88, 80, 76, 73, 67, 73, 84])) fun y15 => br y15.1 (cal (r05_parser_must y15.2 (Str.mk [84, 65, 71, 83])) fun y18 => J14 (y18)) (cal (r05_parser_is y15.2 (Str.mk [73, 77, 80, 76, 73, 67, 73, 84])) fun y21 => br y21.1 (cal (r05_parser_must (GPar.mk y21.2.l y21.2.at_ (GMod.mk y21.2.m.name (1 : Int) y21.2.m.names y21.2.m.types y21.2.m.nodes) y21.2.e y21.2.p) (Str.mk [84, 65, 71, 83])) fun y24 => J14 (y24)) (cal (r05_parser_is y21.2 (Str.mk [65, 85, 84, 79, 77, 65, 84, 73, 67])) fun y27 => br y27.1 (cal (r05_parser_must (GPar.mk y27.2.l y27.2.at_ (GMod.mk y27.2.m.name (2 : Int) y27.2.m.names y27.2.m.types y27.2.m.nodes) y27.2.e y27.2.p) (Str.mk [84, 65, 71, 83])) fun y30 => J14 (y30)) (J14 (y27.2))))) (fun q13 => cal (r05_parser_must q13 (Str.mk [58, 58, 61])) fun y33 => cal (r05_parser_must y33 (Str.mk [66, 69, 71, 73, 78])) fun y36 => lp (ι := GPar) (fun L40 q39 => jp (ι := Bool × GPar) (fun J92 => br (decide (q39.e = (0 : Int))) (cal (r05_parser_is q39 (Str.mk [69, 78, 68])) fun y94 => J92 ((!y94.1), y94.2)) (J92 (false, q39))) (fun q91 => br q91.1 (cal (r05_parser_now q91.2) fun y97 => cal (r05_parser_kind y97.2 (1 : Int)) fun y101 => jp (ι := Bool) (fun J105 => br (decide (y101.2.e = (0 : Int))) (J105 ((decide ((40 : Int) ≤ (y101.2.m.names.length : Int))))) (J105 (false))) (fun q104 => jp (ι := GPar) (fun J108 => br q104 (cal (r05_parser_fail y101.2 (5 : Int) y97.1) fun y109 => J108 (y109)) (J108 (y101.2))) (fun q107 => cal (r05_parser_must q107 (Str.mk [58, 58, 61])) fun y112 => cal (r05_parser_typ fuel y112 (0 : Int)) fun y115 => asr (Nat.ble (y115.2.m.names.length + ([y101.1] : (List Str)).length) 68719476736) <| asr (Nat.ble (y115.2.m.types.length + ([y115.1] : (List Int)).length) 68719476736) <| L40 ((GPar.mk y115.2.l y115.2.at_ (GMod.mk y115.2.m.name y115.2.m.tagging (y115.2.m.names ++ ([y101.1] : (List Str))) (y115.2.m.types ++ ([y115.1] : (List Int))) y115.2.m.nodes) y115.2.e y115.2.p))))) (jp (ι := Bool × GPar) (fun J126 => br (decide (q91.2.e = (0 : Int))) (cal (r05_parser_now q91.2) fun y128 => J126 ((!decide (y128.1.kind = (0 : Int))), y128.2)) (J126 (false, q91.2))) (fun q125 => jp (ι := GPar) (fun J132 => br q125.1 (cal (r05_parser_now q125.2) fun y133 => cal (r05_parser_fail y133.2 (7 : Int) y133.1) fun y136 => J132 (y136)) (J132 (q125.2))) (fun q131 => br (!decide (q131.e = (0 : Int))) (some ((GMod.mk (Str.mk []) (0 : Int) ([] : (List Str)) ([] : (List Int)) ([] : (List GNode))), q131.p, q131.e)) (some (q131.m, (0 : Int), (0 : Int)))))))) ((y36))))
theorem r05_ParseF_eq : r05_Parse = r05_ParseF := by
  funext a_text
  unfold r05_Parse r05_ParseF
  rw [tokF_eq]
def law10_awakeF : Option (Bool) :=
  cal (r05_ParseF (Str.mk [77, 32, 68, 69, 70, 73, 78, 73, 84, 73, 79, 78, 83, 32, 58, 58, 61, 32, 66, 69, 71, 73, 78, 32, 65, 32, 58, 58, 61, 32, 83, 69, 81, 85, 69, 78, 67, 69, 32, 123, 32, 120, 32, 73, 78, 84, 69, 71, 69, 82, 32, 40, 48, 46, 46, 55, 41, 44, 32, 46, 46, 46, 32, 125, 32, 69, 78, 68])) fun y1 => cal (table_Make y1.1) fun y3 => jp (ι := Bool) (fun J6 => br (decide (y3.2.2 = (0 : Int))) (J6 ((decide ((y3.1.types.length : Int) = (2 : Int))))) (J6 (false))) (fun q5 => jp (ι := Bool) (fun J9 => br q5 (cal (table_Find y3.1 (Str.mk [65])) fun y11 => J9 ((decide (y11 = (0 : Int))))) (J9 (false))) (fun q8 => jp (ι := Bool) (fun J13 => br q8 (cal (getI y3.1.types (1 : Int)) fun y15 => J13 ((decide ((y15.tags.length : Int) = (1 : Int))))) (J13 (false))) (fun q12 => some (q12))))
theorem law10_awakeF_eq : law10_awake = law10_awakeF := by
  unfold law10_awake law10_awakeF
  rw [r05_ParseF_eq]
end Go.Proofs.YtiibmpdjkdjbiaaGreatDoor


namespace Go.Proofs.YtiibmpdjkdjbiaaGreatDoor
open Go.Sy
set_option linter.unusedVariables false
set_option maxRecDepth 4000

theorem awake10 : law10_awake = some true := by rw [law10_awakeF_eq]; kernel_rfl
theorem nodeT_unf (n : Nat) : table_maker_node (n + 1) = table_maker_node_F (table_maker_field n) (table_maker_node n) (table_maker_made n) (table_maker_fields n) := rfl
theorem madeT_unf (n : Nat) : table_maker_made (n + 1) = table_maker_made_F (table_maker_field n) (table_maker_node n) (table_maker_made n) (table_maker_fields n) := rfl
theorem clone1 (s : Str) : slices_Clone_Lstring_string [s] = some [s] := by kernel_rfl
theorem univ3 : tags_Universal 3 = some ⟨0, 10⟩ := by kernel_rfl
theorem add0 (t : GTyp) (m : GMod) : table_types_add ⟨⟨[]⟩, m⟩ t = some (0, ⟨⟨[t]⟩, m⟩) := by kernel_rfl
theorem made_enum {ps : List (List UInt8 × Option Int)} {ad : List (List UInt8)} (h : PsOk ps) (ha : ad.length ≤ 4) (hn : ((allP ps ad).map fun p => (⟨p.1⟩ : Str)).Nodup) {n : Nat} {m : GMod} :
    T (fun r => r.1 = 0 ∧ r.2.1 = 0 ∧ ∃ t : GTyp, r.2.2 = ⟨⟨[t]⟩, m⟩ ∧ (t.items.map fun x => x.number) = numAt ps (allP ps ad).length) (table_maker_made (n + 1) ⟨⟨[]⟩, m⟩ (nodeE noM ps ad) 0) := by
  rw [madeT_unf]
  unfold table_maker_made_F
  refine T.jp (fun b => b = false) (fun J hJ => T.brF rfl (hJ _ rfl)) fun b hb => T.brF hb ?_
  refine T.jp0 (T.brT rfl (T.eq (y := ⟨0, 10⟩) univ3 (T.eq (add0 _ _) ?_)))
  refine T.jp (ι := Int × GTmk) (fun p => p.1 = 0 ∧ ∃ t : GTyp, p.2 = ⟨⟨[t]⟩, m⟩ ∧ (t.items.map fun x => x.number) = numAt ps (allP ps ad).length) (fun J hJ => ?_) fun p ⟨p1, p2⟩ => T.some ⟨rfl, p1, p2⟩
  refine T.brF rfl (T.jp (fun b => b = false) (fun J2 h2 => T.brF rfl (h2 _ rfl)) fun b hb => T.brF hb (T.brF rfl (T.brT rfl (T.cal (items_T2 h ha hn (n := nodeE noM ps ad) rfl rfl) fun r _ ⟨r1, r2⟩ => ?_))))
  exact T.asr rfl (T.eq (y := _) rfl (hJ _ ⟨r1, _, rfl, r2⟩))
theorem make_enum {ps : List (List UInt8 × Option Int)} {ad : List (List UInt8)} (h : PsOk ps) (ha : ad.length ≤ 4) (hn : ((allP ps ad).map fun p => (⟨p.1⟩ : Str)).Nodup) :
    T (fun r => r.2.2 = 0 ∧ ∃ t : GTyp, r.1.types = [t] ∧ (t.items.map fun x => x.number) = numAt ps (allP ps ad).length) (table_Make (modE ps ad)) := by
  unfold table_Make
  refine T.eq (ord1 _ _ _) (T.brF rfl (T.brF rfl ?_))
  refine T.jp0 (T.eq (clone1 _) ?_)
  refine T.lp (ι := Int × GTab × GTmk) (fun q => (q.1 = 0 ∧ q.2.1.roots = [] ∧ q.2.2 = ⟨⟨[]⟩, modE ps ad⟩) ∨ (q.1 = 1 ∧ ∃ t : GTyp, q.2.2.types.l = [t] ∧ (t.items.map fun x => x.number) = numAt ps (allP ps ad).length)) (fun q => (1 - q.1).toNat) (.inl ⟨rfl, rfl, rfl⟩) (by dsimp only; omega) fun L q hq hL => ?_
  obtain ⟨i, t, y⟩ := q
  dsimp only at hq hL ⊢
  rcases hq with ⟨rfl, h2, rfl⟩ | ⟨rfl, t1, h2, h3⟩
  · refine T.brT rfl (T.eq (y := 0) rfl ?_)
    have hnode : T (fun r => r.1 = 0 ∧ r.2.1 = 0 ∧ ∃ t : GTyp, r.2.2 = ⟨⟨[t]⟩, modE ps ad⟩ ∧ (t.items.map fun x => x.number) = numAt ps (allP ps ad).length) (table_maker_node fuel ⟨⟨[]⟩, modE ps ad⟩ 0 0) := by
      have e : fuel = (fuel - 2) + 1 + 1 := by unfold fuel; rfl
      rw [e, nodeT_unf]
      unfold table_maker_node_F
      refine T.jp (fun b => b = false) (fun J hJ => T.brF rfl (hJ _ rfl)) fun b hb => T.brF hb (T.eq (y := nodeE noM ps ad) rfl ?_)
      refine T.jp (ι := Int × Int × GTmk) (fun r => r.1 = 0 ∧ r.2.1 = 0 ∧ ∃ t : GTyp, r.2.2 = ⟨⟨[t]⟩, modE ps ad⟩ ∧ (t.items.map fun x => x.number) = numAt ps (allP ps ad).length) (fun J hJ => T.brF rfl (T.cal (made_enum h ha hn) fun r _ hr => hJ _ hr)) fun r ⟨r1, r2, r3⟩ => ?_
      refine T.brF (by rw [r2]; rfl) (T.eq (y := (0, r.2.2)) (by unfold table_maker_marked; rfl) (T.some ⟨r1, rfl, r3⟩))
    refine T.cal hnode fun r _ ⟨r1, r2, t1, r3, r4⟩ => T.brF (by rw [r2]; rfl) (T.abl (by rw [h2]; exact Nat.le_of_ble_eq_true rfl) (T.ck (by omega) (hL _ (.inr ⟨rfl, t1, by dsimp only; rw [r3], r4⟩) (by dsimp only; omega))))
  · exact T.brF rfl (T.some ⟨rfl, t1, h2, h3⟩)
/-! ### The law -/
def w20 (y : Int) : Int := (((UInt64.ofNat (y % 18446744073709551616).toNat) % (20 : UInt64)).toNat : Int)
theorem w20_b (y : Int) : 0 ≤ w20 y ∧ w20 y < 20 := by
  unfold w20
  have : ((UInt64.ofNat (y % 18446744073709551616).toNat) % (20 : UInt64)).toNat < 20 := by rw [UInt64.toNat_mod]; exact Nat.mod_lt _ (by decide)
  omega
def optW (w : List Int) (h : List Bool) (j : Nat) : Option Int := if h[j]? = some true then (w[j]?).map w20 else none
def psW (w : List Int) (h : List Bool) (i : Nat) : List (List UInt8 × Option Int) := (List.range i).map fun j => (105 :: dgl j, optW w h j)
def adW (i : Nat) : List (List UInt8) := (List.range i).map fun j => 97 :: dgl j
theorem psW_succ (w : List Int) (h : List Bool) (i : Nat) : psW w h (i + 1) = psW w h i ++ [(105 :: dgl i, optW w h i)] := by unfold psW; rw [List.range_succ, List.map_append]; rfl
theorem adW_succ (i : Nat) : adW (i + 1) = adW i ++ [97 :: dgl i] := by unfold adW; rw [List.range_succ, List.map_append]; rfl
theorem psW_len (w : List Int) (h : List Bool) (i : Nat) : (psW w h i).length = i := by unfold psW; rw [List.length_map, List.length_range]
theorem adW_len (i : Nat) : (adW i).length = i := by unfold adW; rw [List.length_map, List.length_range]
theorem opt_b {w : List Int} {h : List Bool} {i : Nat} {x : Int} (hx : x ∈ somes ((psW w h i).map Prod.snd)) : 0 ≤ x ∧ x < 20 := by
  unfold somes at hx
  obtain ⟨o, ho, he⟩ := List.mem_filterMap.1 hx
  obtain ⟨p, hp, rfl⟩ := List.mem_map.1 ho
  unfold psW at hp
  obtain ⟨j, _, rfl⟩ := List.mem_map.1 hp
  have he : optW w h j = some x := he
  unfold optW at he
  split at he
  · cases hw : w[j]? with
    | none => rw [hw] at he; cases he
    | some y => rw [hw] at he; cases he; exact w20_b y
  · cases he
theorem names_nd (w : List Int) (h : List Bool) {i a : Nat} (hi : i ≤ 12) (ha : a ≤ 4) : ((allP (psW w h i) (adW a)).map fun p => (⟨p.1⟩ : Str)).Nodup := by
  have e : ((allP (psW w h i) (adW a)).map fun p => (⟨p.1⟩ : Str)) = ((List.range i).map fun j => (⟨105 :: dgl j⟩ : Str)) ++ ((List.range a).map fun j => (⟨97 :: dgl j⟩ : Str)) := by
    unfold allP psW adW
    rw [List.map_append, List.map_map, List.map_map, List.map_map]; rfl
  rw [e]
  have inj : ∀ (c : UInt8) (n : Nat), n ≤ 12 → ((List.range n).map fun j => (⟨c :: dgl j⟩ : Str)).Nodup := fun c n hn => by
    unfold List.Nodup
    rw [List.pairwise_map]
    refine List.Pairwise.imp_of_mem (R := fun a b : Nat => a < b) (fun {a b} ha hb hab e => ?_) List.pairwise_lt_range
    have ha := List.mem_range.1 ha
    have hb := List.mem_range.1 hb
    have e : dgl a = dgl b := by
      have := congrArg Str.b e
      exact (List.cons.inj this).2
    have := dgl_inj (by omega) (by omega) e
    omega
  refine List.nodup_append.2 ⟨inj 105 i hi, inj 97 a (by omega), fun u hu v hv e => ?_⟩
  obtain ⟨j, _, rfl⟩ := List.mem_map.1 hu
  obtain ⟨k, _, rfl⟩ := List.mem_map.1 hv
  have := congrArg Str.b e
  exact absurd (List.cons.inj this).1 (by decide)
theorem lexW (w : List Int) (h : List Bool) {i a : Nat} (hi : i ≤ 12) (ha : a ≤ 4) : ∀ x ∈ eisA (psW w h i) (adW a), x.lexK := by
  intro x hx
  unfold eisA at hx
  rcases List.mem_append.1 hx with hx | hx
  · obtain ⟨p, hp, rfl⟩ := List.mem_map.1 hx
    have hp0 := hp
    unfold psW at hp
    obtain ⟨j, hj, rfl⟩ := List.mem_map.1 hp
    have hj := List.mem_range.1 hj
    have hd := (dgs j (by omega)).i
    unfold eiP
    dsimp only
    cases ho : optW w h j with
    | none => exact hd
    | some v =>
      have hv := opt_b (w := w) (h := h) (i := i) (x := v) (by
        unfold somes
        exact List.mem_filterMap.2 ⟨some v, List.mem_map.2 ⟨_, hp0, ho⟩, rfl⟩)
      exact ⟨hd, v.toNat, by omega, rfl, by omega⟩
  · split at hx
    · cases hx
    · rcases List.mem_cons.1 hx with hx | hx
      · subst hx; trivial
      · obtain ⟨p, hp, rfl⟩ := List.mem_map.1 hx
        unfold adW at hp
        obtain ⟨j, hj, rfl⟩ := List.mem_map.1 hp
        have hj := List.mem_range.1 hj
        exact (dgs j (by omega)).a
theorem num20_eq {v : Int} (h0 : 0 ≤ v) (h1 : v < 256) : h_Number v = some ⟨dgl v.toNat⟩ := by
  refine T.fin ?_
  unfold h_Number
  have e : (v % 18446744073709551616).toNat = v.toNat := by omega
  refine T.brF (decide_eq_false (by omega)) ?_
  rw [e]
  exact T.eq (dgs v.toNat (by omega)).eq (T.some rfl)
end Go.Proofs.YtiibmpdjkdjbiaaGreatDoor


namespace Go.Proofs.YtiibmpdjkdjbiaaGreatDoor
open Go.Sy
set_option linter.unusedVariables false
set_option maxRecDepth 4000

theorem numAt_l (ps : List (List UInt8 × Option Int)) (k : Nat) : (numAt ps k).length = k := by
  unfold numAt
  rw [addsN_len]
  unfold numsN
  rw [numsN_len, List.length_take, List.length_map]
  show 0 + min k ps.length + (k - ps.length) = k
  omega
theorem numAt_snoc (ps : List (List UInt8 × Option Int)) (k : Nat) : ∃ x, numAt ps (k + 1) = numAt ps k ++ [x] := by
  rcases Nat.lt_or_ge k ps.length with h | h
  · obtain ⟨n1, n2, _⟩ := numAt_has (List.getElem?_eq_getElem h)
    rw [n1, n2]
    cases (ps[k]).2 with
    | some v => exact ⟨_, rfl⟩
    | none => exact ⟨_, rfl⟩
  · exact ⟨_, numAt_add h⟩
theorem numAt_tk (ps : List (List UInt8 × Option Int)) (k : Nat) : ∀ d : Nat, (numAt ps (k + d)).take k = numAt ps k
  | 0 => List.take_of_length_le (by rw [Nat.add_zero, numAt_l]; exact Nat.le_refl _)
  | d + 1 => by
    obtain ⟨x, hx⟩ := numAt_snoc ps (k + d)
    rw [show k + (d + 1) = (k + d) + 1 by omega, hx, List.take_append_of_le_length (by rw [numAt_l]; omega)]
    exact numAt_tk ps k d
theorem numAt_idx {ps : List (List UInt8 × Option Int)} {k N : Nat} {v : Int} (hk : k < N) (h : numAt ps (k + 1) = numAt ps k ++ [v]) : (numAt ps N)[k]? = some v := by
  have t := numAt_tk ps (k + 1) (N - (k + 1))
  rw [show k + 1 + (N - (k + 1)) = N by omega, h] at t
  have h2 : (numAt ps k ++ [v])[k]? = some v := by rw [List.getElem?_append_right (by rw [numAt_l]; exact Nat.le_refl _), numAt_l, Nat.sub_self]; rfl
  rw [← t, List.getElem?_take, if_pos (by omega)] at h2
  exact h2
theorem somes_snoc (l : List (Option Int)) (o : Option Int) : somes (l ++ [o]) = somes l ++ o.toList := by
  unfold somes
  rw [List.filterMap_append]
  cases o <;> rfl
theorem eisA_snoc {ps : List (List UInt8 × Option Int)} (j : Nat) : eisA ps (adW (j + 1)) = (eisA ps (adW j) ++ (if j = 0 then [EI.dots] else [])) ++ [EI.it (97 :: dgl j)] := by
  unfold eisA
  have h1 : adW (j + 1) ≠ [] := fun e => by have := congrArg List.length e; rw [adW_len] at this; cases this
  rw [if_neg h1, adW_succ, List.map_append]
  by_cases hj : j = 0
  · subst hj
    rw [if_pos rfl]
    show ps.map eiP ++ (.dots :: ([] ++ [EI.it (97 :: dgl 0)])) = _
    rw [show adW 0 = [] from rfl, if_pos rfl]
    simp
  · have h2 : adW j ≠ [] := fun e => hj (by have := congrArg List.length e; rw [adW_len] at this; exact this)
    rw [if_neg hj, if_neg h2]
    simp
theorem joinE_ne {l : List EI} (h : l ≠ []) (x : EI) : joinE (l ++ [x]) = joinE l ++ (44 :: 32 :: x.byts) := joinE_snoc x h
theorem numbers_true (w : List Int) (h : List Bool) (added : Int) : law10_TableNumbers w h added = some true := by
  refine T.fin ?_
  unfold law10_TableNumbers
  refine T.jp (fun b => b = false → w ≠ [] ∧ w.length ≤ 12) (fun J hJ => T.br (fun _ => hJ _ fun e => by cases e) fun h1 => hJ _ fun h2 => ?_) fun b hb => T.br (fun _ => T.eq awake10 (T.some rfl)) fun hb' => ?_
  · have h1 := of_decide_eq_false h1
    have h2 := of_decide_eq_false h2
    exact ⟨fun e => by subst e; exact h1 rfl, by omega⟩
  obtain ⟨hne, h12⟩ := hb hb'
  have hw0 : 0 < w.length := List.length_pos_iff.2 hne
  -- the items
  refine T.lp (ι := Str × List Int × Int) (fun q => 0 ≤ q.2.2 ∧ q.2.2 ≤ w.length ∧ q.1.b = joinE ((psW w h q.2.2.toNat).map eiP) ∧ q.2.1 = somes ((psW w h q.2.2.toNat).map Prod.snd) ∧ q.2.1.Nodup) (fun q => ((w.length : Int) - q.2.2).toNat) ⟨Int.le_refl _, by dsimp only; omega, rfl, rfl, List.nodup_nil⟩ (by dsimp only; omega) fun L q ⟨q1, q2, q3, q4, q5⟩ hL => ?_
  obtain ⟨tx, us, i⟩ := q
  dsimp only at q1 q2 q3 q4 q5 hL ⊢
  obtain ⟨k, hk⟩ : ∃ k : Nat, i = k := ⟨i.toNat, by omega⟩
  subst hk
  rw [Int.toNat_natCast] at q3 q4
  have hk12 : k ≤ 12 := by omega
  have hus : us.length ≤ 12 := by
    rw [q4]
    have := somes_len ((psW w h k).map Prod.snd)
    rw [List.length_map, psW_len] at this
    omega
  have hlexk : ∀ x ∈ (psW w h k).map eiP, x.lexK := fun x hx => lexW w h (a := 0) hk12 (by omega) x (by unfold eisA; exact List.mem_append_left _ hx)
  have htl : tx.b.length ≤ 2000 := by
    have := joinE_len hlexk
    rw [q3]
    rw [List.length_map, psW_len] at this
    omega
  have hu64 : ((k : Int) % 18446744073709551616).toNat = k := by omega
  have hd := dgs k (by omega)
  have hdl := hd.len
  refine T.br (fun hb => ?_) fun hb => ?_
  · have hb := of_decide_eq_true hb
    obtain ⟨y, hy⟩ : ∃ y, w[k]? = some y := ⟨_, List.getElem?_eq_getElem (by omega)⟩
    have hps := psW_succ w h k
    have hjoin : ∀ s : List UInt8, s = (if k = 0 then [] else joinE ((psW w h k).map eiP) ++ [44, 32]) → s ++ (eiP (105 :: dgl k, optW w h k)).byts = joinE ((psW w h (k + 1)).map eiP) := by
      intro s hs
      rw [hps, List.map_append]
      by_cases h0 : k = 0
      · subst h0
        rw [hs, if_pos rfl]; rfl
      · rw [hs, if_neg h0]
        show _ = joinE ((psW w h k).map eiP ++ [eiP (105 :: dgl k, optW w h k)])
        rw [joinE_ne (fun e => by
          have := congrArg List.length e
          rw [List.length_map, psW_len] at this
          exact h0 this), List.append_assoc]
        rfl
    have hsom : somes ((psW w h (k + 1)).map Prod.snd) = us ++ (optW w h k).toList := by
      rw [hps, List.map_append, q4]
      exact somes_snoc _ _
    refine T.jp (ι := Str × List Int) (fun p => p.1.b = joinE ((psW w h (k + 1)).map eiP) ∧ p.2 = somes ((psW w h (k + 1)).map Prod.snd) ∧ p.2.Nodup) (fun J hJ => ?_) fun p ⟨p1, p2, p3⟩ => T.ck (by omega) (hL _ ⟨by dsimp only; omega, by dsimp only; omega, by dsimp only; rw [show ((k : Int) + 1).toNat = k + 1 by omega]; exact p1, by dsimp only; rw [show ((k : Int) + 1).toNat = k + 1 by omega]; exact p2, p3⟩ (by dsimp only; omega))
    refine T.jp (ι := Str) (fun s => s.b = (if k = 0 then [] else joinE ((psW w h k).map eiP) ++ [44, 32])) (fun J2 h2 => T.br (fun h3 => T.abl (by simp only [List.length_cons, List.length_nil]; omega) (h2 _ ?_)) fun h3 => h2 _ ?_) fun s hs => ?_
    · have h3 := of_decide_eq_true h3
      rw [if_neg (by omega)]
      dsimp only
      rw [q3]
    · have h3 := of_decide_eq_false h3
      have h0 : k = 0 := by omega
      subst h0
      rw [if_pos rfl, q3]; rfl
    have hsl : s.b.length ≤ 2002 := by
      rw [hs]
      split
      · simp
      · rw [List.length_append, ← q3]; simp only [List.length_cons, List.length_nil]; omega
    rw [hu64]
    refine T.abl (by simp only [List.length_cons, List.length_nil]; omega) (T.eq hd.eq (T.abl (by simp only [List.length_append, List.length_cons, List.length_nil]; omega) ?_))
    refine T.jp (fun b => b = decide (h[k]? = some true)) (fun J2 h2 => T.br (fun h3 => T.get (Int.natCast_nonneg _) (of_decide_eq_true h3) fun z hz => h2 _ ?_) fun h3 => h2 _ ?_) fun b hb2 => ?_
    · rw [Int.toNat_natCast] at hz
      rw [hz]; cases z <;> rfl
    · have h3 := of_decide_eq_false h3
      rw [List.getElem?_eq_none (by omega)]; rfl
    refine T.br (fun hb3 => ?_) fun hb3 => ?_
    · rw [hb3] at hb2
      have hh : h[k]? = some true := of_decide_eq_true hb2.symm
      have ho : optW w h k = some (w20 y) := by unfold optW; rw [if_pos hh, hy]; rfl
      have hwb := w20_b y
      refine T.eq (getI_at (Int.natCast_nonneg _) (by rw [Int.toNat_natCast]; exact hy)) (T.asr rfl ?_)
      show T _ (ck (w20 y) <| cal (h_In_int64 us (w20 y)) fun y201 => _)
      refine T.ck (by omega) (T.eq (in64_eq us _ (by omega)) (T.br (fun _ => T.eq awake10 (T.some rfl)) fun hin => ?_))
      have hin := of_decide_eq_false hin
      have hn := num20_eq hwb.1 (by omega : w20 y < 256)
      have hnl := (dgs (w20 y).toNat (by omega)).len
      refine T.abl (by simp only [List.length_singleton]; omega) (T.abl (by simp only [List.length_append, List.length_cons, List.length_nil]; omega) (T.eq hn (T.abl (by simp only [List.length_append, List.length_cons, List.length_nil]; omega) (T.abl (by simp only [List.length_append, List.length_cons, List.length_nil]; omega) (hJ _ ⟨?_, ?_, ?_⟩)))))
      · rw [← hjoin s.b hs, ho]
        show _ = s.b ++ ((105 :: dgl k) ++ (32 :: 40 :: (dgl (w20 y).toNat ++ [41])))
        simp
      · rw [hsom, ho]; rfl
      · exact List.nodup_append.2 ⟨q5, List.nodup_cons.2 ⟨List.not_mem_nil, List.nodup_nil⟩, fun a ha c hc e => hin (by
          have hc : c = w20 y := List.mem_singleton.1 hc
          rw [← hc, ← e]; exact ha)⟩
    · rw [hb3] at hb2
      have hh : ¬ h[k]? = some true := of_decide_eq_false hb2.symm
      have ho : optW w h k = none := by unfold optW; rw [if_neg hh]
      refine hJ _ ⟨?_, ?_, q5⟩
      · rw [← hjoin s.b hs, ho]
        show _ = s.b ++ (105 :: dgl k)
        simp
      · rw [hsom, ho, show (none : Option Int).toList = [] from rfl, List.append_nil]
  -- what is added
  have hb := of_decide_eq_false hb
  have hkw : k = w.length := by omega
  have hA : ((UInt64.ofNat (added % 18446744073709551616).toNat) % (4 : UInt64)).toNat < 4 := by rw [UInt64.toNat_mod]; exact Nat.mod_lt _ (by decide)
  generalize ((UInt64.ofNat (added % 18446744073709551616).toNat) % (4 : UInt64)).toNat = A at *
  have hOk : PsOk (psW w h k) := ⟨fun e => by have := congrArg List.length e; rw [psW_len] at this; simp at this; omega, by rw [psW_len]; omega, by rw [← q4]; exact q5, fun x hx => opt_b hx⟩
  refine T.asr rfl (T.ck (by omega) ?_)
  refine T.lp (ι := Str × Int) (fun q => 0 ≤ q.2 ∧ q.2 ≤ A ∧ q.1.b = joinE (eisA (psW w h k) (adW q.2.toNat))) (fun q => ((A : Int) - q.2).toNat) ⟨Int.le_refl _, by dsimp only; omega, by
    show tx.b = joinE (eisA (psW w h k) [])
    unfold eisA
    rw [if_pos rfl, List.append_nil]; exact q3⟩ (by dsimp only; omega) fun L2 q ⟨s1, s2, s3⟩ hL2 => ?_
  obtain ⟨tx2, j'⟩ := q
  dsimp only at s1 s2 s3 hL2 ⊢
  obtain ⟨j, hj⟩ : ∃ j : Nat, j' = j := ⟨j'.toNat, by omega⟩
  subst hj
  rw [Int.toNat_natCast] at s3
  have hjl := joinE_len (lexW w h hk12 (a := j) (by omega))
  have hel := eisA_len (psW w h k) (adW j)
  rw [psW_len, adW_len] at hel
  rw [← s3] at hjl
  have hju : ((j : Int) % 18446744073709551616).toNat = j := by omega
  have hdj := dgs j (by omega)
  have hdjl := hdj.len
  refine T.br (fun hb2 => ?_) fun hb2 => ?_
  · have hb2 := of_decide_eq_true hb2
    refine T.jp (ι := Str) (fun s => s.b = joinE (eisA (psW w h k) (adW j) ++ (if j = 0 then [EI.dots] else [])) ∧ s.b.length ≤ 2000) (fun J hJ => T.br (fun h3 => T.abl (by simp only [List.length_cons, List.length_nil]; omega) (hJ _ ⟨?_, ?_⟩)) fun h3 => hJ _ ⟨?_, by omega⟩) fun s ⟨hs, hsl⟩ => ?_
    · have h3 := of_decide_eq_true h3
      rw [if_pos (by omega), joinE_ne (eisA_ne hOk _), ← s3]; rfl
    · simp only [List.length_append, List.length_cons, List.length_nil]; omega
    · have h3 := of_decide_eq_false h3
      rw [if_neg (by omega), List.append_nil, s3]
    rw [hju]
    refine T.abl (by simp only [List.length_cons, List.length_nil]; omega) (T.eq hdj.eq (T.abl (by simp only [List.length_append, List.length_cons, List.length_nil]; omega) (T.ck (by omega) (hL2 _ ⟨by dsimp only; omega, by dsimp only; omega, ?_⟩ (by dsimp only; omega)))))
    dsimp only
    rw [show ((j : Int) + 1).toNat = j + 1 by omega, eisA_snoc, joinE_ne (fun e => eisA_ne hOk _ (List.append_eq_nil_iff.1 e).1), hs]
    show (joinE _ ++ [44, 32, 97]) ++ dgl j = joinE _ ++ (44 :: 32 :: (97 :: dgl j))
    simp
  have hb2 := of_decide_eq_false hb2
  have hjA : j = A := by omega
  subst hjA
  refine T.abl (by simp only [List.length_cons, List.length_nil]; omega) (T.abl (by simp only [List.length_append, List.length_cons, List.length_nil]; omega) ?_)
  obtain ⟨pp, hp⟩ := parse_enum (s := Str.mk ((Str.mk ((Str.mk [77, 32, 68, 69, 70, 73, 78, 73, 84, 73, 79, 78, 83, 32, 58, 58, 61, 32, 66, 69, 71, 73, 78, 32, 69, 32, 58, 58, 61, 32, 69, 78, 85, 77, 69, 82, 65, 84, 69, 68, 32, 123, 32]).b ++ tx2.b)).b ++ (Str.mk [32, 125, 32, 69, 78, 68]).b)) hOk (by rw [adW_len]; omega) (lexW w h hk12 (a := j) (by omega)) (by rw [← s3, ← List.append_assoc]; rfl)
  refine T.eq hp (T.cal (make_enum hOk (by rw [adW_len]; omega) (names_nd w h hk12 (by omega))) fun r _ ⟨r1, t, r2, r3⟩ => T.eq awake10 ?_)
  have hN : (allP (psW w h k) (adW j)).length = k + j := by rw [allP_len, psW_len, adW_len]
  rw [hN] at r3
  have hil : t.items.length = k + j := by
    have := congrArg List.length r3
    rw [List.length_map, numAt_l] at this
    exact this
  have hg : getI r.1.types 0 = some t := by rw [r2]; rfl
  refine T.jp (fun b => b = false) (fun J hJ => T.brF rfl (hJ _ rfl)) fun b hb3 => T.jp (fun b => b = false) (fun J hJ => T.brF hb3 (hJ _ (by rw [r1]; rfl))) fun b hb3 => T.jp (fun b => b = false) (fun J hJ => T.brF hb3 (hJ _ (by rw [r2]; rfl))) fun b hb3 => T.jp (fun b => b = false) (fun J hJ => T.brF hb3 (T.eq hg (T.ck (by omega) (hJ _ ?_)))) fun b hb3 => T.brF hb3 (T.eq hg ?_)
  · rw [decide_eq_true (show ((t.items.length : Nat) : Int) = (w.length : Int) + (j : Int) by omega)]; rfl
  have hbd := fun i => numAt_in hOk i
  rw [psW_len] at hbd
  refine T.lp (ι := Int × Int × Int) (fun q => 0 ≤ q.2.2 ∧ q.2.2 ≤ t.items.length ∧ q.2.1 = topN (numAt (psW w h k) q.2.2.toNat) ∧ (q.2.2 < k → q.1 = (numsN (somes ((psW w h k).map Prod.snd)) (((psW w h k).map Prod.snd).take q.2.2.toNat)).1)) (fun q => ((t.items.length : Int) - q.2.2).toNat) ⟨Int.le_refl _, by dsimp only; omega, by
    show (-1 : Int) = topN (numAt (psW w h k) 0)
    have : numAt (psW w h k) 0 = [] := List.eq_nil_of_length_eq_zero (numAt_l _ _)
    rw [this]; rfl, fun _ => rfl⟩ (by dsimp only; omega) fun L3 q ⟨u1, u2, u3, u4⟩ hL3 => ?_
  obtain ⟨nx, tp, i'⟩ := q
  dsimp only at u1 u2 u3 u4 hL3 ⊢
  obtain ⟨i, hi⟩ : ∃ i : Nat, i' = i := ⟨i'.toNat, by omega⟩
  subst hi
  rw [Int.toNat_natCast] at u3 u4
  refine T.br (fun h3 => ?_) fun _ => T.some rfl
  have h3 := of_decide_eq_true h3
  have htp1 := topN_m1 (numAt (psW w h k) i)
  have htp2 : topN (numAt (psW w h k) i) ≤ 1000 := topN_le (by omega) fun x hx => by have := hbd i x hx; omega
  refine T.ck (by omega) ?_
  refine T.jp (ι := Int × Int) (fun p => numAt (psW w h k) (i + 1) = numAt (psW w h k) i ++ [p.2] ∧ ((i : Int) + 1 < k → p.1 = (numsN (somes ((psW w h k).map Prod.snd)) (((psW w h k).map Prod.snd).take (i + 1))).1)) (fun J hJ => ?_) fun p ⟨p1, p2⟩ => ?_
  · refine T.br (fun h4 => ?_) fun h4 => hJ _ ⟨?_, fun h5 => ?_⟩
    · have h4 := of_decide_eq_true h4
      have hik : i < k := by omega
      obtain ⟨y, hy⟩ : ∃ y, w[i]? = some y := ⟨_, List.getElem?_eq_getElem (by omega)⟩
      have hpi : (psW w h k)[i]? = some (105 :: dgl i, optW w h i) := by
        unfold psW
        rw [List.getElem?_map, List.getElem?_range hik]; rfl
      obtain ⟨n1, n2, n3⟩ := numAt_has hpi
      have u4 := u4 (by omega)
      obtain ⟨b1, b2, _, _⟩ := ps_next hOk i
      refine T.jp (fun b => b = decide (h[i]? = some true)) (fun J2 h2 => T.br (fun h3 => T.get (Int.natCast_nonneg _) (of_decide_eq_true h3) fun z hz => h2 _ ?_) fun h3 => h2 _ ?_) fun b hb5 => ?_
      · rw [Int.toNat_natCast] at hz
        rw [hz]; cases z <;> rfl
      · have h3 := of_decide_eq_false h3
        rw [List.getElem?_eq_none (by omega)]; rfl
      refine T.br (fun hb6 => ?_) fun hb6 => ?_
      · rw [hb6] at hb5
        have hh : h[i]? = some true := of_decide_eq_true hb5.symm
        have ho : optW w h i = some (w20 y) := by unfold optW; rw [if_pos hh, hy]; rfl
        have hwb := w20_b y
        refine T.eq (getI_at (Int.natCast_nonneg _) (by rw [Int.toNat_natCast]; exact hy)) (T.asr rfl ?_)
        show T _ (ck (w20 y) <| J (nx, w20 y))
        refine T.ck (by omega) (hJ _ ⟨?_, fun _ => ?_⟩)
        · rw [n1, n2, ho]; rfl
        · rw [n3, ho]; exact u4
      · rw [hb6] at hb5
        have hh : ¬ h[i]? = some true := of_decide_eq_false hb5.symm
        have ho : optW w h i = none := by unfold optW; rw [if_neg hh]
        have hf := fr_spec (somes ((psW w h k).map Prod.snd)) nx
        have hf2 := fr_le (somes ((psW w h k).map Prod.snd)) nx
        rw [← q4] at hf hf2
        refine T.lp (fun (v : Int) => nx ≤ v ∧ v ≤ fr us nx) (fun (v : Int) => (fr us nx - v).toNat) ⟨Int.le_refl _, hf.le⟩ (by omega) fun L4 v ⟨v1, v2⟩ hL4 => ?_
        refine T.eq (in64_eq us v (by omega)) (T.br (fun hm => ?_) fun hm => ?_)
        · have := hf.lt v2 (of_decide_eq_true hm)
          exact T.ck (by omega) (hL4 _ ⟨by omega, by omega⟩ (by omega))
        · have hv := hf.eq v1 v2 (of_decide_eq_false hm)
          refine T.ck (by omega) (hJ _ ⟨?_, fun _ => ?_⟩)
          · rw [n1, n2, ho, hv, u4, ← q4]; rfl
          · rw [n3, ho, hv, u4, ← q4]; rfl
    · have h4 := of_decide_eq_false h4
      rw [numAt_add (by rw [psW_len]; omega), u3]
    · have h4 := of_decide_eq_false h4
      omega
  have hx := numAt_idx (N := k + j) (by omega) p1
  rw [← r3, List.getElem?_map] at hx
  obtain ⟨z, hz⟩ : ∃ z, t.items[i]? = some z := ⟨_, List.getElem?_eq_getElem (by omega)⟩
  rw [hz] at hx
  have hx : z.number = p.2 := Option.some.inj hx
  refine T.eq (getI_at (Int.natCast_nonneg _) (by rw [Int.toNat_natCast]; exact hz)) (T.brF (by rw [decide_eq_true hx]; rfl) (T.ck (by omega) (hL3 _ ⟨by dsimp only; omega, by dsimp only; omega, ?_, ?_⟩ (by dsimp only; omega))))
  · dsimp only
    rw [show ((i : Int) + 1).toNat = i + 1 by omega, p1, topN_snoc, u3]
  · dsimp only
    rw [show ((i : Int) + 1).toNat = i + 1 by omega]
    exact p2
end Go.Proofs.YtiibmpdjkdjbiaaGreatDoor

