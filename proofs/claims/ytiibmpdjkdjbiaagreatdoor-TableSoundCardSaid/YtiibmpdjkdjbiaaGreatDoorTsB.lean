/- Models of the functions, printed by mill.py. -/
import Derived.Test.YtiibmpdjkdjbiaaGreatDoorTsA
import Derived.Lib.ValidU
set_option linter.unusedVariables false
set_option linter.unusedSimpArgs false

namespace Go.Sy

section parts
variable {A0 A1 A2 A3 A4 A5 A6 A7 A8 A9 : Type} [Rep A0] [Rep A1] [Rep A2] [Rep A3] [Rep A4] [Rep A5] [Rep A6] [Rep A7] [Rep A8] [Rep A9]
@[reducible] def pf0 : Fld (A0 × A1) A0 := Fld.fst A0 A1
@[reducible] def pl0 : Fld A0 A0 := Fld.id A0
@[reducible] def pl1 : Fld (A0 × A1) A1 := Fld.snd A0 A1
@[reducible] def pf1 : Fld (A0 × A1 × A2) A1 := (Fld.snd A0 (A1 × A2)).comp (pf0 (A0 := A1) (A1 := A2))
@[reducible] def pf2 : Fld (A0 × A1 × A2 × A3) A2 := (Fld.snd A0 (A1 × A2 × A3)).comp (pf1 (A0 := A1) (A1 := A2) (A2 := A3))
@[reducible] def pf3 : Fld (A0 × A1 × A2 × A3 × A4) A3 := (Fld.snd A0 (A1 × A2 × A3 × A4)).comp (pf2 (A0 := A1) (A1 := A2) (A2 := A3) (A3 := A4))
@[reducible] def pf4 : Fld (A0 × A1 × A2 × A3 × A4 × A5) A4 := (Fld.snd A0 (A1 × A2 × A3 × A4 × A5)).comp (pf3 (A0 := A1) (A1 := A2) (A2 := A3) (A3 := A4) (A4 := A5))
@[reducible] def pf5 : Fld (A0 × A1 × A2 × A3 × A4 × A5 × A6) A5 := (Fld.snd A0 (A1 × A2 × A3 × A4 × A5 × A6)).comp (pf4 (A0 := A1) (A1 := A2) (A2 := A3) (A3 := A4) (A4 := A5) (A5 := A6))
@[reducible] def pf6 : Fld (A0 × A1 × A2 × A3 × A4 × A5 × A6 × A7) A6 := (Fld.snd A0 (A1 × A2 × A3 × A4 × A5 × A6 × A7)).comp (pf5 (A0 := A1) (A1 := A2) (A2 := A3) (A3 := A4) (A4 := A5) (A5 := A6) (A6 := A7))
@[reducible] def pf7 : Fld (A0 × A1 × A2 × A3 × A4 × A5 × A6 × A7 × A8) A7 := (Fld.snd A0 (A1 × A2 × A3 × A4 × A5 × A6 × A7 × A8)).comp (pf6 (A0 := A1) (A1 := A2) (A2 := A3) (A3 := A4) (A4 := A5) (A5 := A6) (A6 := A7) (A7 := A8))
@[reducible] def pl2 : Fld (A0 × A1 × A2) A2 := (Fld.snd A0 (A1 × A2)).comp (pl1 (A0 := A1) (A1 := A2))
@[reducible] def pl3 : Fld (A0 × A1 × A2 × A3) A3 := (Fld.snd A0 (A1 × A2 × A3)).comp (pl2 (A0 := A1) (A1 := A2) (A2 := A3))
@[reducible] def pl4 : Fld (A0 × A1 × A2 × A3 × A4) A4 := (Fld.snd A0 (A1 × A2 × A3 × A4)).comp (pl3 (A0 := A1) (A1 := A2) (A2 := A3) (A3 := A4))
@[reducible] def pl5 : Fld (A0 × A1 × A2 × A3 × A4 × A5) A5 := (Fld.snd A0 (A1 × A2 × A3 × A4 × A5)).comp (pl4 (A0 := A1) (A1 := A2) (A2 := A3) (A3 := A4) (A4 := A5))
@[reducible] def pl6 : Fld (A0 × A1 × A2 × A3 × A4 × A5 × A6) A6 := (Fld.snd A0 (A1 × A2 × A3 × A4 × A5 × A6)).comp (pl5 (A0 := A1) (A1 := A2) (A2 := A3) (A3 := A4) (A4 := A5) (A5 := A6))
@[reducible] def pl7 : Fld (A0 × A1 × A2 × A3 × A4 × A5 × A6 × A7) A7 := (Fld.snd A0 (A1 × A2 × A3 × A4 × A5 × A6 × A7)).comp (pl6 (A0 := A1) (A1 := A2) (A2 := A3) (A3 := A4) (A4 := A5) (A5 := A6) (A6 := A7))
@[reducible] def pl8 : Fld (A0 × A1 × A2 × A3 × A4 × A5 × A6 × A7 × A8) A8 := (Fld.snd A0 (A1 × A2 × A3 × A4 × A5 × A6 × A7 × A8)).comp (pl7 (A0 := A1) (A1 := A2) (A2 := A3) (A3 := A4) (A4 := A5) (A5 := A6) (A6 := A7) (A7 := A8))
end parts

@[reducible] def Val.f0 : Fld Val (Int) := Fld.ofV pf0 Val.kind (fun x y => ⟨y, x.n, x.b, x.l, x.rule, x.more⟩) (fun _ => rfl) (fun ⟨_, _, _, _, _, _⟩ _ => rfl)
@[reducible] def Val.f1 : Fld Val (Int) := Fld.ofV pf1 Val.n (fun x y => ⟨x.kind, y, x.b, x.l, x.rule, x.more⟩) (fun _ => rfl) (fun ⟨_, _, _, _, _, _⟩ _ => rfl)
@[reducible] def Val.f2 : Fld Val (List UInt8) := Fld.ofV pf2 Val.b (fun x y => ⟨x.kind, x.n, y, x.l, x.rule, x.more⟩) (fun _ => rfl) (fun ⟨_, _, _, _, _, _⟩ _ => rfl)
@[reducible] def Val.f3 : Fld Val (List Val) := Fld.ofV pf3 Val.l (fun x y => ⟨x.kind, x.n, x.b, y, x.rule, x.more⟩) (fun _ => rfl) (fun ⟨_, _, _, _, _, _⟩ _ => rfl)
@[reducible] def Val.f4 : Fld Val (Int) := Fld.ofV pf4 Val.rule (fun x y => ⟨x.kind, x.n, x.b, x.l, y, x.more⟩) (fun _ => rfl) (fun ⟨_, _, _, _, _, _⟩ _ => rfl)
@[reducible] def Val.f5 : Fld Val (List Raw) := Fld.ofV pl5 Val.more (fun x y => ⟨x.kind, x.n, x.b, x.l, x.rule, y⟩) (fun _ => rfl) (fun ⟨_, _, _, _, _, _⟩ _ => rfl)
@[reducible] def Val.zero : Val := ⟨0, 0, [], [], 0, []⟩
@[reducible] def Raw.f0 : Fld Raw (Int) := Fld.of Raw.to pf0 (fun x => x.n) (fun x y => { x with n := y }) (fun _ => rfl) (fun _ _ => rfl)
@[reducible] def Raw.f1 : Fld Raw (List UInt8) := Fld.of Raw.to pl1 (fun x => x.b) (fun x y => { x with b := y }) (fun _ => rfl) (fun _ _ => rfl)
@[reducible] def Raw.zero : Raw := ⟨0, []⟩

structure GTok where
  kind : Int
  text : Str
  at_ : Int
deriving DecidableEq
abbrev GTok.to (x : GTok) : Int × Str × Int := (x.kind, x.text, x.at_)
instance : Rep GTok := Rep.iso GTok.to
@[reducible] def GTok.f0 : Fld GTok (Int) := Fld.of GTok.to pf0 (fun x => x.kind) (fun x y => { x with kind := y }) (fun _ => rfl) (fun _ _ => rfl)
@[reducible] def GTok.f1 : Fld GTok (Str) := Fld.of GTok.to pf1 (fun x => x.text) (fun x y => { x with text := y }) (fun _ => rfl) (fun _ _ => rfl)
@[reducible] def GTok.f2 : Fld GTok (Int) := Fld.of GTok.to pl2 (fun x => x.at_) (fun x y => { x with at_ := y }) (fun _ => rfl) (fun _ _ => rfl)
@[reducible] def GTok.zero : GTok := ⟨0, ⟨[]⟩, 0⟩
theorem GTok.cv {S : Frz} {x : GTok} : Cv S x.to x := fun _ h => h
theorem GTok.eqOk {P : Program} {T : TypeId} {g0 g1 g2 : Go.Field} (hu : P.underlying T = some (.struct #[g0, g1, g2])) (hg : P.eqGuardType P.depth T = false) (hs : P.stoodInHeld T = false) (n0 : (g0.name == "_") = false) (o0 : g0.offset = GTok.f0.off) (t0 : P.underlying g0.type = some (.int .i64)) (n1 : (g1.name == "_") = false) (o1 : g1.offset = GTok.f1.off) (t1 : P.underlying g1.type = some .string) (n2 : (g2.name == "_") = false) (o2 : g2.offset = GTok.f2.off) (t2 : P.underlying g2.type = some (.int .i64)) : EqOk P T GTok :=
  EqOk.struct (e := fun x y => (decide (x.kind = y.kind) && (decide (x.text = y.text) && (decide (x.at_ = y.at_) && true)))) rfl hu hg hs (.int GTok.f0 n0 o0 t0 (.str GTok.f1 n1 o1 t1 (.int GTok.f2 n2 o2 t2 .nil))) (fun x y => by
  obtain ⟨a0, a1, a2⟩ := x; obtain ⟨b0, b1, b2⟩ := y
  simp only [GTok.mk.injEq, Bool.and_true, Bool.decide_and])

structure GItem where
  name : Str
  number : Int
  has : Bool
deriving DecidableEq
abbrev GItem.to (x : GItem) : Str × Int × Bool := (x.name, x.number, x.has)
instance : Rep GItem := Rep.iso GItem.to
@[reducible] def GItem.f0 : Fld GItem (Str) := Fld.of GItem.to pf0 (fun x => x.name) (fun x y => { x with name := y }) (fun _ => rfl) (fun _ _ => rfl)
@[reducible] def GItem.f1 : Fld GItem (Int) := Fld.of GItem.to pf1 (fun x => x.number) (fun x y => { x with number := y }) (fun _ => rfl) (fun _ _ => rfl)
@[reducible] def GItem.f2 : Fld GItem (Bool) := Fld.of GItem.to pl2 (fun x => x.has) (fun x y => { x with has := y }) (fun _ => rfl) (fun _ _ => rfl)
@[reducible] def GItem.zero : GItem := ⟨⟨[]⟩, 0, false⟩
theorem GItem.cv {S : Frz} {x : GItem} : Cv S x.to x := fun _ h => h
theorem GItem.eqOk {P : Program} {T : TypeId} {g0 g1 g2 : Go.Field} (hu : P.underlying T = some (.struct #[g0, g1, g2])) (hg : P.eqGuardType P.depth T = false) (hs : P.stoodInHeld T = false) (n0 : (g0.name == "_") = false) (o0 : g0.offset = GItem.f0.off) (t0 : P.underlying g0.type = some .string) (n1 : (g1.name == "_") = false) (o1 : g1.offset = GItem.f1.off) (t1 : P.underlying g1.type = some (.int .i64)) (n2 : (g2.name == "_") = false) (o2 : g2.offset = GItem.f2.off) (t2 : P.underlying g2.type = some .bool) : EqOk P T GItem :=
  EqOk.struct (e := fun x y => (decide (x.name = y.name) && (decide (x.number = y.number) && (decide (x.has = y.has) && true)))) rfl hu hg hs (.str GItem.f0 n0 o0 t0 (.int GItem.f1 n1 o1 t1 (.bool GItem.f2 n2 o2 t2 .nil))) (fun x y => by
  obtain ⟨a0, a1, a2⟩ := x; obtain ⟨b0, b1, b2⟩ := y
  simp only [GItem.mk.injEq, Bool.and_true, Bool.decide_and])

structure GCon where
  has : Bool
  hasLow : Bool
  hasHigh : Bool
  more : Bool
  low : Int
  high : Int
deriving DecidableEq
abbrev GCon.to (x : GCon) : Bool × Bool × Bool × Bool × Int × Int := (x.has, x.hasLow, x.hasHigh, x.more, x.low, x.high)
instance : Rep GCon := Rep.iso GCon.to
@[reducible] def GCon.f0 : Fld GCon (Bool) := Fld.of GCon.to pf0 (fun x => x.has) (fun x y => { x with has := y }) (fun _ => rfl) (fun _ _ => rfl)
@[reducible] def GCon.f1 : Fld GCon (Bool) := Fld.of GCon.to pf1 (fun x => x.hasLow) (fun x y => { x with hasLow := y }) (fun _ => rfl) (fun _ _ => rfl)
@[reducible] def GCon.f2 : Fld GCon (Bool) := Fld.of GCon.to pf2 (fun x => x.hasHigh) (fun x y => { x with hasHigh := y }) (fun _ => rfl) (fun _ _ => rfl)
@[reducible] def GCon.f3 : Fld GCon (Bool) := Fld.of GCon.to pf3 (fun x => x.more) (fun x y => { x with more := y }) (fun _ => rfl) (fun _ _ => rfl)
@[reducible] def GCon.f4 : Fld GCon (Int) := Fld.of GCon.to pf4 (fun x => x.low) (fun x y => { x with low := y }) (fun _ => rfl) (fun _ _ => rfl)
@[reducible] def GCon.f5 : Fld GCon (Int) := Fld.of GCon.to pl5 (fun x => x.high) (fun x y => { x with high := y }) (fun _ => rfl) (fun _ _ => rfl)
@[reducible] def GCon.zero : GCon := ⟨false, false, false, false, 0, 0⟩
theorem GCon.cv {S : Frz} {x : GCon} : Cv S x.to x := fun _ h => h
theorem GCon.eqOk {P : Program} {T : TypeId} {g0 g1 g2 g3 g4 g5 : Go.Field} (hu : P.underlying T = some (.struct #[g0, g1, g2, g3, g4, g5])) (hg : P.eqGuardType P.depth T = false) (hs : P.stoodInHeld T = false) (n0 : (g0.name == "_") = false) (o0 : g0.offset = GCon.f0.off) (t0 : P.underlying g0.type = some .bool) (n1 : (g1.name == "_") = false) (o1 : g1.offset = GCon.f1.off) (t1 : P.underlying g1.type = some .bool) (n2 : (g2.name == "_") = false) (o2 : g2.offset = GCon.f2.off) (t2 : P.underlying g2.type = some .bool) (n3 : (g3.name == "_") = false) (o3 : g3.offset = GCon.f3.off) (t3 : P.underlying g3.type = some .bool) (n4 : (g4.name == "_") = false) (o4 : g4.offset = GCon.f4.off) (t4 : P.underlying g4.type = some (.int .i64)) (n5 : (g5.name == "_") = false) (o5 : g5.offset = GCon.f5.off) (t5 : P.underlying g5.type = some (.int .i64)) : EqOk P T GCon :=
  EqOk.struct (e := fun x y => (decide (x.has = y.has) && (decide (x.hasLow = y.hasLow) && (decide (x.hasHigh = y.hasHigh) && (decide (x.more = y.more) && (decide (x.low = y.low) && (decide (x.high = y.high) && true))))))) rfl hu hg hs (.bool GCon.f0 n0 o0 t0 (.bool GCon.f1 n1 o1 t1 (.bool GCon.f2 n2 o2 t2 (.bool GCon.f3 n3 o3 t3 (.int GCon.f4 n4 o4 t4 (.int GCon.f5 n5 o5 t5 .nil)))))) (fun x y => by
  obtain ⟨a0, a1, a2, a3, a4, a5⟩ := x; obtain ⟨b0, b1, b2, b3, b4, b5⟩ := y
  simp only [GCon.mk.injEq, Bool.and_true, Bool.decide_and])

structure GMark where
  has : Bool
  number : Int
  mode : Int
deriving DecidableEq
abbrev GMark.to (x : GMark) : Bool × Int × Int := (x.has, x.number, x.mode)
instance : Rep GMark := Rep.iso GMark.to
@[reducible] def GMark.f0 : Fld GMark (Bool) := Fld.of GMark.to pf0 (fun x => x.has) (fun x y => { x with has := y }) (fun _ => rfl) (fun _ _ => rfl)
@[reducible] def GMark.f1 : Fld GMark (Int) := Fld.of GMark.to pf1 (fun x => x.number) (fun x y => { x with number := y }) (fun _ => rfl) (fun _ _ => rfl)
@[reducible] def GMark.f2 : Fld GMark (Int) := Fld.of GMark.to pl2 (fun x => x.mode) (fun x y => { x with mode := y }) (fun _ => rfl) (fun _ _ => rfl)
@[reducible] def GMark.zero : GMark := ⟨false, 0, 0⟩
theorem GMark.cv {S : Frz} {x : GMark} : Cv S x.to x := fun _ h => h
theorem GMark.eqOk {P : Program} {T : TypeId} {g0 g1 g2 : Go.Field} (hu : P.underlying T = some (.struct #[g0, g1, g2])) (hg : P.eqGuardType P.depth T = false) (hs : P.stoodInHeld T = false) (n0 : (g0.name == "_") = false) (o0 : g0.offset = GMark.f0.off) (t0 : P.underlying g0.type = some .bool) (n1 : (g1.name == "_") = false) (o1 : g1.offset = GMark.f1.off) (t1 : P.underlying g1.type = some (.int .i64)) (n2 : (g2.name == "_") = false) (o2 : g2.offset = GMark.f2.off) (t2 : P.underlying g2.type = some (.int .i64)) : EqOk P T GMark :=
  EqOk.struct (e := fun x y => (decide (x.has = y.has) && (decide (x.number = y.number) && (decide (x.mode = y.mode) && true)))) rfl hu hg hs (.bool GMark.f0 n0 o0 t0 (.int GMark.f1 n1 o1 t1 (.int GMark.f2 n2 o2 t2 .nil))) (fun x y => by
  obtain ⟨a0, a1, a2⟩ := x; obtain ⟨b0, b1, b2⟩ := y
  simp only [GMark.mk.injEq, Bool.and_true, Bool.decide_and])

structure GFld where
  name : Str
  ty : Int
  optional : Bool
  has : Bool
  dflt : Val
  group : Int
abbrev GFld.to (x : GFld) : Str × Int × Bool × Bool × Val × Int := (x.name, x.ty, x.optional, x.has, x.dflt, x.group)
instance : Rep GFld := Rep.iso GFld.to
@[reducible] def GFld.f0 : Fld GFld (Str) := Fld.of GFld.to pf0 (fun x => x.name) (fun x y => { x with name := y }) (fun _ => rfl) (fun _ _ => rfl)
@[reducible] def GFld.f1 : Fld GFld (Int) := Fld.of GFld.to pf1 (fun x => x.ty) (fun x y => { x with ty := y }) (fun _ => rfl) (fun _ _ => rfl)
@[reducible] def GFld.f2 : Fld GFld (Bool) := Fld.of GFld.to pf2 (fun x => x.optional) (fun x y => { x with optional := y }) (fun _ => rfl) (fun _ _ => rfl)
@[reducible] def GFld.f3 : Fld GFld (Bool) := Fld.of GFld.to pf3 (fun x => x.has) (fun x y => { x with has := y }) (fun _ => rfl) (fun _ _ => rfl)
@[reducible] def GFld.f4 : Fld GFld (Val) := Fld.of GFld.to pf4 (fun x => x.dflt) (fun x y => { x with dflt := y }) (fun _ => rfl) (fun _ _ => rfl)
@[reducible] def GFld.f5 : Fld GFld (Int) := Fld.of GFld.to pl5 (fun x => x.group) (fun x y => { x with group := y }) (fun _ => rfl) (fun _ _ => rfl)
@[reducible] def GFld.zero : GFld := ⟨⟨[]⟩, 0, false, false, Val.zero, 0⟩
theorem GFld.cv {S : Frz} {x : GFld} : Cv S x.to x := fun _ h => h
structure GNode where
  kind : Int
  name : Str
  mark : GMark
  con : GCon
  items : List GItem
  fields : List GFld
  root : Int
  more : Bool
  of : Int
abbrev GNode.to (x : GNode) : Int × Str × GMark × GCon × List GItem × List GFld × Int × Bool × Int := (x.kind, x.name, x.mark, x.con, x.items, x.fields, x.root, x.more, x.of)
instance : Rep GNode := Rep.iso GNode.to
@[reducible] def GNode.f0 : Fld GNode (Int) := Fld.of GNode.to pf0 (fun x => x.kind) (fun x y => { x with kind := y }) (fun _ => rfl) (fun _ _ => rfl)
@[reducible] def GNode.f1 : Fld GNode (Str) := Fld.of GNode.to pf1 (fun x => x.name) (fun x y => { x with name := y }) (fun _ => rfl) (fun _ _ => rfl)
@[reducible] def GNode.f2 : Fld GNode (GMark) := Fld.of GNode.to pf2 (fun x => x.mark) (fun x y => { x with mark := y }) (fun _ => rfl) (fun _ _ => rfl)
@[reducible] def GNode.f3 : Fld GNode (GCon) := Fld.of GNode.to pf3 (fun x => x.con) (fun x y => { x with con := y }) (fun _ => rfl) (fun _ _ => rfl)
@[reducible] def GNode.f4 : Fld GNode (List GItem) := Fld.of GNode.to pf4 (fun x => x.items) (fun x y => { x with items := y }) (fun _ => rfl) (fun _ _ => rfl)
@[reducible] def GNode.f5 : Fld GNode (List GFld) := Fld.of GNode.to pf5 (fun x => x.fields) (fun x y => { x with fields := y }) (fun _ => rfl) (fun _ _ => rfl)
@[reducible] def GNode.f6 : Fld GNode (Int) := Fld.of GNode.to pf6 (fun x => x.root) (fun x y => { x with root := y }) (fun _ => rfl) (fun _ _ => rfl)
@[reducible] def GNode.f7 : Fld GNode (Bool) := Fld.of GNode.to pf7 (fun x => x.more) (fun x y => { x with more := y }) (fun _ => rfl) (fun _ _ => rfl)
@[reducible] def GNode.f8 : Fld GNode (Int) := Fld.of GNode.to pl8 (fun x => x.of) (fun x y => { x with of := y }) (fun _ => rfl) (fun _ _ => rfl)
@[reducible] def GNode.zero : GNode := ⟨0, ⟨[]⟩, GMark.zero, GCon.zero, [], [], 0, false, 0⟩
theorem GNode.cv {S : Frz} {x : GNode} : Cv S x.to x := fun _ h => h
structure GMod where
  name : Str
  tagging : Int
  names : List Str
  types : List Int
  nodes : List GNode
abbrev GMod.to (x : GMod) : Str × Int × List Str × List Int × List GNode := (x.name, x.tagging, x.names, x.types, x.nodes)
instance : Rep GMod := Rep.iso GMod.to
@[reducible] def GMod.f0 : Fld GMod (Str) := Fld.of GMod.to pf0 (fun x => x.name) (fun x y => { x with name := y }) (fun _ => rfl) (fun _ _ => rfl)
@[reducible] def GMod.f1 : Fld GMod (Int) := Fld.of GMod.to pf1 (fun x => x.tagging) (fun x y => { x with tagging := y }) (fun _ => rfl) (fun _ _ => rfl)
@[reducible] def GMod.f2 : Fld GMod (List Str) := Fld.of GMod.to pf2 (fun x => x.names) (fun x y => { x with names := y }) (fun _ => rfl) (fun _ _ => rfl)
@[reducible] def GMod.f3 : Fld GMod (List Int) := Fld.of GMod.to pf3 (fun x => x.types) (fun x y => { x with types := y }) (fun _ => rfl) (fun _ _ => rfl)
@[reducible] def GMod.f4 : Fld GMod (List GNode) := Fld.of GMod.to pl4 (fun x => x.nodes) (fun x y => { x with nodes := y }) (fun _ => rfl) (fun _ _ => rfl)
@[reducible] def GMod.zero : GMod := ⟨⟨[]⟩, 0, [], [], []⟩
theorem GMod.cv {S : Frz} {x : GMod} : Cv S x.to x := fun _ h => h
structure GTyp where
  kind : Int
  tags : List Tag
  con : GCon
  items : List GItem
  fields : List GFld
  root : Int
  more : Bool
  of : Int
abbrev GTyp.to (x : GTyp) : Int × List Tag × GCon × List GItem × List GFld × Int × Bool × Int := (x.kind, x.tags, x.con, x.items, x.fields, x.root, x.more, x.of)
instance : Rep GTyp := Rep.iso GTyp.to
@[reducible] def GTyp.f0 : Fld GTyp (Int) := Fld.of GTyp.to pf0 (fun x => x.kind) (fun x y => { x with kind := y }) (fun _ => rfl) (fun _ _ => rfl)
@[reducible] def GTyp.f1 : Fld GTyp (List Tag) := Fld.of GTyp.to pf1 (fun x => x.tags) (fun x y => { x with tags := y }) (fun _ => rfl) (fun _ _ => rfl)
@[reducible] def GTyp.f2 : Fld GTyp (GCon) := Fld.of GTyp.to pf2 (fun x => x.con) (fun x y => { x with con := y }) (fun _ => rfl) (fun _ _ => rfl)
@[reducible] def GTyp.f3 : Fld GTyp (List GItem) := Fld.of GTyp.to pf3 (fun x => x.items) (fun x y => { x with items := y }) (fun _ => rfl) (fun _ _ => rfl)
@[reducible] def GTyp.f4 : Fld GTyp (List GFld) := Fld.of GTyp.to pf4 (fun x => x.fields) (fun x y => { x with fields := y }) (fun _ => rfl) (fun _ _ => rfl)
@[reducible] def GTyp.f5 : Fld GTyp (Int) := Fld.of GTyp.to pf5 (fun x => x.root) (fun x y => { x with root := y }) (fun _ => rfl) (fun _ _ => rfl)
@[reducible] def GTyp.f6 : Fld GTyp (Bool) := Fld.of GTyp.to pf6 (fun x => x.more) (fun x y => { x with more := y }) (fun _ => rfl) (fun _ _ => rfl)
@[reducible] def GTyp.f7 : Fld GTyp (Int) := Fld.of GTyp.to pl7 (fun x => x.of) (fun x y => { x with of := y }) (fun _ => rfl) (fun _ _ => rfl)
@[reducible] def GTyp.zero : GTyp := ⟨0, [], GCon.zero, [], [], 0, false, 0⟩
theorem GTyp.cv {S : Frz} {x : GTyp} : Cv S x.to x := fun _ h => h
structure GTab where
  name : Str
  names : List Str
  roots : List Int
  types : List GTyp
abbrev GTab.to (x : GTab) : Str × List Str × List Int × List GTyp := (x.name, x.names, x.roots, x.types)
instance : Rep GTab := Rep.iso GTab.to
@[reducible] def GTab.f0 : Fld GTab (Str) := Fld.of GTab.to pf0 (fun x => x.name) (fun x y => { x with name := y }) (fun _ => rfl) (fun _ _ => rfl)
@[reducible] def GTab.f1 : Fld GTab (List Str) := Fld.of GTab.to pf1 (fun x => x.names) (fun x y => { x with names := y }) (fun _ => rfl) (fun _ _ => rfl)
@[reducible] def GTab.f2 : Fld GTab (List Int) := Fld.of GTab.to pf2 (fun x => x.roots) (fun x y => { x with roots := y }) (fun _ => rfl) (fun _ _ => rfl)
@[reducible] def GTab.f3 : Fld GTab (List GTyp) := Fld.of GTab.to pl3 (fun x => x.types) (fun x y => { x with types := y }) (fun _ => rfl) (fun _ _ => rfl)
@[reducible] def GTab.zero : GTab := ⟨⟨[]⟩, [], [], []⟩
theorem GTab.cv {S : Frz} {x : GTab} : Cv S x.to x := fun _ h => h
structure GPar where
  l : List GTok
  at_ : Int
  m : GMod
  e : Int
  p : Int
abbrev GPar.to (x : GPar) : List GTok × Int × GMod × Int × Int := (x.l, x.at_, x.m, x.e, x.p)
instance : Rep GPar := Rep.iso GPar.to
@[reducible] def GPar.f0 : Fld GPar (List GTok) := Fld.of GPar.to pf0 (fun x => x.l) (fun x y => { x with l := y }) (fun _ => rfl) (fun _ _ => rfl)
@[reducible] def GPar.f1 : Fld GPar (Int) := Fld.of GPar.to pf1 (fun x => x.at_) (fun x y => { x with at_ := y }) (fun _ => rfl) (fun _ _ => rfl)
@[reducible] def GPar.f2 : Fld GPar (GMod) := Fld.of GPar.to pf2 (fun x => x.m) (fun x y => { x with m := y }) (fun _ => rfl) (fun _ _ => rfl)
@[reducible] def GPar.f3 : Fld GPar (Int) := Fld.of GPar.to pf3 (fun x => x.e) (fun x y => { x with e := y }) (fun _ => rfl) (fun _ _ => rfl)
@[reducible] def GPar.f4 : Fld GPar (Int) := Fld.of GPar.to pl4 (fun x => x.p) (fun x y => { x with p := y }) (fun _ => rfl) (fun _ _ => rfl)
@[reducible] def GPar.zero : GPar := ⟨[], 0, GMod.zero, 0, 0⟩
theorem GPar.cv {S : Frz} {x : GPar} : Cv S x.to x := fun _ h => h
structure GMk where
  m : GMod
  l : List GTyp
  e : Int
abbrev GMk.to (x : GMk) : GMod × List GTyp × Int := (x.m, x.l, x.e)
instance : Rep GMk := Rep.iso GMk.to
@[reducible] def GMk.f0 : Fld GMk (GMod) := Fld.of GMk.to pf0 (fun x => x.m) (fun x y => { x with m := y }) (fun _ => rfl) (fun _ _ => rfl)
@[reducible] def GMk.f1 : Fld GMk (List GTyp) := Fld.of GMk.to pf1 (fun x => x.l) (fun x y => { x with l := y }) (fun _ => rfl) (fun _ _ => rfl)
@[reducible] def GMk.f2 : Fld GMk (Int) := Fld.of GMk.to pl2 (fun x => x.e) (fun x y => { x with e := y }) (fun _ => rfl) (fun _ _ => rfl)
@[reducible] def GMk.zero : GMk := ⟨GMod.zero, [], 0⟩
theorem GMk.cv {S : Frz} {x : GMk} : Cv S x.to x := fun _ h => h
structure GTys where
  l : List GTyp
abbrev GTys.to (x : GTys) : List GTyp := (x.l)
instance : Rep GTys := Rep.iso GTys.to
@[reducible] def GTys.f0 : Fld GTys (List GTyp) := Fld.of GTys.to pl0 (fun x => x.l) (fun x y => { x with l := y }) (fun _ => rfl) (fun _ _ => rfl)
@[reducible] def GTys.zero : GTys := ⟨[]⟩
theorem GTys.cv {S : Frz} {x : GTys} : Cv S x.to x := fun _ h => h
structure GTmk where
  types : GTys
  m : GMod
abbrev GTmk.to (x : GTmk) : GTys × GMod := (x.types, x.m)
instance : Rep GTmk := Rep.iso GTmk.to
@[reducible] def GTmk.f0 : Fld GTmk (GTys) := Fld.of GTmk.to pf0 (fun x => x.types) (fun x y => { x with types := y }) (fun _ => rfl) (fun _ _ => rfl)
@[reducible] def GTmk.f1 : Fld GTmk (GMod) := Fld.of GTmk.to pl1 (fun x => x.m) (fun x y => { x with m := y }) (fun _ => rfl) (fun _ _ => rfl)
@[reducible] def GTmk.zero : GTmk := ⟨GTys.zero, GMod.zero⟩
theorem GTmk.cv {S : Frz} {x : GTmk} : Cv S x.to x := fun _ h => h
structure GTbd where
  t : GTab
abbrev GTbd.to (x : GTbd) : GTab := (x.t)
instance : Rep GTbd := Rep.iso GTbd.to
@[reducible] def GTbd.f0 : Fld GTbd (GTab) := Fld.of GTbd.to pl0 (fun x => x.t) (fun x y => { x with t := y }) (fun _ => rfl) (fun _ _ => rfl)
@[reducible] def GTbd.zero : GTbd := ⟨GTab.zero⟩
theorem GTbd.cv {S : Frz} {x : GTbd} : Cv S x.to x := fun _ h => h
structure GChk where
  tabled : GTbd
  bare : Bool
abbrev GChk.to (x : GChk) : GTbd × Bool := (x.tabled, x.bare)
instance : Rep GChk := Rep.iso GChk.to
@[reducible] def GChk.f0 : Fld GChk (GTbd) := Fld.of GChk.to pf0 (fun x => x.tabled) (fun x y => { x with tabled := y }) (fun _ => rfl) (fun _ _ => rfl)
@[reducible] def GChk.f1 : Fld GChk (Bool) := Fld.of GChk.to pl1 (fun x => x.bare) (fun x y => { x with bare := y }) (fun _ => rfl) (fun _ _ => rfl)
@[reducible] def GChk.zero : GChk := ⟨GTbd.zero, false⟩
theorem GChk.cv {S : Frz} {x : GChk} : Cv S x.to x := fun _ h => h
structure GSid where
  a : GTab
  b : GTab
abbrev GSid.to (x : GSid) : GTab × GTab := (x.a, x.b)
instance : Rep GSid := Rep.iso GSid.to
@[reducible] def GSid.f0 : Fld GSid (GTab) := Fld.of GSid.to pf0 (fun x => x.a) (fun x y => { x with a := y }) (fun _ => rfl) (fun _ _ => rfl)
@[reducible] def GSid.f1 : Fld GSid (GTab) := Fld.of GSid.to pl1 (fun x => x.b) (fun x y => { x with b := y }) (fun _ => rfl) (fun _ _ => rfl)
@[reducible] def GSid.zero : GSid := ⟨GTab.zero, GTab.zero⟩
theorem GSid.cv {S : Frz} {x : GSid} : Cv S x.to x := fun _ h => h
structure GWlk where
  sides : GSid
  e : Int
abbrev GWlk.to (x : GWlk) : GSid × Int := (x.sides, x.e)
instance : Rep GWlk := Rep.iso GWlk.to
@[reducible] def GWlk.f0 : Fld GWlk (GSid) := Fld.of GWlk.to pf0 (fun x => x.sides) (fun x y => { x with sides := y }) (fun _ => rfl) (fun _ _ => rfl)
@[reducible] def GWlk.f1 : Fld GWlk (Int) := Fld.of GWlk.to pl1 (fun x => x.e) (fun x y => { x with e := y }) (fun _ => rfl) (fun _ _ => rfl)
@[reducible] def GWlk.zero : GWlk := ⟨GSid.zero, 0⟩
theorem GWlk.cv {S : Frz} {x : GWlk} : Cv S x.to x := fun _ h => h
structure GRwk where
  a : GTab
  b : GTab
  e : Int
abbrev GRwk.to (x : GRwk) : GTab × GTab × Int := (x.a, x.b, x.e)
instance : Rep GRwk := Rep.iso GRwk.to
@[reducible] def GRwk.f0 : Fld GRwk (GTab) := Fld.of GRwk.to pf0 (fun x => x.a) (fun x y => { x with a := y }) (fun _ => rfl) (fun _ _ => rfl)
@[reducible] def GRwk.f1 : Fld GRwk (GTab) := Fld.of GRwk.to pf1 (fun x => x.b) (fun x y => { x with b := y }) (fun _ => rfl) (fun _ _ => rfl)
@[reducible] def GRwk.f2 : Fld GRwk (Int) := Fld.of GRwk.to pl2 (fun x => x.e) (fun x y => { x with e := y }) (fun _ => rfl) (fun _ _ => rfl)
@[reducible] def GRwk.zero : GRwk := ⟨GTab.zero, GTab.zero, 0⟩
theorem GRwk.cv {S : Frz} {x : GRwk} : Cv S x.to x := fun _ h => h
structure GXsd where
  a : GTab
  b : GTab
abbrev GXsd.to (x : GXsd) : GTab × GTab := (x.a, x.b)
instance : Rep GXsd := Rep.iso GXsd.to
@[reducible] def GXsd.f0 : Fld GXsd (GTab) := Fld.of GXsd.to pf0 (fun x => x.a) (fun x y => { x with a := y }) (fun _ => rfl) (fun _ _ => rfl)
@[reducible] def GXsd.f1 : Fld GXsd (GTab) := Fld.of GXsd.to pl1 (fun x => x.b) (fun x y => { x with b := y }) (fun _ => rfl) (fun _ _ => rfl)
@[reducible] def GXsd.zero : GXsd := ⟨GTab.zero, GTab.zero⟩
theorem GXsd.cv {S : Frz} {x : GXsd} : Cv S x.to x := fun _ h => h
structure GXwk where
  sides : GXsd
  left : Int
abbrev GXwk.to (x : GXwk) : GXsd × Int := (x.sides, x.left)
instance : Rep GXwk := Rep.iso GXwk.to
@[reducible] def GXwk.f0 : Fld GXwk (GXsd) := Fld.of GXwk.to pf0 (fun x => x.sides) (fun x y => { x with sides := y }) (fun _ => rfl) (fun _ _ => rfl)
@[reducible] def GXwk.f1 : Fld GXwk (Int) := Fld.of GXwk.to pl1 (fun x => x.left) (fun x y => { x with left := y }) (fun _ => rfl) (fun _ _ => rfl)
@[reducible] def GXwk.zero : GXwk := ⟨GXsd.zero, 0⟩
theorem GXwk.cv {S : Frz} {x : GXwk} : Cv S x.to x := fun _ h => h
structure GCkd where
  con : GCon
abbrev GCkd.to (x : GCkd) : GCon := (x.con)
instance : Rep GCkd := Rep.iso GCkd.to
@[reducible] def GCkd.f0 : Fld GCkd (GCon) := Fld.of GCkd.to pl0 (fun x => x.con) (fun x y => { x with con := y }) (fun _ => rfl) (fun _ _ => rfl)
@[reducible] def GCkd.zero : GCkd := ⟨GCon.zero⟩
theorem GCkd.cv {S : Frz} {x : GCkd} : Cv S x.to x := fun _ h => h
structure GLrd where
  s : Str
  at_ : Int
abbrev GLrd.to (x : GLrd) : Str × Int := (x.s, x.at_)
instance : Rep GLrd := Rep.iso GLrd.to
@[reducible] def GLrd.f0 : Fld GLrd (Str) := Fld.of GLrd.to pf0 (fun x => x.s) (fun x y => { x with s := y }) (fun _ => rfl) (fun _ _ => rfl)
@[reducible] def GLrd.f1 : Fld GLrd (Int) := Fld.of GLrd.to pl1 (fun x => x.at_) (fun x y => { x with at_ := y }) (fun _ => rfl) (fun _ _ => rfl)
@[reducible] def GLrd.zero : GLrd := ⟨⟨[]⟩, 0⟩
theorem GLrd.cv {S : Frz} {x : GLrd} : Cv S x.to x := fun _ h => h
structure GLex where
  reader : GLrd
abbrev GLex.to (x : GLex) : GLrd := (x.reader)
instance : Rep GLex := Rep.iso GLex.to
@[reducible] def GLex.f0 : Fld GLex (GLrd) := Fld.of GLex.to pl0 (fun x => x.reader) (fun x y => { x with reader := y }) (fun _ => rfl) (fun _ _ => rfl)
@[reducible] def GLex.zero : GLex := ⟨GLrd.zero⟩
theorem GLex.cv {S : Frz} {x : GLex} : Cv S x.to x := fun _ h => h
/-! ### Zeros -/
def Zr {α : Type} [Rep α] (cs : List Value) (x : α) : Prop := ∀ S, Rep.rd S cs x
theorem zr_int : Zr [.int .i64 0] (0 : Int) := fun _ => ⟨rfl, in_mk (by omega) (by omega)⟩
theorem zr_bool : Zr [.bool false] false := fun _ => rfl
theorem zr_str : Zr [.string ⟨#[]⟩] (Str.mk []) := fun _ => ⟨rfl, Nat.zero_le _⟩
theorem zr_u8 : Zr [.int .u8 0] (0 : UInt8) := fun _ => rfl
theorem zr_list {α : Type} [Rep α] : Zr [.slice none 0 0] ([] : List α) := fun _ => ⟨_, rfl, none, 0, rfl, Nat.le_refl _, Nat.zero_le _, .inl rfl⟩
theorem zr_tl {α : Type} [Rep α] : Zr [.slice none 0 0] (TList.mk none ([] : List α)) := fun S => ⟨_, rfl, nilv_appv S _ rfl⟩
theorem zr_vh : Zr [.slice none 0 0] (Vh.mk none 0) := fun _ => ⟨_, rfl, Nat.zero_le _, rfl, rfl⟩
theorem zr_pair {α β : Type} [Rep α] [Rep β] {c1 c2 : List Value} {x : α} {y : β} (h : Zr c1 x) (k : Zr c2 y) : Zr (c1 ++ c2) (x, y) := fun S => ⟨c1, c2, rfl, h S, k S⟩
theorem zr_val : Zr [.int .i64 0, .int .i64 0, .slice none 0 0, .slice none 0 0, .int .i64 0, .slice none 0 0] Val.zero := fun S => Val.rd_to.2 (zr_pair zr_int (zr_pair zr_int (zr_pair zr_list (zr_pair zr_list (zr_pair zr_int zr_list)))) S)
theorem zero_agg {α : Type} [Rep α] {P : Program} {T : TypeId} {x : α} {cs : List Value} (ha : Rep.agg α = true) (h : (P.info? T).bind (·.zero) = some (.agg cs.toArray)) (hz : Zr cs x) : ZeroOk P T x := ZeroOk.of h fun S => isv_of_agg ha (by simpa using hz S)
theorem zero_one {α : Type} [Rep α] {P : Program} {T : TypeId} {x : α} {v : Value} (ha : Rep.agg α = false) (h : (P.info? T).bind (·.zero) = some v) (hz : Zr [v] x) : ZeroOk P T x := ZeroOk.of h fun S => isv_of_plain ha (hz S)

section ops
variable {c : Ctx} {d : Option Nat} {ty : TypeId} {pos : String} {af : Array Edge} {g : Option (Nat × Bool)} {σ : St}
theorem v_fa {α β γ : Type} [Rep α] [Rep β] [Rep γ] {b : Nat} {L : Fld α β} {x : Operand} {T f : Nat} (hx : opnd σ.Γ x = some (ptrv b L)) (M : Fld β γ) (hf : FldB c.P T f M.off (Rep.n γ) (Rep.agg γ) = true) :
    OpV c ⟨d, .fieldAddr T x f, ty, pos, af, g⟩ σ (ptrv b (L.comp M)) := v_fieldAddr M hf hx
theorem v_fi {β γ : Type} [Rep β] [Rep γ] {y : β} {z : γ} {x : Operand} {T f : Nat} (hx : opnd σ.Γ x = some (immv y)) (M : Fld β γ) (hf : FldB c.P T f M.off (Rep.n γ) (Rep.agg γ) = true) (hz : M.get y = z) :
    OpV c ⟨d, .fieldAddr T x f, ty, pos, af, g⟩ σ (immv z) := hz ▸ v_fieldAddrI M hf hx
theorem v_fp {α β γ : Type} [Rep α] [Rep β] [Rep γ] {b : Nat} {L : Fld α β} {y : α} {x : Operand} {T f : Nat} {o : Obj} (hx : opnd σ.Γ x = some (pinv o b L y)) (M : Fld β γ) (hf : FldB c.P T f M.off (Rep.n γ) (Rep.agg γ) = true) :
    OpV c ⟨d, .fieldAddr T x f, ty, pos, af, g⟩ σ (pinv o b (L.comp M) y) := v_fieldAddrP M hf hx
theorem v_fv {α β γ : Type} [Rep α] [Rep β] [Rep γ] {t : Vt} {i : Nat} {L : Fld α β} {x : Operand} {T f : Nat} (hx : opnd σ.Γ x = some (veltv t i L)) (M : Fld β γ) (hf : FldB c.P T f M.off (Rep.n γ) (Rep.agg γ) = true) :
    OpV c ⟨d, .fieldAddr T x f, ty, pos, af, g⟩ σ (veltv t i (L.comp M)) := v_vfield M hf hx
theorem v_ix {α : Type} [Rep α] {x i : Operand} {l : List α} {k : Int} {y : α} {R : VP} {T : Nat} (hx : opnd σ.Γ x = some R) (hc : ∀ S v, R.p S v → (isv l).p S v) (hi : opnd σ.Γ i = some (isv k)) (hT : SlB c.P T (Rep.n α) (Rep.agg α) = true)
    (hy : getI l k = some y) : OpV c ⟨d, .indexAddr T x i, ty, pos, af, g⟩ σ (immv y) := fun S a w m => by
  obtain ⟨hk, hy⟩ := getI_inv hy
  obtain ⟨p, cap, h1, h2, h3, h4⟩ := isv_list.1 (hc _ _ (opnd_sound m hx))
  obtain ⟨h5, _⟩ := isv_int.1 (opnd_sound m hi)
  have hlt := (List.getElem?_eq_some_iff.1 hy).1
  rcases h4 with h4 | ⟨ad, cs, h6, h7, h8, h9⟩
  · subst h4; simp at hy
  obtain ⟨e, hu, hte⟩ := SlB.spec hT
  subst h6
  refine ⟨.pointer (some (ad.add (k.toNat * Rep.n α))), ⟨_, _, rfl, Frz.has_take (Frz.has_sub h7 _) (Rep.n α), rdL_get (r := Rep.rd S) (fun _ _ h => Rep.len h) h9 hy⟩, fun w' _ => ?_⟩
  have hb : 0 ≤ k ∧ k < (l.length : Int) := ⟨hk, by omega⟩
  simp [execOp, h1, h5, Instr.indexAt, asIntOf, underlying, hu, hb, TyB.size hte]
theorem v_ln {α : Type} [Rep α] {x : Operand} {l : List α} {R : VP} {T n : Nat} {agg : Bool} (hx : opnd σ.Γ x = some R) (hc : ∀ S v, R.p S v → (isv l).p S v) (hT : SlB c.P T n agg = true) :
    OpV c ⟨d, .call ⟨.builtin .len, #[x], #[T]⟩, ty, pos, af, g⟩ σ (isv (l.length : Int)) := fun S a w m => by
  obtain ⟨p, cap, h1, h2, h3, _⟩ := isv_list.1 (hc _ _ (opnd_sound m hx))
  exact ⟨.int .i64 l.length, isv_int.2 ⟨rfl, by unfold inI64; unfold maxList at h3; omega⟩, fun w' _ => by
    simp [execOp, resolve, invoke, builtin, h1, run_len hT]⟩
theorem sl_sound {α : Type} [Rep α] {S : Frz} {a : Act} {w : World} (m : Models c σ S a w) {x : Operand} {lo hi : Option Operand} {l : List α} {R : VP} {k q : Int} {T : Nat} (hx : opnd σ.Γ x = some R) (hc : ∀ S v, R.p S v → (isv l).p S v) (hT : SlB c.P T (Rep.n α) (Rep.agg α) = true)
    (hlo : (lo = none ∧ k = 0) ∨ ∃ o, lo = some o ∧ opnd σ.Γ o = some (isv k)) (hhi : (hi = none ∧ q = l.length) ∨ ∃ o, hi = some o ∧ opnd σ.Γ o = some (isv q))
    (hk : 0 ≤ k) (hkq : k ≤ q) (hq : q ≤ l.length) : ∃ p cap, a.eval x = .slice p l.length cap ∧ l.length ≤ cap ∧ ∀ w', (execOp a.eval ⟨d, .slice T x lo hi none, ty, pos, af, g⟩).run c.P w' = .ok (.value (.slice (if cap = k.toNat then p else p.map (·.add (k.toNat * Rep.n α))) (q.toNat - k.toNat) (cap - k.toNat))) w' := by
  obtain ⟨p, cap, h1, h2, h3, h4⟩ := isv_list.1 (hc _ _ (opnd_sound m hx))
  obtain ⟨e, hu, hte⟩ := SlB.spec hT
  refine ⟨p, cap, h1, h2, fun w' => ?_⟩
  have b1 : ∀ (v : Value) (code : BoundsCode), v = .int .i64 q → (Instr.sliceBound v cap code).run c.P w' = .ok q.toNat w' := fun v code hv => by
    rw [hv]; exact sliceBound_ok (by omega) (by omega)
  have b2 : ∀ (v : Value) (code : BoundsCode), v = .int .i64 k → (Instr.sliceBound v q.toNat code).run c.P w' = .ok k.toNat w' := fun v code hv => by
    rw [hv]; exact sliceBound_ok (by omega) (by omega)
  rcases hlo with ⟨rfl, rfl⟩ | ⟨o1, rfl, ho1⟩
  · rcases hhi with ⟨rfl, rfl⟩ | ⟨o2, rfl, ho2⟩
    · simp [execOp, h1, Instr.sliceAt, Instr.slice, Instr.sliceBounds, underlying, hu, TyB.size hte]
    · have e2 := b1 _ .sliceAcap (isv_int.1 (opnd_sound m ho2)).1
      simp [execOp, h1, Instr.sliceAt, Instr.slice, Instr.sliceBounds, underlying, hu, TyB.size hte, e2]
  · have e1 := b2 _ .sliceB (isv_int.1 (opnd_sound m ho1)).1
    rcases hhi with ⟨rfl, rfl⟩ | ⟨o2, rfl, ho2⟩
    · have e1' : (Instr.sliceBound (a.eval o1) l.length .sliceB).run c.P w' = .ok k.toNat w' := by simpa using e1
      simp [execOp, h1, Instr.sliceAt, Instr.slice, Instr.sliceBounds, underlying, hu, TyB.size hte, e1']
    · have e2 := b1 _ .sliceAcap (isv_int.1 (opnd_sound m ho2)).1
      simp [execOp, h1, Instr.sliceAt, Instr.slice, Instr.sliceBounds, underlying, hu, TyB.size hte, e1, e2]
theorem v_sl {α : Type} [Rep α] {x : Operand} {lo hi : Option Operand} {l : List α} {R : VP} {k q : Int} {T : Nat} (hx : opnd σ.Γ x = some R) (hc : ∀ S v, R.p S v → (isv l).p S v) (hT : SlB c.P T (Rep.n α) (Rep.agg α) = true)
    (hlo : (lo = none ∧ k = 0) ∨ ∃ o, lo = some o ∧ opnd σ.Γ o = some (isv k)) (hhi : (hi = none ∧ q = l.length) ∨ ∃ o, hi = some o ∧ opnd σ.Γ o = some (isv q))
    (hk : 0 ≤ k) (hkq : k ≤ q) (hq : q ≤ l.length) : OpV c ⟨d, .slice T x lo hi none, ty, pos, af, g⟩ σ (isv ((l.take q.toNat).drop k.toNat)) := fun S a w m => by
  obtain ⟨p, cap, h1, h2, hr⟩ := sl_sound (d := d) (ty := ty) (pos := pos) (af := af) (g := g) m hx hc hT hlo hhi hk hkq hq
  obtain ⟨p', cap', h1', _, h3, h4⟩ := isv_list.1 (hc _ _ (opnd_sound m hx))
  rw [h1] at h1'; cases h1'
  have hlen : ((l.take q.toNat).drop k.toNat).length = q.toNat - k.toNat := by rw [List.length_drop, List.length_take]; omega
  refine ⟨_, isv_list.2 ⟨_, _, by rw [hlen], by rw [hlen]; omega, by rw [hlen]; omega, ?_⟩, fun w' _ => hr w'⟩
  by_cases he : (l.take q.toNat).drop k.toNat = []
  · exact .inl he
  right
  have hpos : 0 < q.toNat - k.toNat := by rw [← hlen]; exact List.length_pos_iff.2 he
  rcases h4 with h4 | ⟨ad, cs, h6, h7, h8, h9⟩
  · subst h4; simp at he
  subst h6
  have hne : ¬ cap = k.toNat := by omega
  refine ⟨ad.add (k.toNat * Rep.n α), ((cs.take (q.toNat * Rep.n α)).drop (k.toNat * Rep.n α)), by rw [if_neg hne]; rfl, ?_, ?_, rdL_drop (fun _ _ h => Rep.len h) _ (rdL_take (fun _ _ h => Rep.len h) _ h9)⟩
  · exact Frz.has_sub (Frz.has_take h7 _) _
  · have h10 : q.toNat * Rep.n α ≤ l.length * Rep.n α := Nat.mul_le_mul_right _ (by omega)
    rw [hlen, List.length_drop, List.length_take, h8, Nat.min_eq_left h10, Nat.sub_mul]
end ops
end Go.Sy


namespace Go.Sy
section rules
variable {c : Ctx} {ops : Array Oper} {Q : Exit → Act → World → Prop} {ι β : Type} {r : β}

theorem w_J {γ : Type} {x y : Code} {Γ : Slots} {H Hc Hr : List Ent} (mod : ι → γ → Slots) (Hm : ι → γ → List Ent) (_hT : Takes H Hc Hr) {B : (ι → Option β) → Option β} {R : ι → Option β} (h : jp B R = some r)
    (hk : ∀ i g, R i = some r → Wp c y ⟨mod i g ++ Γ, Hm i g ++ Hr⟩ Q)
    (hx : ∀ J : ι → Option β, B J = some r → (∀ i g, J i = some r → ∀ σ', Imp σ' ⟨mod i g ++ Γ, Hm i g ++ Hr⟩ → Fin c σ' (nxt c y Q)) → Wp c x ⟨Γ, H⟩ (nxt c y Q)) : Wp c x ⟨Γ, H⟩ (nxt c y Q) :=
  hx R h fun i g hi σ' him => fin_nxt (w_cut him (hk i g hi))

theorem rl_j {γ : Type} {l l' : List Oper} {Γ : Slots} {H Hc Hr : List Ent} (mod : ι → γ → Slots) (Hm : ι → γ → List Ent) (_hT : Takes H Hc Hr) {B : (ι → Option β) → Option β} {R : ι → Option β} (h : jp B R = some r) (n : Nat) (_hl : l.drop n = l')
    (hk : ∀ i g, R i = some r → Rl c ops l' ⟨mod i g ++ Γ, Hm i g ++ Hr⟩ Q)
    (hx : ∀ J : ι → Option β, B J = some r → (∀ i g, J i = some r → ∀ σ', Imp σ' ⟨mod i g ++ Γ, Hm i g ++ Hr⟩ → Rl c ops l' σ' Q) → Rl c ops l ⟨Γ, H⟩ Q) : Rl c ops l ⟨Γ, H⟩ Q :=
  hx R h fun i g hi σ' him => fun k hk' S a w m => hk i g hi k hk' S a w (m.weak him)

theorem rd_j {γ : Type} {l l' : Ord} {Γ : Slots} {H Hc Hr : List Ent} (mod : ι → γ → Slots) (Hm : ι → γ → List Ent) (_hT : Takes H Hc Hr) {B : (ι → Option β) → Option β} {R : ι → Option β} (h : jp B R = some r) (n : Nat) (_hl : l.drop n = l')
    (hk : ∀ i g, R i = some r → Rd c ops l' ⟨mod i g ++ Γ, Hm i g ++ Hr⟩ Q)
    (hx : ∀ J : ι → Option β, B J = some r → (∀ i g, J i = some r → ∀ σ', Imp σ' ⟨mod i g ++ Γ, Hm i g ++ Hr⟩ → Rd c ops l' σ' Q) → Rd c ops l ⟨Γ, H⟩ Q) : Rd c ops l ⟨Γ, H⟩ Q :=
  hx R h fun i g hi σ' him => fun S a w m => hk i g hi S a w (m.weak him)

theorem w_lp {γ : Type} {x : Code} {Γ : Slots} {H Hr : List Ent} (mod : ι → γ → Slots) (Hm : ι → γ → List Ent) {F : (ι → Option β) → ι → Option β} {i0 : ι} (h : lp F i0 = some r) (g0 : γ)
    (hm : mods Γ (mod i0 g0)) (hT : Takes H (Hm i0 g0) Hr)
    (hx : ∀ (L : ι → Option β) (i : ι) (g : γ) (Q' : Exit → Act → World → Prop), F L i = some r → (∀ j g', L j = some r → ∀ σ', Imp σ' ⟨mod j g' ++ Γ, Hm j g' ++ Hr⟩ → Fin c σ' Q') → (∀ id σ', Exi c id σ' Q → Exi c id σ' Q') → (∀ σ', Ret c σ' Q → Ret c σ' Q') → Wp c x ⟨mod i g ++ Γ, Hm i g ++ Hr⟩ Q') : Wp c (.loop x) ⟨Γ, H⟩ Q := by
  refine w_loop (ι := Nat × ι × γ) (fun p => lpN F p.1 p.2.1 = some r) (fun p => ⟨mod p.2.1 p.2.2 ++ Γ, Hm p.2.1 p.2.2 ++ Hr⟩) (fun p => p.1) (fuel, i0, g0) h (join_imp 0 rfl rfl hm (takes_all hT)) ?_
  rintro ⟨n, i, g⟩ hI
  cases n with
  | zero => cases hI
  | succ n =>
    exact hx (lpN F n) i g _ hI (fun j g' hj σ' him => fin_loop (n, j, g') hj (Nat.lt_succ_self n) him) (fun id σ' he => exi_loop he) (fun σ' hr => ret_loop hr)

theorem upd_imm {α : Type} [Rep α] {Γ : Slots} {H Hr : List Ent} {b : Nat} {y : α} (i : Nat) (hp : Pick (boxE b y) H Hr) (hi : look Γ i = some (ptrv b (Fld.id α))) : Upd c ⟨Γ, H⟩ ⟨(i, immv y) :: Γ, Hr⟩ := fun S a w m => by
  have hs : (boxE b y).sat S w := m.owns.get hp
  obtain ⟨o, ho, hnone, cs, T', e, hr⟩ := hs
  subst e
  have hle : S.le (S.put b cs.toList) := fun j d hj => by
    have hne : j ≠ b := by rintro rfl; rw [hnone] at hj; cases hj
    exact ⟨d, by unfold Frz.put; rw [if_neg hne]; exact hj, List.prefix_refl _⟩
  have hst : Step (keys [boxE b y]) S (S.put b cs.toList) w w := by
    refine ⟨Keep.refl _ _, ⟨hle, fun j _ hj => by unfold Frz.put; rw [if_neg (by simpa [keys, boxE] using hj)]⟩, fun j d hj => ?_⟩
    unfold Frz.put at hj
    split at hj
    · cases hj
      rename_i ej; subst ej
      exact ⟨cs, T', (0, 0), ho, List.prefix_refl _⟩
    · exact m.sub j d hj
  have m' := m.step (Hc := [boxE b y]) (H' := []) (Takes.cons hp .nil) hst (owns_nil _ _ _ _)
  refine ⟨S.put b cs.toList, hle, m'.size, m'.dfr, m'.sub, m'.keep, m'.grow, fun j R hj => ?_, m'.owns, m'.pins⟩
  unfold look at hj
  cases hk : Nat.beq i j with
  | true =>
    rw [hk] at hj
    have e : i = j := Nat.eq_of_beq_eq_true hk
    subst e
    cases hj
    obtain ⟨v, h1, h2⟩ := m'.env i _ hi
    have h2' : v = .pointer (some ⟨b, 0, none⟩) := h2
    exact ⟨v, h1, ⟨b, 0, none⟩, cs.toList, h2', ⟨rfl, cs.toList, by show (if b = b then _ else _) = _; rw [if_pos rfl], fun j u hj => by simpa using hj⟩, Rep.mono hle hr⟩
  | false => rw [hk] at hj; exact m'.env j R hj

theorem w_pinN {α β : Type} [Rep α] [Rep β] {P : Program} {n : Nat} {w0 : World} {S0 : Frz} {M : List Nat} {pin : List (Nat × Obj)} {code : Code} {Γ : Slots} {H Hr : List Ent} {b : Nat} {L : Fld α β} {x : α} (i : Nat) (hp : Pick (boxE b x) H Hr) (hi : look Γ i = some (ptrv b L))
    (k : ∀ o, b ∉ pin.map (·.1) → Wp ⟨P, n, w0, S0, M, (b, o) :: pin⟩ code ⟨(i, pinv o b L x) :: Γ, Hr⟩ Q) : Wp ⟨P, n, w0, S0, M, pin⟩ code ⟨Γ, H⟩ Q := fun S a w m => by
  refine w_pin hp hi (fun o => k o fun hb => ?_) S a w m
  obtain ⟨y, hy, rfl⟩ := List.mem_map.1 hb
  refine (m.pins y hy).2.2.1 ?_
  have hkp := keys_perm hp.perm
  exact hkp.mem_iff.2 (by simp [keys, boxE])
theorem fin_unpinN {α β : Type} [Rep α] [Rep β] {P : Program} {n : Nat} {w0 : World} {S0 : Frz} {M : List Nat} {pin : List (Nat × Obj)} {Γ : Slots} {H : List Ent} {b : Nat} {L : Fld α β} {x : α} {o : Obj} (i : Nat) (hnd : b ∉ pin.map (·.1)) (hi : look Γ i = some (pinv o b L x))
    (k : Fin ⟨P, n, w0, S0, M, pin⟩ ⟨(i, ptrv b L) :: Γ, boxE b x :: H⟩ Q) : Fin ⟨P, n, w0, S0, M, (b, o) :: pin⟩ ⟨Γ, H⟩ Q := fin_unpin hnd hi k

section ops
variable {ty : TypeId} {pos : String} {af : Array Edge} {g : Option (Nat × Bool)} {σ : St} {d : Option Nat}
theorem v_lpC {α β : Type} [Rep α] [Rep β] {b : Nat} {L : Fld α β} {y : α} {R : VP} {x : Operand} {T : TypeId} {o : Obj} (ht : TyB c.P T (Rep.n β) (Rep.agg β) = true) (hx : opnd σ.Γ x = some (pinv o b L y))
    (hp : (b, o) ∈ c.pin) (hc : ∀ S v, (isv (L.get y)).p S v → R.p S v) : OpV c ⟨d, .load T x, ty, pos, af, g⟩ σ R := fun S a w m => by
  obtain ⟨v, hv, hr⟩ := v_loadP (d := d) (ty := ty) (pos := pos) (af := af) (g := g) ht hx hp S a w m
  exact ⟨v, hc _ _ hv, hr⟩
end ops

theorem Cv.vhe {S : Frz} {t : Vt} {n m : Nat} (e : n = m) : Cv S (Vh.mk t n) (Vh.mk t m) := fun _ h => e ▸ h
section vec
variable {ty : TypeId} {pos : String} {af : Array Edge} {g : Option (Nat × Bool)}
theorem t_vappF {Γ : Slots} {H : List Ent} {α : Type} [Rep α] {x y : Operand} {t : Vt} {n : Nat} {l m : List α} {R : VP} {T U : TypeId} {dd : Nat} {K : St → Prop} {Hr : List Ent} (hT : appB c.P T U (Rep.n α) = true)
    (hx : opnd Γ x = some (vecv t n)) (hy : opnd Γ y = some R) (hc : ∀ S v, R.p S v → (isv m).p S v) (hp : Pick (vecE t l) H Hr) (hnl : n = l.length)
    (hb : Nat.ble (l.length + m.length) 68719476736 = true)
    (k : ∀ t', K ⟨(dd, vecv t' (l ++ m).length) :: Γ, vecE t' (l ++ m) :: Hr⟩) (hd : Nat.blt dd c.n = true := by rfl) :
    OpT c ⟨some dd, .call ⟨.builtin .append, #[x, y], #[T, U]⟩, ty, pos, af, g⟩ ⟨Γ, H⟩ K := by
  subst hnl
  exact t_vapp hT hx hy hc hp (Nat.le_refl _) hb (fun t' => by rw [List.take_length]; exact k t') hd
theorem upd_frzF {α : Type} [Rep α] {Γ : Slots} {H Hr : List Ent} {t : Vt} {n : Nat} {l : List α} (i : Nat) (hp : Pick (vecE t l) H Hr) (hi : look Γ i = some (vecv t n)) (hn : n = l.length) : Upd c ⟨Γ, H⟩ ⟨(i, isv l) :: Γ, Hr⟩ := by
  have := upd_frz (c := c) i hp hi (by omega)
  rw [hn, List.take_length] at this
  exact this
end vec
section more
variable {ty : TypeId} {pos : String} {af : Array Edge} {g : Option (Nat × Bool)} {σ : St} {d : Option Nat}
theorem v_u8i {x : Operand} {u : UInt8} {T U : TypeId} {k : IntKind} (hT : c.P.underlying T = some (.int k)) (hU : c.P.underlying U = some (.int .i64)) (hx : opnd σ.Γ x = some (isv u)) :
    OpV c ⟨d, .convert T U x, ty, pos, af, g⟩ σ (isv (u.toNat : Int)) := fun S a w m => by
  have h1 := isv_u8.1 (opnd_sound m hx)
  have h := u.toNat_lt
  have hb : inI64 (u.toNat : Int) := in_mk (by omega) (by omega)
  exact ⟨.int .i64 u.toNat, isv_int.2 ⟨rfl, hb⟩, fun w' _ => by
    simp [execOp, convert, underlying, hT, hU, h1, Conv.intToInt, wrap_i64 hb]⟩
theorem v_remI {x y : Operand} {T U : TypeId} {p q : Int} (hx : opnd σ.Γ x = some (isv p)) (hy : opnd σ.Γ y = some (isv q)) (hq : (!decide (q = 0)) = true) : OpV c ⟨d, .binOp .rem T x y U, ty, pos, af, g⟩ σ (isv (p.tmod q)) := fun S a w m => by
  obtain ⟨h1, hp⟩ := isv_int.1 (opnd_sound m hx)
  obtain ⟨h2, _⟩ := isv_int.1 (opnd_sound m hy)
  have hq0 : ¬ q = 0 := by simpa using hq
  have hb : inI64 (p.tmod q) := by
    unfold inI64 at hp ⊢
    have h3 : (p.tmod q).natAbs ≤ p.natAbs := by rw [Int.natAbs_tmod]; exact Nat.mod_le _ _
    rcases Int.le_total 0 p with h4 | h4
    · have := Int.tmod_nonneg q h4; omega
    · have h5 : p.tmod q ≤ 0 := by
        have h6 : p = -(-p) := by omega
        rw [h6, Int.neg_tmod]
        have := Int.tmod_nonneg (a := -p) q (by omega)
        omega
      omega
  exact ⟨.int .i64 (p.tmod q), isv_int.2 ⟨rfl, hb⟩, fun w' _ => by
    have hr : (Op.intDiv .rem .i64 p q).run c.P w' = .ok (.int .i64 (p.tmod q)) w' := by
      unfold Op.intDiv; rw [if_neg hq0]; rfl
    simp [execOp, binOp, eqGuard, h1, h2, hr]⟩
end more

end rules
end Go.Sy


namespace Go.Sy
section short
variable {c : Ctx} {ops : Array Oper} {Q : Exit → Act → World → Prop} {Γ : Slots} {H : List Ent} {σ : St}
theorem oT {o : Oper} {rest : List Oper} (h : OpT c o σ fun σ' => Rl c ops rest σ' Q) (hg : o.guard = none := by rfl) : Rl c ops (o :: rest) σ Q := op_cons hg h
theorem oV {d : Nat} {op : Op} {ty : TypeId} {pos : String} {af : Array Edge} {rest : List Oper} {R : VP} (h : OpV c ⟨some d, op, ty, pos, af, none⟩ ⟨Γ, H⟩ R) (k : Rl c ops rest ⟨(d, R) :: Γ, H⟩ Q) (hd : Nat.blt d c.n = true := by rfl) : Rl c ops (⟨some d, op, ty, pos, af, none⟩ :: rest) ⟨Γ, H⟩ Q :=
  op_cons rfl (OpV.t h k hd)
theorem wsr {id : Nat} {y : Code} (h : Rl c ops ops.toList σ (nxt c y Q)) : Wp c (.seq (.region id ops false) y) σ Q := w_seq (w_region h)
theorem rnf {y : Code} (h : Wp c y σ Q) : Rl c ops [] σ (nxt c y Q) := rl_nil (fin_nxt h)
theorem wkf {y : Code} (h : Wp c y σ Q) : Wp c .skip σ (nxt c y Q) := w_skip (fin_nxt h)
theorem oM {d : Nat} {ty : TypeId} {x : Operand} {pos : String} {af : Array Edge} {rest : List Oper} {R : VP} (hx : opnd Γ x = some R) (k : Rl c ops rest ⟨(d, R) :: Γ, H⟩ Q) (hd : Nat.blt d c.n = true := by rfl) : Rl c ops (⟨some d, .move x, ty, pos, af, none⟩ :: rest) ⟨Γ, H⟩ Q :=
  oV (v_move hx) k hd
theorem oA {d : Nat} {ty : TypeId} {x : Operand} {pos : String} {af : Array Edge} {rest : List Oper} {R : VP} (hx : opnd Γ x = some R) (k : Rl c ops rest ⟨(d, R) :: Γ, H⟩ Q) (hd : Nat.blt d c.n = true := by rfl) : Rl c ops (⟨some d, .assign x, ty, pos, af, none⟩ :: rest) ⟨Γ, H⟩ Q :=
  oV (v_assign hx) k hd
theorem oK {d : Nat} {op : Op} {ty : TypeId} {pos : String} {af : Array Edge} {rest : List Oper} {j : Nat} {want b : Bool} {R : VP} (dj : Nat) (hg : (some (j, want) : Option (Nat × Bool)) = some (j, want)) (hj : (ops[j]?).bind (·.dst) = some dj) (hl : look Γ dj = some (isv b)) (hb : b = want)
    (h : OpV c ⟨some d, op, ty, pos, af, some (j, want)⟩ ⟨Γ, H⟩ R) (k : Rl c ops rest ⟨(d, R) :: Γ, H⟩ Q) (hd : Nat.blt d c.n = true := by rfl) : Rl c ops (⟨some d, op, ty, pos, af, some (j, want)⟩ :: rest) ⟨Γ, H⟩ Q :=
  op_take rfl hj hl hb (OpV.t h k hd)
theorem oP {d : Nat} {op : Op} {ty : TypeId} {pos : String} {af : Array Edge} {rest : List Oper} {j : Nat} {want b : Bool} (dj : Nat) (hj : (ops[j]?).bind (·.dst) = some dj) (hl : look Γ dj = some (isv b)) (hb : b = !want)
    (h : Rl c ops rest ⟨(d, undv) :: Γ, H⟩ Q) (hd : Nat.blt d c.n = true := by rfl) : Rl c ops (⟨some d, op, ty, pos, af, some (j, want)⟩ :: rest) ⟨Γ, H⟩ Q := op_pass hj hl hb h hd
theorem rvt {i d j : Nat} {want b : Bool} {op : Op} {ty : TypeId} {pos : String} {af : Array Edge} {π : Ord} {R : VP} (dj : Nat) (ho : ops[i]? = some ⟨some d, op, ty, pos, af, some (j, want)⟩) (hj : (ops[j]?).bind (·.dst) = some dj) (hl : look Γ dj = some (isv b)) (hb : b = want)
    (h : OpV c ⟨some d, op, ty, pos, af, some (j, want)⟩ ⟨Γ, H⟩ R) (k : Rd c ops π ⟨(d, R) :: Γ, H⟩ Q) (hd : Nat.blt d c.n = true := by rfl) : Rd c ops (.v i π) ⟨Γ, H⟩ Q := rd_vt ho hj hl hb h k hd
theorem rpv {i d j : Nat} {want b : Bool} {op : Op} {ty : TypeId} {pos : String} {af : Array Edge} {π : Ord} (dj : Nat) (ho : ops[i]? = some ⟨some d, op, ty, pos, af, some (j, want)⟩) (hj : (ops[j]?).bind (·.dst) = some dj) (hl : look Γ dj = some (isv b)) (hb : b = !want)
    (k : Rd c ops π ⟨(d, undv) :: Γ, H⟩ Q) (hd : Nat.blt d c.n = true := by rfl) : Rd c ops (.v i π) ⟨Γ, H⟩ Q := rd_passV ho hj hl hb k hd
theorem rvm {i d : Nat} {ty : TypeId} {x : Operand} {pos : String} {af : Array Edge} {π : Ord} {R : VP} (ho : ops[i]? = some ⟨some d, .move x, ty, pos, af, none⟩) (hx : opnd Γ x = some R) (k : Rd c ops π ⟨(d, R) :: Γ, H⟩ Q) (hd : Nat.blt d c.n = true := by rfl) : Rd c ops (.v i π) ⟨Γ, H⟩ Q := rd_v ho (v_move hx) k hd
@[reducible] def jb (n : Nat) : Bool → Unit → Slots := fun q _ => [(n, isv q)]
@[reducible] def je : Bool → Unit → List Ent := fun _ _ => []
end short
theorem ji {Γ Γ' : Slots} {H' : List Ent} {R : VP} (n j : Nat) (hd : Γ'.drop n = Γ) (ht : tailB (Γ'.take n) [j] Γ = true) (hl : look Γ' j = some R) : Imp ⟨Γ', H'⟩ ⟨[(j, R)] ++ Γ, [] ++ []⟩ :=
  join_imp (mod := [(j, R)]) (Hm := []) (Hr := []) n hd ht (mod_cons hl (fun _ _ h => h) mod_nil) .nil
end Go.Sy


namespace Go.Sy

section ops
variable {c : Ctx} {ty : TypeId} {pos : String} {af : Array Edge} {g : Option (Nat × Bool)} {σ : St} {d : Option Nat}
theorem v_min {x y : Operand} {p q : Int} {T1 T2 : TypeId} (hx : opnd σ.Γ x = some (isv p)) (hy : opnd σ.Γ y = some (isv q)) : OpV c ⟨d, .call ⟨.builtin .min, #[x, y], #[T1, T2]⟩, ty, pos, af, g⟩ σ (isv (min p q)) := fun S a w m => by
  obtain ⟨h1, k1⟩ := isv_int.1 (opnd_sound m hx)
  obtain ⟨h2, k2⟩ := isv_int.1 (opnd_sound m hy)
  refine ⟨.int .i64 (min p q), isv_int.2 ⟨rfl, by unfold inI64 at *; omega⟩, fun w' _ => ?_⟩
  simp [execOp, resolve, invoke, builtin, Builtin.min_, h1, h2, Builtin.min2]
  split <;> omega
theorem v_max {x y : Operand} {p q : Int} {T1 T2 : TypeId} (hx : opnd σ.Γ x = some (isv p)) (hy : opnd σ.Γ y = some (isv q)) : OpV c ⟨d, .call ⟨.builtin .max, #[x, y], #[T1, T2]⟩, ty, pos, af, g⟩ σ (isv (max p q)) := fun S a w m => by
  obtain ⟨h1, k1⟩ := isv_int.1 (opnd_sound m hx)
  obtain ⟨h2, k2⟩ := isv_int.1 (opnd_sound m hy)
  refine ⟨.int .i64 (max p q), isv_int.2 ⟨rfl, by unfold inI64 at *; omega⟩, fun w' _ => ?_⟩
  simp [execOp, resolve, invoke, builtin, Builtin.max_, h1, h2, Builtin.max2]
  split <;> omega
end ops
end Go.Sy


namespace Go.Sy

structure GAcc where
  lo : UInt8
  hi : UInt8
abbrev GAcc.to (x : GAcc) : UInt8 × UInt8 := (x.lo, x.hi)
instance : Rep GAcc := Rep.iso GAcc.to
@[reducible] def GAcc.f0 : Fld GAcc (UInt8) := Fld.of GAcc.to pf0 (fun x => x.lo) (fun x y => { x with lo := y }) (fun _ => rfl) (fun _ _ => rfl)
@[reducible] def GAcc.f1 : Fld GAcc (UInt8) := Fld.of GAcc.to pl1 (fun x => x.hi) (fun x y => { x with hi := y }) (fun _ => rfl) (fun _ _ => rfl)
@[reducible] def GAcc.zero : GAcc := ⟨0, 0⟩

def tab1 (x : UInt8) : UInt8 := UInt8.ofNat (Lib.firstT x.toNat)
def tab2 (x : UInt8) : GAcc := ⟨UInt8.ofNat (Lib.accLo x.toNat), UInt8.ofNat (Lib.accHi x.toNat)⟩
theorem tab1_nat (x : UInt8) : (tab1 x).toNat = Lib.firstT x.toNat := by
  unfold tab1
  rw [UInt8.toNat_ofNat']
  refine Nat.mod_eq_of_lt ?_
  unfold Lib.firstT
  repeat' split
  all_goals decide
theorem accLo_lt (i : Nat) : Lib.accLo i < 256 := by
  unfold Lib.accLo
  repeat' split
  all_goals decide
theorem accHi_lt (i : Nat) : Lib.accHi i < 256 := by
  unfold Lib.accHi
  repeat' split
  all_goals decide

def t1v (P : Program) (x : UInt8) : VP where
  p := fun _ v => ∃ g, P.globals.findIdx? (·.name == "unicode/utf8.first") = some g ∧ v = .pointer (some ⟨g, x.toNat, none⟩)
  mono := fun _ h => h
def t2v (P : Program) (x : UInt8) : VP where
  p := fun _ v => ∃ g, P.globals.findIdx? (·.name == "unicode/utf8.acceptRanges") = some g ∧ v = .pointer (some ⟨g, 2 * x.toNat, none⟩)
  mono := fun _ h => h
def ArrB (P : Program) (T len n : Nat) (agg : Bool) : Bool :=
  match P.underlying T with
  | some (.array l e) => l == len && TyB P e n agg
  | _ => false
theorem ArrB.spec {P : Program} {T len n : Nat} {agg : Bool} (h : ArrB P T len n agg = true) : ∃ e, P.underlying T = some (.array len e) ∧ TyB P e n agg = true := by
  unfold ArrB at h
  split at h
  · rename_i l e hu
    simp only [Bool.and_eq_true, beq_iff_eq] at h
    obtain ⟨rfl, h2⟩ := h
    exact ⟨e, hu, h2⟩
  · cases h
section ops
variable {c : Ctx} {ty : TypeId} {pos : String} {af : Array Edge} {gd : Option (Nat × Bool)} {σ : St} {d : Option Nat}
theorem v_t1 {x : Operand} {k : UInt8} {T g : Nat} (hg : c.P.globals.findIdx? (·.name == "unicode/utf8.first") = some g) (hT : ArrB c.P T 256 1 false = true) (hx : opnd σ.Γ x = some (isv k)) :
    OpV c ⟨d, .indexAddr T (.global g) x, ty, pos, af, gd⟩ σ (t1v c.P k) := fun S a w m => by
  have h1 := isv_u8.1 (opnd_sound m hx)
  obtain ⟨e, hu, hte⟩ := ArrB.spec hT
  have hlt := k.toNat_lt
  refine ⟨.pointer (some ⟨g, k.toNat, none⟩), ⟨g, hg, rfl⟩, fun w' _ => ?_⟩
  have hb : (k.toNat : Int) < 256 := by omega
  have hg2 : a.eval (.global g) = .pointer (some ⟨g, 0, none⟩) := rfl
  simp [execOp, h1, hg2, Instr.indexAt, asIntOf, underlying, hu, TyB.size hte, add_none, Instr.sureAddr, hb]
  intro h; omega
theorem v_t2 {x : Operand} {k : UInt8} {T g : Nat} (hg : c.P.globals.findIdx? (·.name == "unicode/utf8.acceptRanges") = some g) (hT : ArrB c.P T 16 2 true = true) (hx : opnd σ.Γ x = some (isv k)) (hk : Nat.blt k.toNat 16 = true) :
    OpV c ⟨d, .indexAddr T (.global g) x, ty, pos, af, gd⟩ σ (t2v c.P k) := fun S a w m => by
  have h1 := isv_u8.1 (opnd_sound m hx)
  obtain ⟨e, hu, hte⟩ := ArrB.spec hT
  have hlt : k.toNat < 16 := by simpa using hk
  refine ⟨.pointer (some ⟨g, 2 * k.toNat, none⟩), ⟨g, hg, rfl⟩, fun w' _ => ?_⟩
  have hb : (k.toNat : Int) < 16 := by omega
  have hg2 : a.eval (.global g) = .pointer (some ⟨g, 0, none⟩) := rfl
  simp [execOp, h1, hg2, Instr.indexAt, asIntOf, underlying, hu, TyB.size hte, add_none, Instr.sureAddr, hb, Nat.mul_comm]
  intro h; omega
theorem tabs_at (hT : Tabs c.P c.S0) {S : Frz} {a : Act} {w : World} (m : Models c σ S a w) {w' : World} (h : cls c S w') : TabsW c.P w' := hT.mono m.grow.le w' h.1
theorem v_t1l {x : Operand} {k : UInt8} {T : Nat} (hT : Tabs c.P c.S0) (ht : TyB c.P T 1 false = true) (hx : opnd σ.Γ x = some (t1v c.P k)) (g2 : Nat) (h2 : c.P.globals.findIdx? (·.name == "unicode/utf8.acceptRanges") = some g2) :
    OpV c ⟨d, .load T x, ty, pos, af, gd⟩ σ (isv (tab1 k)) := fun S a w m => by
  obtain ⟨g, hg, h1⟩ := opnd_sound m hx
  refine ⟨.int .u8 ((tab1 k).toNat : Int), isv_u8.2 rfl, fun w' hw' => ?_⟩
  obtain ⟨h3, _⟩ := tabs_at hT m hw' g g2 hg h2
  obtain ⟨v, hv, hrun⟩ := run_loadVar (α := UInt8) (S := S) (cs := [Value.int .u8 ((tab1 k).toNat : Int)]) (x := tab1 k) (ad := ⟨g, k.toNat, none⟩) ht rfl
  have h4 := hrun w' fun i u hi => by
    match i, hi with
    | 0, hi =>
      simp at hi; subst hi
      rw [add_none, tab1_nat]
      exact h3 _ k.toNat_lt
  simp only [execOp, h1, Instr.loadAt, Instr.sureAddr]
  have e := isv_u8.1 hv
  subst e
  simp [h4]
theorem v_t2l {x : Operand} {k : UInt8} {T : Nat} (hT : Tabs c.P c.S0) (ht : TyB c.P T 2 true = true) (hx : opnd σ.Γ x = some (t2v c.P k)) (hk : Nat.blt k.toNat 16 = true) (g1 : Nat) (h1 : c.P.globals.findIdx? (·.name == "unicode/utf8.first") = some g1) :
    OpV c ⟨d, .load T x, ty, pos, af, gd⟩ σ (isv (tab2 k)) := fun S a w m => by
  obtain ⟨g, hg, h2⟩ := opnd_sound m hx
  have hlt : k.toNat < 16 := by simpa using hk
  have hrd : Rep.rd S [Value.int .u8 (Lib.accLo k.toNat : Int), Value.int .u8 (Lib.accHi k.toNat : Int)] (tab2 k) := by
    refine ⟨[_], [_], rfl, ?_, ?_⟩
    · show _ = _
      unfold tab2
      rw [UInt8.toNat_ofNat', Nat.mod_eq_of_lt (accLo_lt _)]
    · show _ = _
      unfold tab2
      rw [UInt8.toNat_ofNat', Nat.mod_eq_of_lt (accHi_lt _)]
  obtain ⟨v, hv, hrun⟩ := run_loadVar (α := GAcc) (S := S) (x := tab2 k) (ad := ⟨g, 2 * k.toNat, none⟩) ht hrd
  refine ⟨v, hv, fun w' hw' => ?_⟩
  obtain ⟨_, h3⟩ := tabs_at hT m hw' g1 g h1 hg
  obtain ⟨h4, h5⟩ := h3 _ hlt
  have h6 := hrun w' fun i u hi => by
    match i, hi with
    | 0, hi => simp at hi; subst hi; rw [add_none]; exact h4
    | 1, hi => simp at hi; subst hi; rw [add_none]; exact h5
  simp only [execOp, h2, Instr.loadAt, Instr.sureAddr]
  simp [h6]
theorem v_sl3 {α : Type} [Rep α] {x hi mx : Operand} {l : List α} {R : VP} {q : Int} {T : Nat} (hx : opnd σ.Γ x = some R) (hc : ∀ S v, R.p S v → (isv l).p S v) (hT : SlB c.P T (Rep.n α) (Rep.agg α) = true)
    (hhi : opnd σ.Γ hi = some (isv q)) (hmx : opnd σ.Γ mx = some (isv q)) (hq0 : 0 ≤ q) (hq : q ≤ l.length) : OpV c ⟨d, .slice T x none (some hi) (some mx), ty, pos, af, gd⟩ σ (isv (l.take q.toNat)) := fun S a w m => by
  obtain ⟨p, cap, h1, h2, h3, h4⟩ := isv_list.1 (hc _ _ (opnd_sound m hx))
  obtain ⟨e, hu, hte⟩ := SlB.spec hT
  have hlen : (l.take q.toNat).length = q.toNat := by rw [List.length_take]; omega
  have b1 : ∀ (w' : World) (code : BoundsCode), (Instr.sliceBound (a.eval mx) cap code).run c.P w' = .ok q.toNat w' := fun w' code => by
    rw [(isv_int.1 (opnd_sound m hmx)).1]; exact sliceBound_ok (by omega) (by omega)
  have b2 : ∀ (w' : World) (code : BoundsCode), (Instr.sliceBound (a.eval hi) q.toNat code).run c.P w' = .ok q.toNat w' := fun w' code => by
    rw [(isv_int.1 (opnd_sound m hhi)).1]; exact sliceBound_ok (by omega) (by omega)
  refine ⟨.slice (if q.toNat = 0 then p else p.map (·.add 0)) q.toNat q.toNat, isv_list.2 ⟨_, q.toNat, by rw [hlen], by rw [hlen]; exact Nat.le_refl _, by rw [hlen]; omega, ?_⟩, fun w' _ => ?_⟩
  · by_cases he : l.take q.toNat = []
    · exact .inl he
    right
    rcases h4 with h4 | ⟨ad, cs, h6, h7, h8, h9⟩
    · subst h4; simp at he
    subst h6
    have h10 : q.toNat * Rep.n α ≤ l.length * Rep.n α := Nat.mul_le_mul_right _ (by omega)
    refine ⟨ad, cs.take (q.toNat * Rep.n α), ?_, Frz.has_take h7 _, by rw [hlen, List.length_take, h8, Nat.min_eq_left h10], rdL_take (fun _ _ h => Rep.len h) _ h9⟩
    split
    · rfl
    · show some (ad.add 0) = some ad
      unfold Addr.add; simp
  · simp [execOp, h1, Instr.sliceAt, Instr.slice, Instr.sliceBounds, underlying, hu, TyB.size hte, b1, b2]
end ops

section bits
variable {c : Ctx} {ty : TypeId} {pos : String} {af : Array Edge} {g : Option (Nat × Bool)} {σ : St} {d : Option Nat} {x y : Operand} {t u : TypeId}
theorem bv64 (p : UInt64) : BitVec.ofInt 64 (p.toNat : Int) = p.toBitVec := by
  apply BitVec.eq_of_toNat_eq
  rw [BitVec.toNat_ofInt]
  have h := p.toNat_lt
  have e : p.toBitVec.toNat = p.toNat := rfl
  rw [e]
  omega
theorem v_or64 {p q : UInt64} (hx : opnd σ.Γ x = some (isv p)) (hy : opnd σ.Γ y = some (isv q)) : OpV c ⟨d, .binOp .or t x y u, ty, pos, af, g⟩ σ (isv (p ||| q)) := fun S a w m => by
  have h1 := isv_u64.1 (opnd_sound m hx)
  have h2 := isv_u64.1 (opnd_sound m hy)
  have h := (p ||| q).toNat_lt
  have e : (((p ||| q).toNat : Nat) : Int) = ((BitVec.ofInt 64 (p.toNat : Int) ||| BitVec.ofInt 64 (q.toNat : Int)).toNat : Int) % 18446744073709551616 := by
    rw [bv64, bv64]
    have : (p.toBitVec ||| q.toBitVec).toNat = (p ||| q).toNat := rfl
    rw [this]; omega
  exact ⟨.int .u64 ((p ||| q).toNat : Int), isv_u64.2 rfl, fun w' _ => by
    have hr : (Op.intBits .or .u64 (p.toNat : Int) (q.toNat : Int)).run c.P w' = .ok (.int .u64 ((p ||| q).toNat : Int)) w' := by
      rw [e]; unfold Op.intBits; simp only [Sem.run_pure, wrap_u64]; rfl
    simp [execOp, binOp, eqGuard, h1, h2, hr]⟩
theorem v_and64 {p q : UInt64} (hx : opnd σ.Γ x = some (isv p)) (hy : opnd σ.Γ y = some (isv q)) : OpV c ⟨d, .binOp .and t x y u, ty, pos, af, g⟩ σ (isv (p &&& q)) := fun S a w m => by
  have h1 := isv_u64.1 (opnd_sound m hx)
  have h2 := isv_u64.1 (opnd_sound m hy)
  have h := (p &&& q).toNat_lt
  have e : (((p &&& q).toNat : Nat) : Int) = ((BitVec.ofInt 64 (p.toNat : Int) &&& BitVec.ofInt 64 (q.toNat : Int)).toNat : Int) % 18446744073709551616 := by
    rw [bv64, bv64]
    have : (p.toBitVec &&& q.toBitVec).toNat = (p &&& q).toNat := rfl
    rw [this]; omega
  exact ⟨.int .u64 ((p &&& q).toNat : Int), isv_u64.2 rfl, fun w' _ => by
    have hr : (Op.intBits .and .u64 (p.toNat : Int) (q.toNat : Int)).run c.P w' = .ok (.int .u64 ((p &&& q).toNat : Int)) w' := by
      rw [e]; unfold Op.intBits; simp only [Sem.run_pure, wrap_u64]; rfl
    simp [execOp, binOp, eqGuard, h1, h2, hr]⟩
def shl64 (x : UInt64) (n : Nat) : UInt64 := UInt64.ofNat (x.toNat * 2 ^ n)
theorem v_shl64 {p n : UInt64} (hx : opnd σ.Γ x = some (isv p)) (hy : opnd σ.Γ y = some (isv n)) (hn : Nat.ble n.toNat 64 = true) : OpV c ⟨d, .binOp .shl t x y u, ty, pos, af, g⟩ σ (isv (shl64 p n.toNat)) := fun S a w m => by
  have h1 := isv_u64.1 (opnd_sound m hx)
  have h2 := isv_u64.1 (opnd_sound m hy)
  have hn' := Nat.le_of_ble_eq_true hn
  have e : (((shl64 p n.toNat).toNat : Nat) : Int) = ((p.toNat : Int) * 2 ^ n.toNat) % 18446744073709551616 := by
    unfold shl64
    rw [UInt64.toNat_ofNat']
    simp
  have hmin : min n.toNat 64 = n.toNat := Nat.min_eq_left hn'
  exact ⟨.int .u64 ((shl64 p n.toNat).toNat : Int), isv_u64.2 rfl, fun w' _ => by rw [e]; simp [execOp, binOp, eqGuard, h1, h2, Op.shift, wrap_u64, IntKind.bits, hmin]⟩
theorem v_shr8 {p : UInt8} {n : UInt64} (hx : opnd σ.Γ x = some (isv p)) (hy : opnd σ.Γ y = some (isv n)) (hn : Nat.ble n.toNat 8 = true) : OpV c ⟨d, .binOp .shr t x y u, ty, pos, af, g⟩ σ (isv (shr8 p n.toNat)) := fun S a w m => by
  have h1 := isv_u8.1 (opnd_sound m hx)
  have h2 := isv_u64.1 (opnd_sound m hy)
  have hn' := Nat.le_of_ble_eq_true hn
  have hlt : p.toNat / 2 ^ n.toNat < 256 := Nat.lt_of_le_of_lt (Nat.div_le_self _ _) p.toNat_lt
  have e : (((shr8 p n.toNat).toNat : Nat) : Int) = ((p.toNat : Int)).fdiv (2 ^ n.toNat) := by
    unfold shr8
    rw [UInt8.toNat_ofNat', Nat.mod_eq_of_lt hlt, Int.fdiv_eq_ediv_of_nonneg _ (Int.pow_nonneg (by decide))]
    simp
  have hmin : min n.toNat 8 = n.toNat := Nat.min_eq_left hn'
  exact ⟨.int .u8 ((shr8 p n.toNat).toNat : Int), isv_u8.2 rfl, fun w' _ => by
    rw [e]
    simp [execOp, binOp, eqGuard, h1, h2, Op.shift, IntKind.bits, hmin]
    exact (Int.fdiv_eq_ediv_of_nonneg _ (Int.pow_nonneg (by decide))).symm⟩
end bits
end Go.Sy


namespace Go.Sy

theorem EqOk.u64 {P : Program} {T : TypeId} : EqOk P T UInt64 := by
  intro S v u x y hx hy X Y w
  have h1 := isv_u64.1 hx
  have h2 := isv_u64.1 hy
  subst h1; subst h2
  have hb : ((x.toNat : Int) == (y.toNat : Int)) = decide (x = y) := by
    by_cases h : x = y
    · simp [h]
    · have : x.toNat ≠ y.toNat := fun e => h (UInt64.toNat_inj.1 e)
      simp [h]; omega
  refine ⟨by simp [eqGuard], by simp [eqGuard], ?_, ?_⟩
  · simp only [binOp, Op.intCmp, Sem.run_pure, hb, ne_eq, not_true, if_false]
  · have hb' : ((x.toNat : Int) != (y.toNat : Int)) = !decide (x = y) := by rw [bne, hb]
    simp only [binOp, Op.intCmp, Sem.run_pure, hb', ne_eq, not_true, if_false]
section bits
variable {c : Ctx} {ty : TypeId} {pos : String} {af : Array Edge} {g : Option (Nat × Bool)} {σ : St} {d : Option Nat} {x y : Operand} {t u : TypeId}
end bits
structure PtrB where
  b : Nat
instance : Rep PtrB where
  n := 1
  agg := false
  rd := fun _ cs x => cs = [.pointer (some ⟨x.b, 0, none⟩)]
  len := fun h => by rw [h]; rfl
  mono := fun _ h => h
  cell := fun h v hv => by rw [h] at hv; simp at hv; subst hv; rfl
  one := fun _ => rfl
theorem isv_ptrB {S : Frz} {v : Value} {x : PtrB} : (isv x).p S v ↔ v = .pointer (some ⟨x.b, 0, none⟩) := by
  constructor
  · intro h
    obtain ⟨_, h2⟩ := isv_plain h rfl
    have h3 : [v] = [Value.pointer (some ⟨x.b, 0, none⟩)] := h2
    exact (List.cons.inj h3).1
  · intro h
    subst h
    exact ⟨rfl, rfl⟩
theorem ptr_isv {α : Type} [Rep α] {b : Nat} : ∀ (S : Frz) (v : Value), (ptrv b (Fld.id α)).p S v → (isv (PtrB.mk b)).p S v := fun _ _ h => isv_ptrB.2 h
theorem isv_ptr {α : Type} [Rep α] {b : Nat} : ∀ (S : Frz) (v : Value), (isv (PtrB.mk b)).p S v → (ptrv b (Fld.id α)).p S v := fun _ _ h => isv_ptrB.1 h
theorem v_loadIP {α : Type} [Rep α] {c : Ctx} {ty : TypeId} {pos : String} {af : Array Edge} {g : Option (Nat × Bool)} {σ : St} {d : Option Nat} {b : Nat} {x : Operand} {T : TypeId} (ht : TyB c.P T (Rep.n PtrB) (Rep.agg PtrB) = true) (hx : opnd σ.Γ x = some (immv (PtrB.mk b))) :
    OpV c ⟨d, .load T x, ty, pos, af, g⟩ σ (ptrv b (Fld.id α)) := fun S a w m => by
  obtain ⟨v, h1, h2⟩ := v_loadI (d := d) (ty := ty) (pos := pos) (af := af) (g := g) ht hx S a w m
  exact ⟨v, isv_ptr S v h1, h2⟩
/-! ### Lists of lists, the last one of which is appended to -/
structure NL (α : Type) where
  l : List α
  t : Option Tok
instance {α : Type} [Rep α] : Rep (NL α) where
  n := 1
  agg := false
  rd := fun S cs x => match x.t with
    | none => Rep.rd S cs x.l
    | some t => Rep.rd S cs (TList.mk t x.l)
  len := fun {S cs x} h => by
    cases hx : x.t with
    | none => simp only [hx] at h; exact Rep.len h
    | some t => simp only [hx] at h; exact Rep.len h
  mono := fun {S S' cs x} hS h => by
    cases hx : x.t with
    | none => simp only [hx] at h ⊢; exact Rep.mono hS h
    | some t => simp only [hx] at h ⊢; exact Rep.mono hS h
  cell := fun {S cs x} h => by
    cases hx : x.t with
    | none => simp only [hx] at h; exact Rep.cell h
    | some t => simp only [hx] at h; exact Rep.cell h
  one := fun _ => rfl
section nest0
variable {α : Type}
def nestL (t : Tok) : List (List α) → List (NL α)
  | [] => []
  | [x] => [⟨x, some t⟩]
  | x :: y :: r => ⟨x, none⟩ :: nestL t (y :: r)
@[simp] theorem nestL_length (t : Tok) : ∀ L : List (List α), (nestL t L).length = L.length
  | [] => rfl
  | [_] => rfl
  | x :: y :: r => by show (nestL t (y :: r)).length + 1 = (y :: r).length + 1; rw [nestL_length t (y :: r)]
end nest0
section nest
variable {α : Type} [Rep α] {S : Frz} {v : Value} {c : Ctx}
end nest
/-! ### Is a list nil? -/
/-- A bool that is true only if the list is empty. -/
def nqv {α : Type} (l : List α) : VP where
  p := fun _ v => ∃ b, v = .bool b ∧ (b = true → l = [])
  mono := fun _ h => h
section nilq
variable {c : Ctx} {ty : TypeId} {pos : String} {af : Array Edge} {g : Option (Nat × Bool)} {σ : St} {d : Option Nat}
theorem run_eqnil {P : Program} {T e : TypeId} (h : P.underlying T = some (.slice e)) (p : Option Addr) (l k : Nat) (w : World) : (Op.equal T (.slice p l k) (.slice none 0 0)).run P w = .ok p.isNone w := by
  show (Op.equalIn (9999 + 1) T (.slice p l k) (.slice none 0 0)).run P w = _
  unfold Op.equalIn
  cases p <;> simp [underlying, h]
theorem v_eqnil {α : Type} [Rep α] {x y : Operand} {l : List α} {T U n : Nat} {agg : Bool} (hT : SlB c.P T n agg = true) (hx : opnd σ.Γ x = some (isv l)) (hy : opnd σ.Γ y = some nilv) : OpV c ⟨d, .binOp .eql T x y U, ty, pos, af, g⟩ σ (nqv l) := fun S a w m => by
  obtain ⟨p, cap, h1, _, _, h3⟩ := isv_list.1 (opnd_sound m hx)
  have h2 : a.eval y = .slice none 0 0 := opnd_sound m hy
  obtain ⟨e, hu, _⟩ := SlB.spec hT
  refine ⟨.bool p.isNone, ⟨_, rfl, fun hp => ?_⟩, fun w' _ => by simp [execOp, binOp, eqGuard, h1, h2, run_eqnil hu]⟩
  rcases h3 with h3 | ⟨ad, cs, h4, _⟩
  · exact h3
  · rw [h4] at hp; cases hp
theorem w_condN {α : Type} {Q : Exit → Act → World → Prop} {x : Operand} {t e : Code} {l : List α} (hx : opnd σ.Γ x = some (nqv l)) (ht : l = [] → Wp c t σ Q) (he : Wp c e σ Q) : Wp c (.cond x t e) σ Q := fun S a w m => by
  obtain ⟨b, hb, hl⟩ := opnd_sound m hx
  exact wp_cond_split hb (fun h => ht (hl h) S a w m) (fun _ => he S a w m)
theorem w_condQ {α β : Type} {Q : Exit → Act → World → Prop} {x : Operand} {t e : Code} {l : List α} {A B : Option β} {r : β} (h : br l.isEmpty A B = some r) (hx : opnd σ.Γ x = some (nqv l)) (hAB : l = [] → A = B) (ht : l = [] → A = some r → Wp c t σ Q) (he : B = some r → Wp c e σ Q) : Wp c (.cond x t e) σ Q := by
  cases l with
  | nil => exact w_condN hx (fun hn => ht hn h) (he ((hAB rfl).symm.trans h))
  | cons y l => exact w_condN hx (fun hn => by cases hn) (he h)
end nilq
/-! ### An owned list, as one that is appended to -/
section vapp
variable {c : Ctx}
def vtok (n : Nat) (t : Vt) (k : Nat) : Tok := t.map fun x => (x.1, k * n, x.2 * n)
theorem Models.vapp {α : Type} [Rep α] {σ : St} {S : Frz} {a : Act} {w : World} {t : Vt} {l : List α} {Hr : List Ent} (m : Models c σ S a w) (hp : Pick (vecE t l) σ.H Hr) :
    ∃ S' : Frz, S.le S' ∧ Models c ⟨σ.Γ, tokE (vtok (Rep.n α) t l.length) :: Hr⟩ S' a w ∧ ∀ v, (vecv t l.length).p S' v → (appv (vtok (Rep.n α) t l.length) l).p S' v := by
  cases t with
  | none =>
    have m1 : Models c ⟨σ.Γ, [tokE Option.none] ++ Hr⟩ S a w := m.step (Hc := [vecE Option.none l]) (H' := [tokE Option.none]) (Takes.cons hp .nil) ⟨Keep.refl _ _, Go.Sy.Grow.refl _ _ _, m.sub⟩ (owns_one trivial fun b hb => by simp [tokE] at hb)
    refine ⟨S, S.le_refl, m1, fun v hv => ?_⟩
    obtain ⟨_, rfl, h0⟩ := hv
    have : l = [] := List.length_eq_zero_iff.1 h0
    subst this
    exact nilv_appv _ _ rfl
  | some t =>
    obtain ⟨b, cap⟩ := t
    have hs : (vecE (Option.some (b, cap)) l).sat S w := m.owns.get hp
    obtain ⟨o, ho, hnone, cs, T', e, hsz, hlc, hr⟩ := hs
    subst e
    have hlen : cs.toList.length = cs.size := by simp
    have hle3 : l.length * Rep.n α ≤ cap * Rep.n α := Nat.mul_le_mul_right _ hlc
    have htl : (cs.toList.take (l.length * Rep.n α)).length = l.length * Rep.n α := by rw [List.length_take]; omega
    have hle : S.le (S.put b (cs.toList.take (l.length * Rep.n α))) := fun j d hj => by
      have hne : j ≠ b := by rintro rfl; rw [hnone] at hj; cases hj
      exact ⟨d, by unfold Frz.put; rw [if_neg hne]; exact hj, List.prefix_refl _⟩
    have hst : Step (keys [vecE (Option.some (b, cap)) l]) S (S.put b (cs.toList.take (l.length * Rep.n α))) w w := by
      refine ⟨Keep.refl _ _, ⟨hle, fun j _ hj => by unfold Frz.put; rw [if_neg (by simpa [keys, vecE] using hj)]⟩, fun j d hj => ?_⟩
      unfold Frz.put at hj
      split at hj
      · cases hj
        rename_i ej; subst ej
        exact ⟨cs, T', (0, 0), ho, List.take_prefix _ _⟩
      · exact m.sub j d hj
    have m1 := m.step (Hc := [vecE (Option.some (b, cap)) l]) (H' := [tokE (Option.some (b, l.length * Rep.n α, cap * Rep.n α))]) (Takes.cons hp .nil) hst
      (owns_one ⟨_, ho, _, cs, T', if_pos rfl, htl, rfl, by omega⟩ fun b' hb' => .inl (by
        have : b = b' := Option.some.inj hb'
        subst this
        simp [keys, vecE]))
    refine ⟨_, hle, m1, fun v hv => ?_⟩
    obtain ⟨hm, e⟩ := hv
    simp only at e
    subst e
    refine ⟨⟨_, _, rfl, hlc, hm, .inr ⟨⟨b, 0, Option.none⟩, cs.toList.take (l.length * Rep.n α), rfl, ⟨rfl, cs.toList.take (l.length * Rep.n α), if_pos rfl, fun j u hj => by simpa using hj⟩, htl, rdL_mono (fun _ _ h => Rep.mono hle h) hr⟩⟩, 0, cap, rfl, by simp, by simp⟩
end vapp
structure Wr (α : Type) where
  v : α
instance {α : Type} [Rep α] : Rep (Wr α) := Rep.iso Wr.v
@[reducible] def Fld.wr (α : Type) [Rep α] : Fld (Wr α) α := Fld.of Wr.v (Fld.id α) (fun x => x.v) (fun _ y => ⟨y⟩) (fun _ => rfl) (fun _ _ => rfl)
theorem Cv.wr {α β : Type} [Rep α] [Rep β] {S : Frz} {y : α} {z : β} (h : Cv S y z) : Cv S (Wr.mk y) (Wr.mk z) := h
theorem zr_wr {α : Type} [Rep α] {c : List Value} {x : α} (h : Zr c x) : Zr c (Wr.mk x) := h
/-! ### Shorter words for walks -/
theorem t_callE {c : Ctx} {ty : TypeId} {pos : String} {af : Array Edge} {g : Option (Nat × Bool)} {Γ : Slots} {H : List Ent} {f : FuncId} {xs : Array Operand} {ats : Array TypeId} {args : List VP} {Hc Hr : List Ent} {R0 : VP} {H0 : List Ent} {dd : Nat} {K : St → Prop} (hs : Ctr c.P f args Hc (fun R H => R = R0 ∧ H = H0)) (hT : Tabs c.P c.S0) (hx : Opnds Γ xs.toList args) (ht : Takes H Hc Hr)
    (k : K ⟨(dd, R0) :: Γ, H0 ++ Hr⟩) (hd : Nat.blt dd c.n = true := by rfl) :
    OpT c ⟨some dd, .call ⟨.value (.func f), xs, ats⟩, ty, pos, af, g⟩ ⟨Γ, H⟩ K :=
  t_call hs hT hx ht (fun R H' hR => by obtain ⟨rfl, rfl⟩ := hR; exact k) hd
theorem jk {Γ Γ' : Slots} {x : Ent} {Hx : List Ent} {R : VP} (n j : Nat) (hd : Γ'.drop n = Γ) (ht : tailB (Γ'.take n) [j] Γ = true) (hl : look Γ' j = some R) : Imp ⟨Γ', x :: Hx⟩ ⟨[(j, R)] ++ Γ, [x] ++ []⟩ :=
  join_imp (mod := [(j, R)]) (Hm := [x]) (Hr := []) n hd ht (mod_cons hl (fun _ _ h => h) mod_nil) (.cons .here .nil)
theorem hI {α β : Type} {p : α → β → Prop} (a : α) (b : β) (h : p a b) : p a b := h
theorem k1 {a : Ent} {H : List Ent} : Takes (a :: H) [a] H := .cons .here .nil
theorem k2 {a b : Ent} {H : List Ent} : Takes (a :: b :: H) [a, b] H := .cons .here k1
theorem k3 {a b c : Ent} {H : List Ent} : Takes (a :: b :: c :: H) [a, b, c] H := .cons .here k2
theorem k4 {a b c d : Ent} {H : List Ent} : Takes (a :: b :: c :: d :: H) [a, b, c, d] H := .cons .here k3
theorem s1 {Γ : Slots} {x : Operand} {R : VP} (h : opnd Γ x = some R) : Opnds Γ [x] [R] := .same h .nil
theorem s2 {Γ : Slots} {x y : Operand} {R Q : VP} (h : opnd Γ x = some R) (k : opnd Γ y = some Q) : Opnds Γ [x, y] [R, Q] := .same h (s1 k)
theorem s3 {Γ : Slots} {x y z : Operand} {R Q T : VP} (h : opnd Γ x = some R) (k : opnd Γ y = some Q) (l : opnd Γ z = some T) : Opnds Γ [x, y, z] [R, Q, T] := .same h (s2 k l)
theorem s4 {Γ : Slots} {x y z u : Operand} {R Q T U : VP} (h : opnd Γ x = some R) (k : opnd Γ y = some Q) (l : opnd Γ z = some T) (m : opnd Γ u = some U) : Opnds Γ [x, y, z, u] [R, Q, T, U] := .same h (s3 k l m)
theorem spec_introD {P : Program} {f : FuncId} {fn : Func} {code : Code} {args : List VP} {H : List Ent} {post : VP → List Ent → Prop}
    (hf : P.funcs[f]? = some fn) (hb : fn.body = some code)
    (h : ∀ w0 S0, Tabs P S0 → Wp ⟨P, fn.ntmps, w0, S0, keys H, []⟩ code ⟨slotsOf 0 args, H⟩ (postQ P fn w0 S0 H post))
    (hn : (fn.name == "runtime.NumGoroutine") = false := by decide +kernel) (hl : Nat.ble args.length fn.ntmps = true := by rfl) : Ctr P f args H post := spec_intro hf hb hn hl h
theorem tH {a b : Ent} {H : List Ent} : Pick b (a :: b :: H) (a :: H) := .there .here
theorem tI {a b c : Ent} {H : List Ent} : Pick c (a :: b :: c :: H) (a :: b :: H) := .there tH
end Go.Sy


namespace Go.Sy
open Go
def wr64 (n : Int) : Int := (n + 9223372036854775808) % 18446744073709551616 - 9223372036854775808
theorem wr64_eq (n : Int) : IntKind.i64.wrap n = wr64 n := by rw [IntKind.wrap_i64]; unfold wr64; omega
theorem wr64_in (n : Int) : inI64 (wr64 n) := by unfold inI64 wr64; omega
theorem wr64_id {n : Int} (h : -9223372036854775808 ≤ n ∧ n ≤ 9223372036854775807) : wr64 n = n := by unfold wr64; omega
section
variable {c : Ctx} {σ : St} {d : Nat} {ty : TypeId} {x y : Operand} {t u : TypeId} {p q : Int}
theorem v_addW {pos af g} (hx : opnd σ.Γ x = some (isv p)) (hy : opnd σ.Γ y = some (isv q)) : OpV c ⟨d, .binOp .add t x y u, ty, pos, af, g⟩ σ (isv (wr64 (p + q))) := fun S a w m => by
  obtain ⟨h1, _⟩ := isv_int.1 (opnd_sound m hx)
  obtain ⟨h2, _⟩ := isv_int.1 (opnd_sound m hy)
  exact ⟨.int .i64 (wr64 (p + q)), isv_int.2 ⟨rfl, wr64_in _⟩, fun w' _ => by simp [execOp, binOp, eqGuard, h1, h2, Op.intArith, wr64_eq]⟩
end
end Go.Sy


namespace Go.Proofs.YtiibmpdjkdjbiaaGreatDoor
open Go.Sy
def slices_Concat_Lapi_Tag_api_Tag (l : List (List Tag)) : Option (List Tag) := bif Nat.ble l.flatten.length 1000000 then some l.flatten else none
def tags_Distinct (l : List (List Tag)) : Option Bool := some (decide l.flatten.Nodup)
end Go.Proofs.YtiibmpdjkdjbiaaGreatDoor


namespace Go.Proofs.YtiibmpdjkdjbiaaGreatDoor
open Go.Sy
def utf8_ValidString (s : Str) : Option Bool := some (Lib.validD s.b)
end Go.Proofs.YtiibmpdjkdjbiaaGreatDoor


namespace Go.Proofs.YtiibmpdjkdjbiaaGreatDoor
open Go.Sy
set_option maxRecDepth 4000
def r04_at (a_s : Str) (a_i : Int) : Option (UInt8) :=
  jp (ι := Bool) (fun J2 => br (decide (a_i < (0 : Int))) (J2 (true)) (J2 ((decide ((a_s.b.length : Int) ≤ a_i))))) (fun q1 => br q1 (some ((0 : UInt8))) (cal (getI a_s.b a_i) fun y4 => some (y4)))

def r04_white (a_s : Str) (a_i : Int) : Option (Int) :=
  lp (ι := Int) (fun L2 q1 => br (decide (q1 < (a_s.b.length : Int))) (cal (getI a_s.b q1) fun y51 => jp (ι := Bool) (fun J53 => br (decide (y51 = (32 : UInt8))) (J53 (true)) (cal (getI a_s.b q1) fun y55 => J53 ((decide (y55 = (9 : UInt8)))))) (fun q52 => jp (ι := Bool) (fun J57 => br q52 (J57 (true)) (cal (getI a_s.b q1) fun y59 => J57 ((decide (y59 = (10 : UInt8)))))) (fun q56 => jp (ι := Bool) (fun J61 => br q56 (J61 (true)) (cal (getI a_s.b q1) fun y63 => J61 ((decide (y63 = (13 : UInt8)))))) (fun q60 => br q60 (ck ((q1 + (1 : Int))) <| L2 ((q1 + (1 : Int)))) (cal (getI a_s.b q1) fun y65 => jp (ι := Bool) (fun J67 => br (decide (y65 = (45 : UInt8))) (ck ((q1 + (1 : Int))) <| cal (r04_at a_s (q1 + (1 : Int))) fun y70 => J67 ((decide (y70 = (45 : UInt8))))) (J67 (false))) (fun q66 => br q66 (ck ((q1 + (2 : Int))) <| lp (ι := Int) (fun L73 q72 => jp (ι := Bool) (fun J87 => br (decide (q72 < (a_s.b.length : Int))) (cal (getI a_s.b q72) fun y89 => J87 ((!decide (y89 = (10 : UInt8))))) (J87 (false))) (fun q86 => br q86 (cal (getI a_s.b q72) fun y90 => jp (ι := Bool) (fun J92 => br (decide (y90 = (45 : UInt8))) (ck ((q72 + (1 : Int))) <| cal (r04_at a_s (q72 + (1 : Int))) fun y95 => J92 ((decide (y95 = (45 : UInt8))))) (J92 (false))) (fun q91 => br q91 (ck ((q72 + (2 : Int))) <| L2 ((q72 + (2 : Int)))) (ck ((q72 + (1 : Int))) <| L73 ((q72 + (1 : Int)))))) (L2 (q72)))) (((q1 + (2 : Int))))) (some (q1)))))))) (some (q1))) ((a_i))

def r04_letter (a_c : UInt8) : Option (Bool) :=
  jp (ι := Bool) (fun J2 => br (decide ((97 : UInt8) ≤ a_c)) (J2 ((decide (a_c ≤ (122 : UInt8))))) (J2 (false))) (fun q1 => jp (ι := Bool) (fun J5 => br q1 (J5 (true)) (jp (ι := Bool) (fun J8 => br (decide ((65 : UInt8) ≤ a_c)) (J8 ((decide (a_c ≤ (90 : UInt8))))) (J8 (false))) (fun q7 => J5 (q7)))) (fun q4 => some (q4)))

def r04_digit (a_c : UInt8) : Option (Bool) :=
  jp (ι := Bool) (fun J2 => br (decide ((48 : UInt8) ≤ a_c)) (J2 ((decide (a_c ≤ (57 : UInt8))))) (J2 (false))) (fun q1 => some (q1))

def r04_name (a_s : Str) (a_i : Int) : Option (Int) :=
  lp (ι := Int) (fun L2 q1 => jp (ι := Bool) (fun J30 => br (decide (q1 < (a_s.b.length : Int))) (cal (getI a_s.b q1) fun y32 => cal (r04_letter y32) fun y33 => jp (ι := Bool) (fun J35 => br y33 (J35 (true)) (cal (getI a_s.b q1) fun y37 => cal (r04_digit y37) fun y38 => J35 (y38))) (fun q34 => jp (ι := Bool) (fun J40 => br q34 (J40 (true)) (cal (getI a_s.b q1) fun y42 => jp (ι := Bool) (fun J44 => br (decide (y42 = (45 : UInt8))) (ck ((q1 + (1 : Int))) <| cal (r04_at a_s (q1 + (1 : Int))) fun y47 => J44 ((!decide (y47 = (45 : UInt8))))) (J44 (false))) (fun q43 => J40 (q43)))) (fun q39 => J30 (q39)))) (J30 (false))) (fun q29 => br q29 (ck ((q1 + (1 : Int))) <| L2 ((q1 + (1 : Int)))) (ck ((q1 - (1 : Int))) <| cal (getI a_s.b (q1 - (1 : Int))) fun y50 => jp (ι := Bool) (fun J52 => br (decide (y50 = (45 : UInt8))) (J52 (true)) (ck ((q1 - a_i)) <| J52 ((decide ((60 : Int) < (q1 - a_i)))))) (fun q51 => br q51 (some ((-1 : Int))) (some (q1)))))) ((a_i))

def r04_words  : Option ((List Str)) :=
  some (([(Str.mk [68, 69, 70, 73, 78, 73, 84, 73, 79, 78, 83]), (Str.mk [69, 88, 80, 76, 73, 67, 73, 84]), (Str.mk [73, 77, 80, 76, 73, 67, 73, 84]), (Str.mk [65, 85, 84, 79, 77, 65, 84, 73, 67]), (Str.mk [84, 65, 71, 83]), (Str.mk [66, 69, 71, 73, 78]), (Str.mk [69, 78, 68]), (Str.mk [66, 79, 79, 76, 69, 65, 78]), (Str.mk [73, 78, 84, 69, 71, 69, 82]), (Str.mk [69, 78, 85, 77, 69, 82, 65, 84, 69, 68]), (Str.mk [78, 85, 76, 76]), (Str.mk [79, 67, 84, 69, 84]), (Str.mk [83, 84, 82, 73, 78, 71]), (Str.mk [85, 84, 70, 56, 83, 116, 114, 105, 110, 103]), (Str.mk [83, 69, 81, 85, 69, 78, 67, 69]), (Str.mk [83, 69, 84]), (Str.mk [67, 72, 79, 73, 67, 69]), (Str.mk [79, 70]), (Str.mk [79, 80, 84, 73, 79, 78, 65, 76]), (Str.mk [68, 69, 70, 65, 85, 76, 84]), (Str.mk [83, 73, 90, 69]), (Str.mk [77, 73, 78]), (Str.mk [77, 65, 88]), (Str.mk [84, 82, 85, 69]), (Str.mk [70, 65, 76, 83, 69])] : (List Str)))

def h_In_string (a_l : (List Str)) (a_x : Str) : Option (Bool) :=
  lp (ι := Int) (fun L2 q1 => br (decide (q1 < (a_l.length : Int))) (cal (getI a_l q1) fun y5 => br (decide (y5 = a_x)) (some (true)) (ck ((q1 + (1 : Int))) <| L2 ((q1 + (1 : Int))))) (some (false))) (((0 : Int)))

def r04_Word (a_s : Str) : Option (Bool) :=
  cal (r04_words ) fun y1 => cal (h_In_string y1 a_s) fun y2 => some (y2)

def r04_number (a_s : Str) (a_i : Int) : Option (Int) :=
  cal (getI a_s.b a_i) fun y1 => jp (ι := Int) (fun J3 => br (decide (y1 = (45 : UInt8))) (ck ((a_i + (1 : Int))) <| J3 ((a_i + (1 : Int)))) (J3 (a_i))) (fun q2 => lp (ι := Int × UInt64) (fun L6 q5 => jp (ι := Bool) (fun J50 => br (decide (q5.1 < (a_s.b.length : Int))) (cal (getI a_s.b q5.1) fun y52 => cal (r04_digit y52) fun y53 => J50 (y53)) (J50 (false))) (fun q49 => br q49 (ck ((q5.1 - q2)) <| jp (ι := UInt64) (fun J56 => br (decide ((q5.1 - q2) < (19 : Int))) (cal (getI a_s.b q5.1) fun y57 => J56 ((((10 : UInt64) * q5.2) + (y57 - (48 : UInt8)).toUInt64))) (J56 (q5.2))) (fun q55 => ck ((q5.1 + (1 : Int))) <| L6 ((q5.1 + (1 : Int)), q55))) (ck ((q5.1 - q2)) <| jp (ι := Bool) (fun J61 => br (decide ((q5.1 - q2) < (1 : Int))) (J61 (true)) (J61 ((decide ((19 : Int) < (q5.1 - q2)))))) (fun q60 => jp (ι := Bool) (fun J64 => br q60 (J64 (true)) (jp (ι := Bool) (fun J67 => br (decide ((1 : Int) < (q5.1 - q2))) (cal (getI a_s.b q2) fun y69 => J67 ((decide (y69 = (48 : UInt8))))) (J67 (false))) (fun q66 => J64 (q66)))) (fun q63 => jp (ι := Bool) (fun J71 => br q63 (J71 (true)) (jp (ι := Bool) (fun J74 => br (decide (y1 = (45 : UInt8))) (cal (getI a_s.b q2) fun y76 => J74 ((decide (y76 = (48 : UInt8))))) (J74 (false))) (fun q73 => J71 (q73)))) (fun q70 => jp (ι := Bool) (fun J78 => br q70 (J78 (true)) (cal (r04_at a_s q5.1) fun y80 => cal (r04_letter y80) fun y81 => J78 (y81))) (fun q77 => jp (ι := Bool) (fun J83 => br q77 (J83 (true)) (J83 ((decide ((9223372036854775808 : UInt64) < q5.2))))) (fun q82 => jp (ι := Bool) (fun J86 => br q82 (J86 (true)) (jp (ι := Bool) (fun J89 => br (!(decide (y1 = (45 : UInt8)))) (J89 ((decide (q5.2 = (9223372036854775808 : UInt64))))) (J89 (false))) (fun q88 => J86 (q88)))) (fun q85 => br q85 (some ((-1 : Int))) (some (q5.1))))))))))) ((q2, (0 : UInt64))))

def r04_hex (a_s : Str) (a_i : Int) : Option (Int × Str) :=
  ck ((a_i + (1 : Int))) <| lp (ι := Int) (fun L3 q2 => jp (ι := Bool) (fun J32 => br (decide (q2 < (a_s.b.length : Int))) (cal (getI a_s.b q2) fun y34 => cal (r04_digit y34) fun y35 => jp (ι := Bool) (fun J37 => br y35 (J37 (true)) (cal (getI a_s.b q2) fun y39 => jp (ι := Bool) (fun J41 => br (decide ((65 : UInt8) ≤ y39)) (cal (getI a_s.b q2) fun y43 => J41 ((decide (y43 ≤ (70 : UInt8))))) (J41 (false))) (fun q40 => J37 (q40)))) (fun q36 => J32 (q36))) (J32 (false))) (fun q31 => br q31 (ck ((q2 + (1 : Int))) <| L3 ((q2 + (1 : Int)))) (ck ((q2 - (a_i + (1 : Int)))) <| asr (!decide ((2 : Int) = 0)) <| jp (ι := Bool) (fun J48 => br (!decide (((q2 - (a_i + (1 : Int))).tmod (2 : Int)) = (0 : Int))) (J48 (true)) (cal (r04_at a_s q2) fun y50 => J48 ((!decide (y50 = (39 : UInt8)))))) (fun q47 => jp (ι := Bool) (fun J52 => br q47 (J52 (true)) (ck ((q2 + (1 : Int))) <| cal (r04_at a_s (q2 + (1 : Int))) fun y55 => J52 ((!decide (y55 = (72 : UInt8)))))) (fun q51 => br q51 (some ((-1 : Int), (Str.mk []))) (ck ((q2 + (2 : Int))) <| asr (decide (0 ≤ (a_i + (1 : Int)) ∧ (a_i + (1 : Int)) ≤ q2 ∧ q2 ≤ (a_s.b.length : Int))) <| some ((q2 + (2 : Int)), (Str.mk ((a_s.b.take (q2).toNat).drop ((a_i + (1 : Int))).toNat))))))))) (((a_i + (1 : Int))))

def r04_quoted (a_s : Str) (a_i : Int) : Option (Int × Str) :=
  ck ((a_i + (1 : Int))) <| lp (ι := Int × Str) (fun L3 q2 => br (decide (q2.1 < (a_s.b.length : Int))) (jp (ι := Int × Str) (fun J18 => cal (getI a_s.b q2.1) fun y19 => br (!decide (y19 = (34 : UInt8))) (ck ((q2.1 + (1 : Int))) <| asr (decide (0 ≤ q2.1 ∧ q2.1 ≤ (q2.1 + (1 : Int)) ∧ (q2.1 + (1 : Int)) ≤ (a_s.b.length : Int))) <| asr (Nat.ble (q2.2.b.length + (Str.mk ((a_s.b.take ((q2.1 + (1 : Int))).toNat).drop (q2.1).toNat)).b.length) 4611686018427387904) <| J18 (q2.1, (Str.mk (q2.2.b ++ (Str.mk ((a_s.b.take ((q2.1 + (1 : Int))).toNat).drop (q2.1).toNat)).b)))) (ck ((q2.1 + (1 : Int))) <| cal (r04_at a_s (q2.1 + (1 : Int))) fun y24 => br (!decide (y24 = (34 : UInt8))) (cal (utf8_ValidString q2.2) fun y25 => br (!y25) (some ((-1 : Int), (Str.mk []))) (ck ((q2.1 + (1 : Int))) <| some ((q2.1 + (1 : Int)), q2.2))) (asr (Nat.ble (q2.2.b.length + (Str.mk [34]).b.length) 4611686018427387904) <| ck ((q2.1 + (1 : Int))) <| J18 ((q2.1 + (1 : Int)), (Str.mk (q2.2.b ++ (Str.mk [34]).b)))))) (fun q17 => ck ((q17.1 + (1 : Int))) <| L3 ((q17.1 + (1 : Int)), q17.2))) (some ((-1 : Int), (Str.mk [])))) (((a_i + (1 : Int)), (Str.mk [])))

def r04_sign (a_s : Str) (a_i : Int) : Option (Int) :=
  asr (decide (0 ≤ a_i ∧ a_i ≤ (a_s.b.length : Int) ∧ (a_s.b.length : Int) ≤ (a_s.b.length : Int))) <| lp (ι := Int) (fun L4 q3 => br (decide (q3 < (([(Str.mk [58, 58, 61]), (Str.mk [46, 46, 46]), (Str.mk [46, 46]), (Str.mk [91, 91]), (Str.mk [93, 93]), (Str.mk [123]), (Str.mk [125]), (Str.mk [91]), (Str.mk [93]), (Str.mk [40]), (Str.mk [41]), (Str.mk [44]), (Str.mk [58])] : (List Str)).length : Int))) (cal (getI ([(Str.mk [58, 58, 61]), (Str.mk [46, 46, 46]), (Str.mk [46, 46]), (Str.mk [91, 91]), (Str.mk [93, 93]), (Str.mk [123]), (Str.mk [125]), (Str.mk [91]), (Str.mk [93]), (Str.mk [40]), (Str.mk [41]), (Str.mk [44]), (Str.mk [58])] : (List Str)) q3) fun y12 => jp (ι := Bool) (fun J14 => br (decide ((y12.b.length : Int) ≤ ((Str.mk ((a_s.b.take ((a_s.b.length : Int)).toNat).drop (a_i).toNat)).b.length : Int))) (asr (decide (0 ≤ (0 : Int) ∧ (0 : Int) ≤ (y12.b.length : Int) ∧ (y12.b.length : Int) ≤ ((Str.mk ((a_s.b.take ((a_s.b.length : Int)).toNat).drop (a_i).toNat)).b.length : Int))) <| cal (getI ([(Str.mk [58, 58, 61]), (Str.mk [46, 46, 46]), (Str.mk [46, 46]), (Str.mk [91, 91]), (Str.mk [93, 93]), (Str.mk [123]), (Str.mk [125]), (Str.mk [91]), (Str.mk [93]), (Str.mk [40]), (Str.mk [41]), (Str.mk [44]), (Str.mk [58])] : (List Str)) q3) fun y17 => J14 ((decide ((Str.mk (((Str.mk ((a_s.b.take ((a_s.b.length : Int)).toNat).drop (a_i).toNat)).b.take ((y12.b.length : Int)).toNat).drop (0 : Int).toNat)) = y17)))) (J14 (false))) (fun q13 => br q13 (some ((y12.b.length : Int))) (ck ((q3 + (1 : Int))) <| L4 ((q3 + (1 : Int)))))) (some ((0 : Int)))) (((0 : Int)))

def r04_one (a_s : Str) (a_i : Int) : Option (GTok × Int) :=
  cal (getI a_s.b a_i) fun y3 => jp (ι := Int × GTok) (fun J5 => cal (r04_letter y3) fun y6 => br y6 (cal (r04_name a_s a_i) fun y7 => br (decide (y7 < (0 : Int))) (some ((GTok.mk (0 : Int) (Str.mk []) a_i), (-1 : Int))) (asr (decide (0 ≤ a_i ∧ a_i ≤ y7 ∧ y7 ≤ (a_s.b.length : Int))) <| jp (ι := GTok) (fun J10 => br (decide (y3 ≤ (90 : UInt8))) (J10 ((GTok.mk (1 : Int) (Str.mk ((a_s.b.take (y7).toNat).drop (a_i).toNat)) a_i))) (J10 ((GTok.mk (2 : Int) (Str.mk ((a_s.b.take (y7).toNat).drop (a_i).toNat)) a_i)))) (fun q9 => cal (r04_Word q9.text) fun y11 => br y11 (J5 (y7, { q9 with kind := (5 : Int) })) (J5 (y7, q9))))) (cal (r04_digit y3) fun y12 => jp (ι := Bool) (fun J14 => br y12 (J14 (true)) (jp (ι := Bool) (fun J17 => br (decide (y3 = (45 : UInt8))) (ck ((a_i + (1 : Int))) <| cal (r04_at a_s (a_i + (1 : Int))) fun y20 => cal (r04_digit y20) fun y21 => J17 (y21)) (J17 (false))) (fun q16 => J14 (q16)))) (fun q13 => br q13 (cal (r04_number a_s a_i) fun y22 => br (decide (y22 < (0 : Int))) (some ((GTok.mk (0 : Int) (Str.mk []) a_i), (-1 : Int))) (asr (decide (0 ≤ a_i ∧ a_i ≤ y22 ∧ y22 ≤ (a_s.b.length : Int))) <| J5 (y22, (GTok.mk (3 : Int) (Str.mk ((a_s.b.take (y22).toNat).drop (a_i).toNat)) a_i)))) (br (decide (y3 = (39 : UInt8))) (cal (r04_hex a_s a_i) fun y24 => J5 (y24.1, (GTok.mk (4 : Int) y24.2 a_i))) (br (decide (y3 = (34 : UInt8))) (cal (r04_quoted a_s a_i) fun y25 => J5 (y25.1, (GTok.mk (7 : Int) y25.2 a_i))) (cal (r04_sign a_s a_i) fun y26 => br (decide ((0 : Int) < y26)) (ck ((a_i + y26)) <| asr (decide (0 ≤ a_i ∧ a_i ≤ (a_i + y26) ∧ (a_i + y26) ≤ (a_s.b.length : Int))) <| ck ((a_i + y26)) <| J5 ((a_i + y26), (GTok.mk (6 : Int) (Str.mk ((a_s.b.take ((a_i + y26)).toNat).drop (a_i).toNat)) a_i))) (J5 ((-1 : Int), (GTok.mk (0 : Int) (Str.mk []) a_i))))))))) (fun q4 => some (q4.2, q4.1))

def r04_Tokens (a_text : Str) : Option ((List GTok) × Int × Int) :=
  br (decide ((8000 : Int) < (a_text.b.length : Int))) (some (([] : (List GTok)), (0 : Int), (5 : Int))) (lp (ι := (List GTok) × Int) (fun L2 q1 => cal (r04_white a_text q1.2) fun y12 => br (decide ((a_text.b.length : Int) ≤ y12)) (asr (Nat.ble (q1.1.length + ([(GTok.mk (0 : Int) (Str.mk []) (a_text.b.length : Int))] : (List GTok)).length) 68719476736) <| some ((q1.1 ++ ([(GTok.mk (0 : Int) (Str.mk []) (a_text.b.length : Int))] : (List GTok))), (0 : Int), (0 : Int))) (cal (r04_one a_text y12) fun y16 => br (decide (y16.2 < (0 : Int))) (some (([] : (List GTok)), y12, (6 : Int))) (asr (Nat.ble (q1.1.length + ([y16.1] : (List GTok)).length) 68719476736) <| L2 ((q1.1 ++ ([y16.1] : (List GTok))), y16.2)))) ((([] : (List GTok)), (0 : Int))))

def r05_parser_now (a_x : GPar) : Option (GTok × GPar) :=
  cal (getI a_x.l a_x.at_) fun y7 => some (y7, a_x)

def r05_parser_fail (a_x : GPar) (a_e : Int) (a_t : GTok) : Option (GPar) :=
  br (decide (a_x.e = (0 : Int))) (some ((GPar.mk a_x.l a_x.at_ a_x.m a_e a_t.at_))) (some (a_x))

def r05_parser_next (a_x : GPar) : Option (GTok × GPar) :=
  cal (getI a_x.l a_x.at_) fun y7 => ck ((a_x.at_ + (1 : Int))) <| jp (ι := GPar) (fun J13 => br (decide ((a_x.at_ + (1 : Int)) < (a_x.l.length : Int))) (ck ((a_x.at_ + (1 : Int))) <| J13 ((GPar.mk a_x.l (a_x.at_ + (1 : Int)) a_x.m a_x.e a_x.p))) (J13 (a_x))) (fun q12 => some (y7, q12))

def r05_parser_kind (a_x : GPar) (a_k : Int) : Option (Str × GPar) :=
  cal (r05_parser_now a_x) fun y4 => jp (ι := Bool) (fun J9 => br (!decide (y4.2.e = (0 : Int))) (J9 (true)) (J9 ((!decide (y4.1.kind = a_k))))) (fun q8 => br q8 (cal (r05_parser_fail y4.2 (7 : Int) y4.1) fun y11 => some ((Str.mk []), y11)) (cal (r05_parser_next y4.2) fun y14 => some (y14.1.text, y14.2)))

def r05_parser_is (a_x : GPar) (a_s : Str) : Option (Bool × GPar) :=
  cal (r05_parser_now a_x) fun y4 => jp (ι := Bool) (fun J9 => br (decide (y4.2.e = (0 : Int))) (jp (ι := Bool) (fun J12 => br (decide (y4.1.kind = (5 : Int))) (J12 (true)) (J12 ((decide (y4.1.kind = (6 : Int)))))) (fun q11 => J9 (q11))) (J9 (false))) (fun q8 => jp (ι := Bool) (fun J15 => br q8 (J15 ((decide (y4.1.text = a_s)))) (J15 (false))) (fun q14 => br q14 (cal (r05_parser_next y4.2) fun y17 => some (true, y17.2)) (some (false, y4.2))))

def r05_parser_must (a_x : GPar) (a_s : Str) : Option (GPar) :=
  jp (ι := Bool × GPar) (fun J5 => br (decide (a_x.e = (0 : Int))) (cal (r05_parser_is a_x a_s) fun y7 => J5 ((!y7.1), y7.2)) (J5 (false, a_x))) (fun q4 => br q4.1 (cal (r05_parser_now q4.2) fun y10 => cal (r05_parser_fail y10.2 (7 : Int) y10.1) fun y13 => some (y13)) (some (q4.2)))

def r05_begins (a_t : GTok) : Option (Bool) :=
  lp (ι := Int) (fun L3 q2 => br (decide (q2 < (([(Str.mk [91]), (Str.mk [66, 79, 79, 76, 69, 65, 78]), (Str.mk [78, 85, 76, 76]), (Str.mk [85, 84, 70, 56, 83, 116, 114, 105, 110, 103]), (Str.mk [73, 78, 84, 69, 71, 69, 82]), (Str.mk [79, 67, 84, 69, 84]), (Str.mk [69, 78, 85, 77, 69, 82, 65, 84, 69, 68]), (Str.mk [83, 69, 84]), (Str.mk [67, 72, 79, 73, 67, 69]), (Str.mk [83, 69, 81, 85, 69, 78, 67, 69])] : (List Str)).length : Int))) (cal (getI ([(Str.mk [91]), (Str.mk [66, 79, 79, 76, 69, 65, 78]), (Str.mk [78, 85, 76, 76]), (Str.mk [85, 84, 70, 56, 83, 116, 114, 105, 110, 103]), (Str.mk [73, 78, 84, 69, 71, 69, 82]), (Str.mk [79, 67, 84, 69, 84]), (Str.mk [69, 78, 85, 77, 69, 82, 65, 84, 69, 68]), (Str.mk [83, 69, 84]), (Str.mk [67, 72, 79, 73, 67, 69]), (Str.mk [83, 69, 81, 85, 69, 78, 67, 69])] : (List Str)) q2) fun y12 => jp (ι := Bool) (fun J14 => br (decide (y12 = a_t.text)) (jp (ι := Bool) (fun J17 => br (decide (a_t.kind = (5 : Int))) (J17 (true)) (J17 ((decide (a_t.kind = (6 : Int)))))) (fun q16 => J14 (q16))) (J14 (false))) (fun q13 => br q13 (some (true)) (ck ((q2 + (1 : Int))) <| L3 ((q2 + (1 : Int)))))) (some ((decide (a_t.kind = (1 : Int)))))) (((0 : Int)))

def r05_Whole (a_s : Str) : Option (Int) :=
  cal (getI a_s.b (0 : Int)) fun y1 => jp (ι := Str) (fun J3 => br (decide (y1 = (45 : UInt8))) (asr (decide (0 ≤ (1 : Int) ∧ (1 : Int) ≤ (a_s.b.length : Int) ∧ (a_s.b.length : Int) ≤ (a_s.b.length : Int))) <| J3 ((Str.mk ((a_s.b.take ((a_s.b.length : Int)).toNat).drop ((1 : Int)).toNat)))) (J3 (a_s))) (fun q2 => lp (ι := UInt64 × Int) (fun L6 q5 => br (decide (q5.2 < (q2.b.length : Int))) (cal (getI q2.b q5.2) fun y13 => ck ((q5.2 + (1 : Int))) <| L6 ((((10 : UInt64) * q5.1) + (y13 - (48 : UInt8)).toUInt64), (q5.2 + (1 : Int)))) (br (decide (y1 = (45 : UInt8))) (ck (((q5.1 - (1 : UInt64)).toNat : Int)) <| ck ((-((q5.1 - (1 : UInt64)).toNat : Int))) <| ck (((-((q5.1 - (1 : UInt64)).toNat : Int)) - (1 : Int))) <| some (((-((q5.1 - (1 : UInt64)).toNat : Int)) - (1 : Int)))) (ck ((q5.1.toNat : Int)) <| some ((q5.1.toNat : Int))))) (((0 : UInt64), (0 : Int))))

def r05_parser_number (a_x : GPar) : Option (Int × GPar) :=
  cal (r05_parser_kind a_x (3 : Int)) fun y4 => br (decide (y4.1 = (Str.mk []))) (some ((0 : Int), y4.2)) (cal (r05_Whole y4.1) fun y7 => some (y7, y4.2))

def r05_parser_bounds (a_x : GPar) : Option (GCon × GPar) :=
  cal (r05_parser_is a_x (Str.mk [77, 73, 78])) fun y6 => jp (ι := GPar × GCon) (fun J10 => br (!y6.1) (cal (r05_parser_number y6.2) fun y11 => J10 (y11.2, (GCon.mk true true false false y11.1 (0 : Int)))) (J10 (y6.2, (GCon.mk true false false false (0 : Int) (0 : Int))))) (fun q9 => jp (ι := GPar × GCon) (fun J15 => cal (r05_parser_is q9.1 (Str.mk [46, 46])) fun y16 => br y16.1 (cal (r05_parser_is y16.2 (Str.mk [77, 65, 88])) fun y19 => br (!y19.1) (cal (r05_parser_number y19.2) fun y22 => J15 (y22.2, { { q9.2 with hasHigh := true } with high := y22.1 })) (J15 (y19.2, q9.2))) (br q9.2.hasLow (J15 (y16.2, { { q9.2 with hasHigh := true } with high := q9.2.low })) (J15 (y16.2, q9.2)))) (fun q14 => cal (r05_parser_is q14.1 (Str.mk [44])) fun y25 => jp (ι := GPar × GCon) (fun J29 => br y25.1 (cal (r05_parser_must y25.2 (Str.mk [46, 46, 46])) fun y30 => J29 (y30, { q14.2 with more := true })) (J29 (y25.2, q14.2))) (fun q28 => some (q28.2, q28.1))))

def r05_parser_size (a_x : GPar) : Option (GCon × GPar) :=
  cal (r05_parser_is a_x (Str.mk [40])) fun y5 => br (!y5.1) (some ((GCon.mk false false false false (0 : Int) (0 : Int)), y5.2)) (cal (r05_parser_must y5.2 (Str.mk [83, 73, 90, 69])) fun y8 => cal (r05_parser_must y8 (Str.mk [40])) fun y11 => cal (r05_parser_bounds y11) fun y14 => cal (r05_parser_must y14.2 (Str.mk [41])) fun y18 => cal (r05_parser_must y18 (Str.mk [41])) fun y21 => some (y14.1, y21))

def r05_parser_items (a_x : GPar) (a_n_ : GNode) : Option (GPar × GNode) :=
  jp (ι := GPar × GNode) (fun J7 => lp (ι := GPar × GNode) (fun L9 q8 => br (decide (q8.1.e = (0 : Int))) (jp (ι := Bool) (fun J47 => br (decide ((0 : Int) < (q8.2.items.length : Int))) (J47 ((!q8.2.more))) (J47 (false))) (fun q46 => jp (ι := Bool × GPar) (fun J50 => br q46 (cal (r05_parser_is q8.1 (Str.mk [46, 46, 46])) fun y52 => J50 (y52.1, y52.2)) (J50 (false, q8.1))) (fun q49 => jp (ι := GPar × GNode) (fun J56 => br q49.1 (J56 (q49.2, (GNode.mk q8.2.kind q8.2.name q8.2.mark q8.2.con q8.2.items q8.2.fields (q8.2.items.length : Int) true q8.2.of))) (cal (r05_parser_kind q49.2 (2 : Int)) fun y57 => cal (r05_parser_is y57.2 (Str.mk [40])) fun y61 => jp (ι := GPar × GItem) (fun J65 => br y61.1 (cal (r05_parser_number y61.2) fun y66 => cal (r05_parser_must y66.2 (Str.mk [41])) fun y69 => J65 (y69, (GItem.mk y57.1 y66.1 true))) (J65 (y61.2, (GItem.mk y57.1 (0 : Int) false)))) (fun q64 => asr (Nat.ble (q8.2.items.length + ([q64.2] : (List GItem)).length) 68719476736) <| J56 (q64.1, (GNode.mk q8.2.kind q8.2.name q8.2.mark q8.2.con (q8.2.items ++ ([q64.2] : (List GItem))) q8.2.fields q8.2.root q8.2.more q8.2.of))))) (fun q55 => cal (r05_parser_is q55.1 (Str.mk [44])) fun y79 => br (!y79.1) (J7 (y79.2, q55.2)) (L9 (y79.2, q55.2)))))) (J7 (q8.1, q8.2))) ((a_x, a_n_))) (fun q6 => br (!q6.2.more) (some (q6.1, (GNode.mk q6.2.kind q6.2.name q6.2.mark q6.2.con q6.2.items q6.2.fields (q6.2.items.length : Int) q6.2.more q6.2.of))) (some (q6.1, q6.2)))

def r05_Hex (a_s : Str) : Option ((List UInt8)) :=
  lp (ι := (List UInt8) × Int) (fun L2 q1 => ck ((q1.2 + (1 : Int))) <| br (decide ((q1.2 + (1 : Int)) < (a_s.b.length : Int))) (lp (ι := UInt8 × Int) (fun L33 q32 => ck ((q1.2 + (2 : Int))) <| br (decide (q32.2 < (q1.2 + (2 : Int)))) (cal (getI a_s.b q32.2) fun y47 => cal (getI a_s.b q32.2) fun y48 => jp (ι := UInt8) (fun J50 => br (decide ((65 : UInt8) ≤ y48)) (cal (getI a_s.b q32.2) fun y51 => J50 (((y51 - (65 : UInt8)) + (10 : UInt8)))) (J50 ((y47 - (48 : UInt8))))) (fun q49 => asr (Nat.ble (4 : UInt64).toNat 8) <| ck ((q32.2 + (1 : Int))) <| L33 (((shl8 q32.1 (4 : UInt64).toNat) ||| q49), (q32.2 + (1 : Int))))) (asr (Nat.ble (q1.1.length + ([q32.1] : (List UInt8)).length) 68719476736) <| ck ((q1.2 + (2 : Int))) <| L2 ((q1.1 ++ ([q32.1] : (List UInt8))), (q1.2 + (2 : Int))))) (((0 : UInt8), q1.2))) (some (q1.1))) ((([] : (List UInt8)), (0 : Int)))

def r05_parser_value (a_x : GPar) : Option (Val × GPar) :=
  cal (r05_parser_now a_x) fun y5 => jp (ι := GPar) (fun J10 => br (!decide (y5.2.e = (0 : Int))) (J10 (y5.2)) (cal (r05_parser_is y5.2 (Str.mk [84, 82, 85, 69])) fun y11 => br y11.1 (some ((Val.mk (1 : Int) (1 : Int) ([] : (List UInt8)) ([] : (List Val)) (0 : Int) ([] : (List Raw))), y11.2)) (cal (r05_parser_is y11.2 (Str.mk [70, 65, 76, 83, 69])) fun y14 => br y14.1 (some ((Val.mk (1 : Int) (0 : Int) ([] : (List UInt8)) ([] : (List Val)) (0 : Int) ([] : (List Raw))), y14.2)) (cal (r05_parser_is y14.2 (Str.mk [78, 85, 76, 76])) fun y17 => br y17.1 (some ((Val.mk (4 : Int) (0 : Int) ([] : (List UInt8)) ([] : (List Val)) (0 : Int) ([] : (List Raw))), y17.2)) (br (decide (y5.1.kind = (3 : Int))) (cal (r05_parser_next y17.2) fun y20 => cal (r05_Whole y20.1.text) fun y23 => some ((Val.mk (2 : Int) y23 ([] : (List UInt8)) ([] : (List Val)) (0 : Int) ([] : (List Raw))), y20.2)) (br (decide (y5.1.kind = (2 : Int))) (cal (r05_parser_next y17.2) fun y24 => asr (Nat.ble y24.1.text.b.length 68719476736) <| some ((Val.mk (3 : Int) (0 : Int) y24.1.text.b ([] : (List Val)) (0 : Int) ([] : (List Raw))), y24.2)) (br (decide (y5.1.kind = (4 : Int))) (cal (r05_parser_next y17.2) fun y28 => cal (r05_Hex y28.1.text) fun y31 => some ((Val.mk (5 : Int) (0 : Int) y31 ([] : (List Val)) (0 : Int) ([] : (List Raw))), y28.2)) (br (decide (y5.1.kind = (7 : Int))) (cal (r05_parser_next y17.2) fun y32 => asr (Nat.ble y32.1.text.b.length 68719476736) <| some ((Val.mk (6 : Int) (0 : Int) y32.1.text.b ([] : (List Val)) (0 : Int) ([] : (List Raw))), y32.2)) (cal (r05_parser_fail y17.2 (7 : Int) y5.1) fun y36 => J10 (y36)))))))))) (fun q9 => some ((Val.mk (0 : Int) (0 : Int) ([] : (List UInt8)) ([] : (List Val)) (0 : Int) ([] : (List Raw))), q9))

def r05_parser_field_F (r05_parser_field' : GPar → GNode → Int → Int → Option (GPar × GNode)) (r05_parser_typ' : GPar → Int → Option (Int × GPar)) (r05_parser_base' : GPar → GNode → Int → Option (GPar × GNode)) (r05_parser_fields' : GPar → GNode → Int → Option (GPar × GNode)) (a_x : GPar) (a_n_ : GNode) (a_depth : Int) (a_group : Int) : Option (GPar × GNode) :=
  cal (r05_parser_kind a_x (2 : Int)) fun y6 => ck ((a_depth + (1 : Int))) <| cal (r05_parser_typ' y6.2 (a_depth + (1 : Int))) fun y11 => jp (ι := GFld × GPar) (fun J16 => br (decide (a_n_.kind = (9 : Int))) (J16 ((GFld.mk y6.1 y11.1 false false (Val.mk (0 : Int) (0 : Int) ([] : (List UInt8)) ([] : (List Val)) (0 : Int) ([] : (List Raw))) a_group), y11.2)) (cal (r05_parser_is y11.2 (Str.mk [79, 80, 84, 73, 79, 78, 65, 76])) fun y17 => br y17.1 (J16 ((GFld.mk y6.1 y11.1 true false (Val.mk (0 : Int) (0 : Int) ([] : (List UInt8)) ([] : (List Val)) (0 : Int) ([] : (List Raw))) a_group), y17.2)) (cal (r05_parser_is y17.2 (Str.mk [68, 69, 70, 65, 85, 76, 84])) fun y20 => br y20.1 (cal (r05_parser_value y20.2) fun y23 => J16 ((GFld.mk y6.1 y11.1 false true y23.1 a_group), y23.2)) (J16 ((GFld.mk y6.1 y11.1 false false (Val.mk (0 : Int) (0 : Int) ([] : (List UInt8)) ([] : (List Val)) (0 : Int) ([] : (List Raw))) a_group), y20.2))))) (fun q15 => asr (Nat.ble (a_n_.fields.length + ([q15.1] : (List GFld)).length) 68719476736) <| some (q15.2, (GNode.mk a_n_.kind a_n_.name a_n_.mark a_n_.con a_n_.items (a_n_.fields ++ ([q15.1] : (List GFld))) a_n_.root a_n_.more a_n_.of)))
def r05_parser_typ_F (r05_parser_field' : GPar → GNode → Int → Int → Option (GPar × GNode)) (r05_parser_typ' : GPar → Int → Option (Int × GPar)) (r05_parser_base' : GPar → GNode → Int → Option (GPar × GNode)) (r05_parser_fields' : GPar → GNode → Int → Option (GPar × GNode)) (a_x : GPar) (a_depth : Int) : Option (Int × GPar) :=
  br (!decide (a_x.e = (0 : Int))) (some ((0 : Int), a_x)) (cal (r05_parser_now a_x) fun y4 => cal (r05_begins y4.1) fun y7 => br (!y7) (cal (r05_parser_now y4.2) fun y8 => cal (r05_parser_fail y8.2 (7 : Int) y8.1) fun y11 => some ((0 : Int), y11)) (jp (ι := Bool) (fun J15 => br (decide ((16 : Int) < a_depth)) (J15 (true)) (J15 ((decide ((300 : Int) ≤ ((y4.2.m.nodes.length : Nat) : Int)))))) (fun q14 => br q14 (cal (r05_parser_now y4.2) fun y17 => cal (r05_parser_fail y17.2 (5 : Int) y17.1) fun y20 => some ((0 : Int), y20)) (asr (Nat.ble (y4.2.m.nodes.length + ([(GNode.mk (0 : Int) (Str.mk []) (GMark.mk false (0 : Int) (0 : Int)) (GCon.mk false false false false (0 : Int) (0 : Int)) ([] : (List GItem)) ([] : (List GFld)) (0 : Int) false (0 : Int))] : (List GNode)).length) 68719476736) <| cal (r05_parser_is (GPar.mk y4.2.l y4.2.at_ (GMod.mk y4.2.m.name y4.2.m.tagging y4.2.m.names y4.2.m.types (y4.2.m.nodes ++ ([(GNode.mk (0 : Int) (Str.mk []) (GMark.mk false (0 : Int) (0 : Int)) (GCon.mk false false false false (0 : Int) (0 : Int)) ([] : (List GItem)) ([] : (List GFld)) (0 : Int) false (0 : Int))] : (List GNode)))) y4.2.e y4.2.p) (Str.mk [91])) fun y31 => jp (ι := GPar × GNode) (fun J35 => br y31.1 (cal (r05_parser_now y31.2) fun y36 => cal (r05_parser_number y36.2) fun y40 => jp (ι := Bool) (fun J44 => br (decide (y40.2.e = (0 : Int))) (jp (ι := Bool) (fun J47 => br (decide (y40.1 < (0 : Int))) (J47 (true)) (J47 ((decide ((268435456 : Int) < y40.1))))) (fun q46 => J44 (q46))) (J44 (false))) (fun q43 => jp (ι := GPar) (fun J50 => br q43 (cal (r05_parser_fail y40.2 (12 : Int) y36.1) fun y51 => J50 (y51)) (J50 (y40.2))) (fun q49 => cal (r05_parser_must q49 (Str.mk [93])) fun y54 => cal (r05_parser_is y54 (Str.mk [69, 88, 80, 76, 73, 67, 73, 84])) fun y57 => br y57.1 (J35 (y57.2, (GNode.mk (0 : Int) (Str.mk []) (GMark.mk true y40.1 (1 : Int)) (GCon.mk false false false false (0 : Int) (0 : Int)) ([] : (List GItem)) ([] : (List GFld)) (0 : Int) false (0 : Int)))) (cal (r05_parser_is y57.2 (Str.mk [73, 77, 80, 76, 73, 67, 73, 84])) fun y60 => br y60.1 (J35 (y60.2, (GNode.mk (0 : Int) (Str.mk []) (GMark.mk true y40.1 (2 : Int)) (GCon.mk false false false false (0 : Int) (0 : Int)) ([] : (List GItem)) ([] : (List GFld)) (0 : Int) false (0 : Int)))) (J35 (y60.2, (GNode.mk (0 : Int) (Str.mk []) (GMark.mk true y40.1 (0 : Int)) (GCon.mk false false false false (0 : Int) (0 : Int)) ([] : (List GItem)) ([] : (List GFld)) (0 : Int) false (0 : Int)))))))) (J35 (y31.2, (GNode.mk (0 : Int) (Str.mk []) (GMark.mk false (0 : Int) (0 : Int)) (GCon.mk false false false false (0 : Int) (0 : Int)) ([] : (List GItem)) ([] : (List GFld)) (0 : Int) false (0 : Int))))) (fun q34 => cal (r05_parser_base' q34.1 q34.2 a_depth) fun y63 => br (!decide (y63.1.e = (0 : Int))) (some ((0 : Int), y63.1)) (asr (decide (0 ≤ ((y4.2.m.nodes.length : Nat) : Int) ∧ ((y4.2.m.nodes.length : Nat) : Int) < ((y63.1.m.nodes.length : Nat) : Int))) <| cal (y63.1.m.nodes[((y4.2.m.nodes.length : Nat) : Int).toNat]?) fun y74 => some (((y4.2.m.nodes.length : Nat) : Int), (GPar.mk y63.1.l y63.1.at_ (GMod.mk y63.1.m.name y63.1.m.tagging y63.1.m.names y63.1.m.types (y63.1.m.nodes.set (((y4.2.m.nodes.length : Nat) : Int).toNat) y63.2)) y63.1.e y63.1.p))))))))
def r05_parser_base_F (r05_parser_field' : GPar → GNode → Int → Int → Option (GPar × GNode)) (r05_parser_typ' : GPar → Int → Option (Int × GPar)) (r05_parser_base' : GPar → GNode → Int → Option (GPar × GNode)) (r05_parser_fields' : GPar → GNode → Int → Option (GPar × GNode)) (a_x : GPar) (a_n_ : GNode) (a_depth : Int) : Option (GPar × GNode) :=
  cal (r05_parser_now a_x) fun y6 => br (!decide (y6.2.e = (0 : Int))) (some (y6.2, a_n_)) (cal (r05_parser_is y6.2 (Str.mk [66, 79, 79, 76, 69, 65, 78])) fun y10 => br y10.1 (some (y10.2, (GNode.mk (1 : Int) a_n_.name a_n_.mark a_n_.con a_n_.items a_n_.fields a_n_.root a_n_.more a_n_.of))) (cal (r05_parser_is y10.2 (Str.mk [78, 85, 76, 76])) fun y13 => br y13.1 (some (y13.2, (GNode.mk (4 : Int) a_n_.name a_n_.mark a_n_.con a_n_.items a_n_.fields a_n_.root a_n_.more a_n_.of))) (cal (r05_parser_is y13.2 (Str.mk [85, 84, 70, 56, 83, 116, 114, 105, 110, 103])) fun y16 => br y16.1 (cal (r05_parser_size y16.2) fun y19 => some (y19.2, (GNode.mk (6 : Int) a_n_.name a_n_.mark y19.1 a_n_.items a_n_.fields a_n_.root a_n_.more a_n_.of))) (cal (r05_parser_is y16.2 (Str.mk [73, 78, 84, 69, 71, 69, 82])) fun y22 => br y22.1 (cal (r05_parser_is y22.2 (Str.mk [40])) fun y25 => br y25.1 (cal (r05_parser_bounds y25.2) fun y28 => cal (r05_parser_must y28.2 (Str.mk [41])) fun y31 => some (y31, (GNode.mk (2 : Int) a_n_.name a_n_.mark y28.1 a_n_.items a_n_.fields a_n_.root a_n_.more a_n_.of))) (some (y25.2, (GNode.mk (2 : Int) a_n_.name a_n_.mark a_n_.con a_n_.items a_n_.fields a_n_.root a_n_.more a_n_.of)))) (cal (r05_parser_is y22.2 (Str.mk [79, 67, 84, 69, 84])) fun y34 => br y34.1 (cal (r05_parser_must y34.2 (Str.mk [83, 84, 82, 73, 78, 71])) fun y37 => cal (r05_parser_size y37) fun y40 => some (y40.2, (GNode.mk (5 : Int) a_n_.name a_n_.mark y40.1 a_n_.items a_n_.fields a_n_.root a_n_.more a_n_.of))) (cal (r05_parser_is y34.2 (Str.mk [69, 78, 85, 77, 69, 82, 65, 84, 69, 68])) fun y43 => br y43.1 (cal (r05_parser_must y43.2 (Str.mk [123])) fun y46 => cal (r05_parser_items y46 (GNode.mk (3 : Int) a_n_.name a_n_.mark a_n_.con a_n_.items a_n_.fields a_n_.root a_n_.more a_n_.of)) fun y49 => cal (r05_parser_must y49.1 (Str.mk [125])) fun y54 => some (y54, y49.2)) (cal (r05_parser_is y43.2 (Str.mk [83, 69, 84])) fun y57 => br y57.1 (cal (r05_parser_must y57.2 (Str.mk [123])) fun y60 => cal (r05_parser_fields' y60 (GNode.mk (8 : Int) a_n_.name a_n_.mark a_n_.con a_n_.items a_n_.fields a_n_.root a_n_.more a_n_.of) a_depth) fun y63 => some (y63.1, y63.2)) (cal (r05_parser_is y57.2 (Str.mk [67, 72, 79, 73, 67, 69])) fun y69 => br y69.1 (cal (r05_parser_must y69.2 (Str.mk [123])) fun y72 => cal (r05_parser_fields' y72 (GNode.mk (9 : Int) a_n_.name a_n_.mark a_n_.con a_n_.items a_n_.fields a_n_.root a_n_.more a_n_.of) a_depth) fun y75 => some (y75.1, y75.2)) (cal (r05_parser_is y69.2 (Str.mk [83, 69, 81, 85, 69, 78, 67, 69])) fun y81 => br y81.1 (cal (r05_parser_is y81.2 (Str.mk [123])) fun y84 => br y84.1 (cal (r05_parser_fields' y84.2 (GNode.mk (7 : Int) a_n_.name a_n_.mark a_n_.con a_n_.items a_n_.fields a_n_.root a_n_.more a_n_.of) a_depth) fun y87 => some (y87.1, y87.2)) (cal (r05_parser_size y84.2) fun y93 => cal (r05_parser_must y93.2 (Str.mk [79, 70])) fun y96 => ck ((a_depth + (1 : Int))) <| cal (r05_parser_typ' y96 (a_depth + (1 : Int))) fun y100 => some (y100.2, (GNode.mk (10 : Int) a_n_.name a_n_.mark y93.1 a_n_.items a_n_.fields a_n_.root a_n_.more y100.1)))) (br (decide (y6.1.kind = (1 : Int))) (cal (r05_parser_next y81.2) fun y104 => some (y104.2, (GNode.mk (11 : Int) y6.1.text a_n_.mark a_n_.con a_n_.items a_n_.fields a_n_.root a_n_.more a_n_.of))) (cal (r05_parser_fail y81.2 (7 : Int) y6.1) fun y107 => some (y107, a_n_))))))))))))
def r05_parser_fields_F (r05_parser_field' : GPar → GNode → Int → Int → Option (GPar × GNode)) (r05_parser_typ' : GPar → Int → Option (Int × GPar)) (r05_parser_base' : GPar → GNode → Int → Option (GPar × GNode)) (r05_parser_fields' : GPar → GNode → Int → Option (GPar × GNode)) (a_x : GPar) (a_n_ : GNode) (a_depth : Int) : Option (GPar × GNode) :=
  cal (r05_parser_is a_x (Str.mk [125])) fun y6 => br y6.1 (some (y6.2, a_n_)) (jp (ι := GPar × GNode) (fun J10 => lp (ι := Int × GPar × GNode) (fun L12 q11 => br (decide (q11.2.1.e = (0 : Int))) (jp (ι := Int × GPar × GNode) (fun J64 => jp (ι := Bool × GPar) (fun J66 => br (!q11.2.2.more) (cal (r05_parser_is q11.2.1 (Str.mk [46, 46, 46])) fun y68 => J66 (y68.1, y68.2)) (J66 (false, q11.2.1))) (fun q65 => br q65.1 (J64 (q11.1, q65.2, (GNode.mk q11.2.2.kind q11.2.2.name q11.2.2.mark q11.2.2.con q11.2.2.items q11.2.2.fields (q11.2.2.fields.length : Int) true q11.2.2.of))) (jp (ι := Bool × GPar) (fun J72 => br q11.2.2.more (cal (r05_parser_is q65.2 (Str.mk [91, 91])) fun y74 => J72 (y74.1, y74.2)) (J72 (false, q65.2))) (fun q71 => br q71.1 (ck ((q11.1 + (1 : Int))) <| jp (ι := GPar × GNode) (fun J79 => lp (ι := GPar × GNode) (fun L81 q80 => br (decide (q80.1.e = (0 : Int))) (cal (r05_parser_field' q80.1 q80.2 a_depth (q11.1 + (1 : Int))) fun y91 => cal (r05_parser_is y91.1 (Str.mk [44])) fun y97 => br (!y97.1) (J79 (y97.2, y91.2)) (L81 (y97.2, y91.2))) (J79 (q80.1, q80.2))) ((q71.2, q11.2.2))) (fun q78 => cal (r05_parser_must q78.1 (Str.mk [93, 93])) fun y101 => J64 ((q11.1 + (1 : Int)), y101, q78.2))) (cal (r05_parser_field' q71.2 q11.2.2 a_depth (0 : Int)) fun y104 => J64 (q11.1, y104.1, y104.2)))))) (fun q63 => cal (r05_parser_is q63.2.1 (Str.mk [44])) fun y110 => br (!y110.1) (J10 (y110.2, q63.2.2)) (L12 (q63.1, y110.2, q63.2.2)))) (J10 (q11.2.1, q11.2.2))) (((0 : Int), y6.2, a_n_))) (fun q9 => cal (r05_parser_must q9.1 (Str.mk [125])) fun y114 => br (!q9.2.more) (some (y114, (GNode.mk q9.2.kind q9.2.name q9.2.mark q9.2.con q9.2.items q9.2.fields (q9.2.fields.length : Int) q9.2.more q9.2.of))) (some (y114, q9.2))))
def r05_parser_field_grp : Nat → (GPar → GNode → Int → Int → Option (GPar × GNode)) × (GPar → Int → Option (Int × GPar)) × (GPar → GNode → Int → Option (GPar × GNode)) × (GPar → GNode → Int → Option (GPar × GNode))
  | 0 => (fun _ _ _ _ => none, fun _ _ => none, fun _ _ _ => none, fun _ _ _ => none)
  | n + 1 => let p := r05_parser_field_grp n; (r05_parser_field_F p.1 p.2.1 p.2.2.1 p.2.2.2, r05_parser_typ_F p.1 p.2.1 p.2.2.1 p.2.2.2, r05_parser_base_F p.1 p.2.1 p.2.2.1 p.2.2.2, r05_parser_fields_F p.1 p.2.1 p.2.2.1 p.2.2.2)
def r05_parser_field (n : Nat) : GPar → GNode → Int → Int → Option (GPar × GNode) := (r05_parser_field_grp n).1
def r05_parser_typ (n : Nat) : GPar → Int → Option (Int × GPar) := (r05_parser_field_grp n).2.1
def r05_parser_base (n : Nat) : GPar → GNode → Int → Option (GPar × GNode) := (r05_parser_field_grp n).2.2.1
def r05_parser_fields (n : Nat) : GPar → GNode → Int → Option (GPar × GNode) := (r05_parser_field_grp n).2.2.2

def r05_Parse (a_text : Str) : Option (GMod × Int × Int) :=
  cal (r04_Tokens a_text) fun y2 => br (!decide (y2.2.2 = (0 : Int))) (some ((GMod.mk (Str.mk []) (0 : Int) ([] : (List Str)) ([] : (List Int)) ([] : (List GNode))), y2.2.1, y2.2.2)) (cal (r05_parser_kind (GPar.mk y2.1 (0 : Int) (GMod.mk (Str.mk []) (0 : Int) ([] : (List Str)) ([] : (List Int)) ([] : (List GNode))) (0 : Int) (0 : Int)) (1 : Int)) fun y7 => cal (r05_parser_must (GPar.mk y7.2.l y7.2.at_ (GMod.mk y7.1 y7.2.m.tagging y7.2.m.names y7.2.m.types y7.2.m.nodes) y7.2.e y7.2.p) (Str.mk [68, 69, 70, 73, 78, 73, 84, 73, 79, 78, 83])) fun y10 => jp (ι := GPar) (fun J14 => cal (r05_parser_is y10 (Str.mk [69, 88, 80, 76, 73, 67, 73, 84])) fun y15 => br y15.1 (cal (r05_parser_must y15.2 (Str.mk [84, 65, 71, 83])) fun y18 => J14 (y18)) (cal (r05_parser_is y15.2 (Str.mk [73, 77, 80, 76, 73, 67, 73, 84])) fun y21 => br y21.1 (cal (r05_parser_must (GPar.mk y21.2.l y21.2.at_ (GMod.mk y21.2.m.name (1 : Int) y21.2.m.names y21.2.m.types y21.2.m.nodes) y21.2.e y21.2.p) (Str.mk [84, 65, 71, 83])) fun y24 => J14 (y24)) (cal (r05_parser_is y21.2 (Str.mk [65, 85, 84, 79, 77, 65, 84, 73, 67])) fun y27 => br y27.1 (cal (r05_parser_must (GPar.mk y27.2.l y27.2.at_ (GMod.mk y27.2.m.name (2 : Int) y27.2.m.names y27.2.m.types y27.2.m.nodes) y27.2.e y27.2.p) (Str.mk [84, 65, 71, 83])) fun y30 => J14 (y30)) (J14 (y27.2))))) (fun q13 => cal (r05_parser_must q13 (Str.mk [58, 58, 61])) fun y33 => cal (r05_parser_must y33 (Str.mk [66, 69, 71, 73, 78])) fun y36 => lp (ι := GPar) (fun L40 q39 => jp (ι := Bool × GPar) (fun J92 => br (decide (q39.e = (0 : Int))) (cal (r05_parser_is q39 (Str.mk [69, 78, 68])) fun y94 => J92 ((!y94.1), y94.2)) (J92 (false, q39))) (fun q91 => br q91.1 (cal (r05_parser_now q91.2) fun y97 => cal (r05_parser_kind y97.2 (1 : Int)) fun y101 => jp (ι := Bool) (fun J105 => br (decide (y101.2.e = (0 : Int))) (J105 ((decide ((40 : Int) ≤ (y101.2.m.names.length : Int))))) (J105 (false))) (fun q104 => jp (ι := GPar) (fun J108 => br q104 (cal (r05_parser_fail y101.2 (5 : Int) y97.1) fun y109 => J108 (y109)) (J108 (y101.2))) (fun q107 => cal (r05_parser_must q107 (Str.mk [58, 58, 61])) fun y112 => cal (r05_parser_typ fuel y112 (0 : Int)) fun y115 => asr (Nat.ble (y115.2.m.names.length + ([y101.1] : (List Str)).length) 68719476736) <| asr (Nat.ble (y115.2.m.types.length + ([y115.1] : (List Int)).length) 68719476736) <| L40 ((GPar.mk y115.2.l y115.2.at_ (GMod.mk y115.2.m.name y115.2.m.tagging (y115.2.m.names ++ ([y101.1] : (List Str))) (y115.2.m.types ++ ([y115.1] : (List Int))) y115.2.m.nodes) y115.2.e y115.2.p))))) (jp (ι := Bool × GPar) (fun J126 => br (decide (q91.2.e = (0 : Int))) (cal (r05_parser_now q91.2) fun y128 => J126 ((!decide (y128.1.kind = (0 : Int))), y128.2)) (J126 (false, q91.2))) (fun q125 => jp (ι := GPar) (fun J132 => br q125.1 (cal (r05_parser_now q125.2) fun y133 => cal (r05_parser_fail y133.2 (7 : Int) y133.1) fun y136 => J132 (y136)) (J132 (q125.2))) (fun q131 => br (!decide (q131.e = (0 : Int))) (some ((GMod.mk (Str.mk []) (0 : Int) ([] : (List Str)) ([] : (List Int)) ([] : (List GNode))), q131.p, q131.e)) (some (q131.m, (0 : Int), (0 : Int)))))))) ((y36))))
end Go.Proofs.YtiibmpdjkdjbiaaGreatDoor


namespace Go.Sy
section tot
variable {α β ι : Type}
def T (R : β → Prop) (o : Option β) : Prop := ∃ r, o = some r ∧ R r
theorem T.some {R : β → Prop} {r : β} (h : R r) : T R (some r) := ⟨r, rfl, h⟩
theorem T.mono {R R' : β → Prop} {o : Option β} (h : T R o) (k : ∀ r, R r → R' r) : T R' o := by
  obtain ⟨r, h1, h2⟩ := h; exact ⟨r, h1, k r h2⟩
theorem T.cal {Q : α → Prop} {R : β → Prop} {m : Option α} {k : α → Option β} (h : T Q m) (hk : ∀ y, m = Option.some y → Q y → T R (k y)) : T R (cal m k) := by
  obtain ⟨y, h1, h2⟩ := h
  subst h1
  exact hk y rfl h2
theorem T.eq {R : β → Prop} {m : Option α} {k : α → Option β} {y : α} (h : m = Option.some y) (hk : T R (k y)) : T R (Sy.cal m k) := by subst h; exact hk
theorem bI64_of {x : Int} (h : inI64 x) : bI64 x = true := by
  unfold inI64 at h
  cases x with
  | ofNat n =>
    simp only [Int.ofNat_eq_natCast] at h
    exact Nat.ble_eq_true_of_le (by omega)
  | negSucc n => exact Nat.ble_eq_true_of_le (by omega)
theorem T.ck {R : β → Prop} {x : Int} {k : Option β} (hx : -9223372036854775808 ≤ x ∧ x ≤ 9223372036854775807) (h : T R k) : T R (ck x k) := by
  unfold Sy.ck; rw [bI64_of hx]; exact h
theorem T.asr {R : β → Prop} {b : Bool} {k : Option β} (hb : b = true) (h : T R k) : T R (asr b k) := by subst hb; exact h
theorem T.asd {R : β → Prop} {p : Prop} [Decidable p] {k : Option β} (hb : p) (h : T R k) : T R (Sy.asr (decide p) k) := T.asr (decide_eq_true hb) h
theorem T.abl {R : β → Prop} {a b : Nat} {k : Option β} (hb : a ≤ b) (h : T R k) : T R (Sy.asr (Nat.ble a b) k) := T.asr (Nat.ble_eq_true_of_le hb) h
theorem T.br {R : β → Prop} {b : Bool} {t e : Option β} (ht : b = true → T R t) (he : b = false → T R e) : T R (br b t e) := by
  cases b with
  | true => exact ht rfl
  | false => exact he rfl
theorem T.brT {R : β → Prop} {b : Bool} {t e : Option β} (hb : b = true) (h : T R t) : T R (Sy.br b t e) := by subst hb; exact h
theorem T.brF {R : β → Prop} {b : Bool} {t e : Option β} (hb : b = false) (h : T R e) : T R (Sy.br b t e) := by subst hb; exact h
theorem T.jp (Q : ι → Prop) {R : β → Prop} {B : (ι → Option β) → Option β} {K : ι → Option β} (hB : ∀ J, (∀ i, Q i → T R (J i)) → T R (B J)) (hK : ∀ i, Q i → T R (K i)) : T R (jp B K) := hB K hK
theorem T.lp (I : ι → Prop) (μ : ι → Nat) {R : β → Prop} {F : (ι → Option β) → ι → Option β} {i0 : ι} (h0 : I i0) (hμ : μ i0 < 1000000000000000000) (h : ∀ (L : ι → Option β) i, I i → (∀ j, I j → μ j < μ i → T R (L j)) → T R (F L i)) : T R (lp F i0) := by
  have key : ∀ n i, I i → μ i < n → T R (lpN F n i) := by
    intro n
    induction n with
    | zero => intro i _ hn; omega
    | succ n ih => intro i hi hn; exact h (lpN F n) i hi fun j hj hl => ih j hj (by omega)
  unfold Sy.lp fuel
  exact key _ _ h0 hμ
theorem getI_some {l : List α} {i : Int} (h0 : 0 ≤ i) (h1 : i < l.length) : getI l i = some (l[i.toNat]'(by omega)) := by
  unfold getI
  cases i with
  | ofNat n => simp only [Int.ofNat_eq_natCast] at h1; simp
  | negSucc n => omega
theorem T.get {R : β → Prop} {l : List α} {i : Int} {k : α → Option β} (h0 : 0 ≤ i) (h1 : i < l.length) (hk : ∀ y, l[i.toNat]? = Option.some y → T R (k y)) : T R (Sy.cal (getI l i) k) :=
  T.eq (getI_some h0 h1) (hk _ (List.getElem?_eq_getElem (by omega)))
theorem T.fin {o : Option β} {x : β} (h : T (fun r => r = x) o) : o = Option.some x := by
  obtain ⟨r, h1, h2⟩ := h; rw [h1, h2]
theorem T.of {o : Option β} {R : β → Prop} {x : β} (h : o = Option.some x) (hx : R x) : T R o := ⟨x, h, hx⟩
end tot
end Go.Sy


namespace Go.Proofs.YtiibmpdjkdjbiaaGreatDoor
open Go.Sy
set_option linter.unusedVariables false

theorem at_tot (s : Str) (i : Int) : T (fun r => r = (if 0 ≤ i then (s.b[i.toNat]?).getD 0 else 0)) (r04_at s i) := by
  unfold r04_at
  refine T.jp (fun q => q = decide (¬ (0 ≤ i ∧ i < s.b.length))) (fun J h => ?_) (fun q hq => ?_)
  · refine T.br (fun h1 => h _ ?_) (fun h1 => h _ ?_)
    · have := of_decide_eq_true h1; simp; omega
    · have := of_decide_eq_false h1
      by_cases h2 : (s.b.length : Int) ≤ i <;> simp [h2] <;> omega
  · subst hq
    refine T.br (fun h1 => T.some ?_) (fun h1 => ?_)
    · have h2 := of_decide_eq_true h1
      split
      · rename_i h3
        rw [List.getElem?_eq_none (by omega)]; rfl
      · rfl
    · have h2 := of_decide_eq_false h1
      refine T.get (by omega) (by omega) fun y hy => T.some ?_
      rw [if_pos (by omega), hy]; rfl

def isLetter (c : UInt8) : Bool := (decide (97 ≤ c) && decide (c ≤ 122)) || (decide (65 ≤ c) && decide (c ≤ 90))
def isDigit (c : UInt8) : Bool := decide (48 ≤ c) && decide (c ≤ 57)
theorem letter_eq (c : UInt8) : r04_letter c = some (isLetter c) := by
  unfold r04_letter isLetter jp br
  cases decide (97 ≤ c) <;> cases decide (c ≤ 122) <;> cases decide (65 ≤ c) <;> cases decide (c ≤ 90) <;> rfl
theorem digit_eq (c : UInt8) : r04_digit c = some (isDigit c) := by
  unfold r04_digit isDigit jp br
  cases decide (48 ≤ c) <;> cases decide (c ≤ 57) <;> rfl

theorem white_tot (s : Str) (i : Int) (h0 : 0 ≤ i) (h1 : i ≤ s.b.length) (hl : s.b.length ≤ 1000000) : T (fun r => i ≤ r ∧ r ≤ s.b.length) (r04_white s i) := by
  unfold r04_white
  refine T.lp (fun k => i ≤ k ∧ k ≤ s.b.length) (fun k => (s.b.length - k).toNat) ⟨Int.le_refl _, h1⟩ (by omega) fun L k hk hL => ?_
  refine T.br (fun hb => ?_) (fun _ => T.some hk)
  have hb := of_decide_eq_true hb
  refine T.get (by omega) hb fun y hy => ?_
  refine T.jp (fun _ => True) (fun J h => T.br (fun _ => h _ trivial) fun _ => T.get (by omega) hb fun _ _ => h _ trivial) fun q _ => ?_
  refine T.jp (fun _ => True) (fun J h => T.br (fun _ => h _ trivial) fun _ => T.get (by omega) hb fun _ _ => h _ trivial) fun q _ => ?_
  refine T.jp (fun _ => True) (fun J h => T.br (fun _ => h _ trivial) fun _ => T.get (by omega) hb fun _ _ => h _ trivial) fun q _ => ?_
  refine T.br (fun _ => T.ck (by omega) (hL _ (by omega) (by omega))) fun _ => ?_
  refine T.get (by omega) hb fun y hy => ?_
  refine T.jp (fun q => q = true → k + 2 ≤ s.b.length) (fun J h => T.br (fun _ => T.ck (by omega) (T.cal (at_tot s (k + 1)) fun y _ hy => h _ fun hq => ?_)) fun _ => h _ (fun h => by cases h)) fun q hq => ?_
  · have := of_decide_eq_true hq
    subst this
    rw [if_pos (by omega)] at hy
    rcases Nat.lt_or_ge (k + 1).toNat s.b.length with h3 | h3
    · omega
    · rw [List.getElem?_eq_none h3] at hy; cases hy
  refine T.br (fun hb2 => T.ck (by omega) ?_) (fun _ => T.some hk)
  have hq' := hq hb2
  refine T.lp (fun j => k + 2 ≤ j ∧ j ≤ s.b.length) (fun j => (s.b.length - j).toNat) ⟨Int.le_refl _, hq'⟩ (by omega) fun L2 j hj hL2 => ?_
  refine T.jp (fun q => q = true → j < s.b.length) (fun J h => T.br (fun h2 => ?_) fun _ => h _ (fun h => by cases h)) fun q hq2 => ?_
  · have h2 := of_decide_eq_true h2
    exact T.get (by omega) h2 fun _ _ => h _ fun _ => h2
  refine T.br (fun h2 => ?_) (fun _ => hL _ (by omega) (by omega))
  have h2 := hq2 h2
  refine T.get (by omega) h2 fun y hy => ?_
  refine T.jp (fun q => q = true → j + 2 ≤ s.b.length) (fun J h => T.br (fun _ => T.ck (by omega) (T.cal (at_tot s (j + 1)) fun y _ hy => h _ fun hq => ?_)) fun _ => h _ (fun h => by cases h)) fun q hq3 => ?_
  · have := of_decide_eq_true hq
    subst this
    rw [if_pos (by omega)] at hy
    rcases Nat.lt_or_ge (j + 1).toNat s.b.length with h3 | h3
    · omega
    · rw [List.getElem?_eq_none h3] at hy; cases hy
  refine T.br (fun h3 => T.ck (by omega) ?_) (fun _ => T.ck (by omega) (hL2 _ (by omega) (by omega)))
  have h3 := hq3 h3
  exact hL _ (by omega) (by omega)

theorem name_tot (s : Str) (i : Int) (h0 : 0 ≤ i) (h1 : i < s.b.length) (hl : s.b.length ≤ 1000000) (hc : ∀ y, s.b[i.toNat]? = some y → isLetter y = true) : T (fun r => r = -1 ∨ (i < r ∧ r ≤ s.b.length)) (r04_name s i) := by
  unfold r04_name
  refine T.lp (fun k => i ≤ k ∧ k ≤ s.b.length) (fun k => (s.b.length - k).toNat) ⟨Int.le_refl _, by omega⟩ (by omega) fun L k hk hL => ?_
  refine T.jp (fun q => (q = true → k < s.b.length) ∧ (q = false → i < k)) (fun J h => ?_) fun q hq => ?_
  · refine T.br (fun hb => ?_) (fun hb => h _ ⟨(fun h => by cases h), fun _ => by have := of_decide_eq_false hb; omega⟩)
    have hb := of_decide_eq_true hb
    refine T.get (by omega) hb fun y hy => ?_
    refine T.eq (letter_eq y) ?_
    refine T.jp (fun q => isLetter y = true → q = true) (fun J2 h2 => ?_) fun q hq => ?_
    · exact T.br (fun _ => h2 _ fun _ => rfl) fun hn => T.get (by omega) hb fun y2 _ => T.eq (digit_eq y2) (h2 _ fun hy => by rw [hn] at hy; cases hy)
    refine T.jp (fun q => isLetter y = true → q = true) (fun J2 h2 => ?_) fun q hq => ?_
    · refine T.br (fun _ => h2 _ fun _ => rfl) fun hn => T.get (by omega) hb fun y2 _ => ?_
      have hno : ¬ isLetter y = true := fun hy => by rw [hq hy] at hn; cases hn
      refine T.jp (fun _ => True) (fun J3 h3 => T.br (fun _ => T.ck (by omega) (T.cal (at_tot s _) fun _ _ _ => h3 _ trivial)) fun _ => h3 _ trivial) fun q _ => h2 _ fun hy => absurd hy hno
    · refine h _ ⟨fun _ => hb, fun hn => ?_⟩
      rcases Int.lt_or_eq_of_le hk.1 with h2 | h2
      · exact h2
      · subst h2
        have := hq (hc y hy)
        rw [this] at hn; cases hn
  refine T.br (fun hb => T.ck (by have := hq.1 hb; omega) (hL _ (by have := hq.1 hb; omega) (by have := hq.1 hb; omega))) fun hb => ?_
  have hlt := hq.2 hb
  refine T.ck (by omega) (T.get (by omega) (by omega) fun y _ => ?_)
  refine T.jp (fun _ => True) (fun J h => T.br (fun _ => h _ trivial) fun _ => T.ck (by omega) (h _ trivial)) fun q _ => ?_
  exact T.br (fun _ => T.some (.inl rfl)) fun _ => T.some (.inr ⟨hlt, hk.2⟩)
end Go.Proofs.YtiibmpdjkdjbiaaGreatDoor


namespace Go.Proofs.YtiibmpdjkdjbiaaGreatDoor
open Go.Sy
set_option linter.unusedVariables false

theorem snocInd {α : Type} {P : List α → Prop} (h0 : P []) (h1 : ∀ l a, P l → P (l ++ [a])) (l : List α) : P l := by
  have : ∀ m : List α, P m.reverse := by
    intro m
    induction m with
    | nil => exact h0
    | cons a m ih => rw [List.reverse_cons]; exact h1 _ _ ih
  have h := this l.reverse
  rwa [List.reverse_reverse] at h

def dval (l : List UInt8) : Nat := l.foldl (fun v d => 10 * v + (d.toNat - 48)) 0
def uval (l : List UInt8) : UInt64 := l.foldl (fun v d => 10 * v + (d - 48).toUInt64) 0
theorem digit_range {d : UInt8} (h : isDigit d = true) : 48 ≤ d.toNat ∧ d.toNat ≤ 57 := by
  unfold isDigit at h
  simp only [Bool.and_eq_true, decide_eq_true_eq] at h
  have h1 := UInt8.le_iff_toNat_le.1 h.1
  have h2 := UInt8.le_iff_toNat_le.1 h.2
  simp at h1 h2
  omega
theorem digit_u {d : UInt8} (h : isDigit d = true) : (d - 48).toUInt64.toNat = d.toNat - 48 := by
  have h1 := digit_range h
  have h2 := d.toNat_lt
  have h3 : (48 : UInt8).toNat = 48 := rfl
  rw [UInt8.toNat_toUInt64, UInt8.toNat_sub, h3]
  omega
theorem dval_snoc (l : List UInt8) (d : UInt8) : dval (l ++ [d]) = 10 * dval l + (d.toNat - 48) := by simp [dval]
theorem uval_snoc (l : List UInt8) (d : UInt8) : uval (l ++ [d]) = 10 * uval l + (d - 48).toUInt64 := by simp [uval]
def digs (l : List UInt8) : Prop := ∀ d ∈ l, isDigit d = true
theorem digs_snoc {l : List UInt8} {d : UInt8} (h : digs (l ++ [d])) : digs l ∧ isDigit d = true :=
  ⟨fun x hx => h x (List.mem_append_left _ hx), h d (List.mem_append_right _ (List.mem_singleton.2 rfl))⟩
theorem dval_lt (l : List UInt8) : digs l → dval l < 10 ^ l.length := by
  refine snocInd (P := fun l => digs l → dval l < 10 ^ l.length) (fun _ => by simp [dval]) (fun l d ih h => ?_) l
  obtain ⟨h1, h2⟩ := digs_snoc h
  have h3 := ih h1
  have h4 := digit_range h2
  rw [dval_snoc, List.length_append, List.length_singleton, Nat.pow_succ]
  omega
theorem pow19 {n : Nat} (h : n ≤ 19) : 10 ^ n ≤ 10000000000000000000 := by
  have := Nat.pow_le_pow_right (show 0 < 10 by omega) h
  simpa using this
theorem uval_dval (l : List UInt8) : digs l → l.length ≤ 19 → (uval l).toNat = dval l := by
  refine snocInd (P := fun l => digs l → l.length ≤ 19 → (uval l).toNat = dval l) (fun _ _ => by simp [dval, uval]) (fun l d ih h hl => ?_) l
  obtain ⟨h1, h2⟩ := digs_snoc h
  rw [List.length_append, List.length_singleton] at hl
  have h3 := ih h1 (by omega)
  have h4 := digit_range h2
  have h5 := dval_lt (l ++ [d]) h
  rw [List.length_append, List.length_singleton] at h5
  have h6 := pow19 hl
  rw [dval_snoc] at h5
  rw [uval_snoc, dval_snoc, UInt64.toNat_add, UInt64.toNat_mul, h3, digit_u h2]
  have h7 : (10 : UInt64).toNat = 10 := rfl
  rw [h7]
  omega
theorem dval_pos {d : UInt8} {l : List UInt8} (h : digs (d :: l)) (hd : d ≠ 48) : 1 ≤ dval (d :: l) := by
  refine snocInd (P := fun l => digs (d :: l) → 1 ≤ dval (d :: l)) (fun h => ?_) (fun l e ih h => ?_) l h
  · have h1 := digit_range (h d (List.mem_singleton.2 rfl))
    have h2 : d.toNat ≠ 48 := fun e => hd (UInt8.toNat_inj.1 e)
    have e : dval [d] = d.toNat - 48 := by simp [dval]
    omega
  · have h2 := ih (digs_snoc (l := d :: l) h).1
    have e1 := dval_snoc (d :: l) e
    have e2 : d :: (l ++ [e]) = d :: l ++ [e] := rfl
    rw [e2, e1]; omega

def NumOk (b : List UInt8) : Prop := ∃ ds, digs ds ∧ ds ≠ [] ∧ ds.length ≤ 19 ∧ ((b = ds ∧ dval ds < 9223372036854775808) ∨ (b = 45 :: ds ∧ 1 ≤ dval ds ∧ dval ds ≤ 9223372036854775808))

theorem seg_snoc {l : List UInt8} {f k : Nat} {y : UInt8} (hf : f ≤ k) (hy : l[k]? = some y) : (l.take (k + 1)).drop f = (l.take k).drop f ++ [y] := by
  have hlt := (List.getElem?_eq_some_iff.1 hy).1
  have h1 : l.take (k + 1) = l.take k ++ [y] := by
    rw [List.take_add_one, hy]; rfl
  rw [h1, List.drop_append_of_le_length (by rw [List.length_take]; omega)]
theorem seg_cons {l : List UInt8} {f k : Nat} {y : UInt8} (hf : f < k) (hk : k ≤ l.length) (hy : l[f]? = some y) : (l.take k).drop f = y :: (l.take k).drop (f + 1) := by
  have h1 : (l.take k)[f]? = some y := by rw [List.getElem?_take, if_pos hf, hy]
  obtain ⟨h2, h3⟩ := List.getElem?_eq_some_iff.1 h1
  rw [List.drop_eq_getElem_cons h2, h3]
theorem seg_len {l : List UInt8} {f k : Nat} (hk : k ≤ l.length) : ((l.take k).drop f).length = k - f := by
  rw [List.length_drop, List.length_take]; omega

set_option maxHeartbeats 1000000 in
theorem number_tot (s : Str) (i : Int) (h0 : 0 ≤ i) (h1 : i < s.b.length) (hl : s.b.length ≤ 1000000) :
    T (fun r => r = -1 ∨ (i < r ∧ r ≤ s.b.length ∧ NumOk ((s.b.take r.toNat).drop i.toNat))) (r04_number s i) := by
  unfold r04_number
  refine T.get h0 h1 fun y1 hy1 => ?_
  refine T.jp (fun f => (y1 = 45 ∧ f = i + 1) ∨ (y1 ≠ 45 ∧ f = i)) (fun J h => T.br (fun hb => T.ck (by omega) (h _ (.inl ⟨of_decide_eq_true hb, rfl⟩))) fun hb => h _ (.inr ⟨of_decide_eq_false hb, rfl⟩)) fun f hf => ?_
  have hf0 : i ≤ f ∧ f ≤ i + 1 := by omega
  have hfl : f ≤ s.b.length := by omega
  refine T.lp (ι := Int × UInt64) (fun q => f ≤ q.1 ∧ q.1 ≤ s.b.length ∧ digs ((s.b.take q.1.toNat).drop f.toNat) ∧ (q.1 - f ≤ 19 → q.2 = uval ((s.b.take q.1.toNat).drop f.toNat))) (fun q => (s.b.length - q.1).toNat)
    (by
      have e : (s.b.take f.toNat).drop f.toNat = [] := List.drop_eq_nil_of_le (by rw [List.length_take]; omega)
      refine ⟨Int.le_refl _, hfl, ?_, ?_⟩
      · rw [e]; intro d hd; cases hd
      · intro _; rw [e]; rfl) (by simp only; omega) fun L q hq hL => ?_
  obtain ⟨k, v⟩ := q
  obtain ⟨hq1, hq2, hq3, hq4⟩ := hq
  simp only at hq1 hq2 hq3 hq4 ⊢
  refine T.jp (fun b => b = true → k < s.b.length ∧ ∀ y, s.b[k.toNat]? = some y → isDigit y = true) (fun J h => ?_) fun b hb => ?_
  · refine T.br (fun h2 => ?_) fun _ => h _ (fun h => by cases h)
    have h2 := of_decide_eq_true h2
    exact T.get (by omega) h2 fun y hy => T.eq (digit_eq y) (h _ fun hd => ⟨h2, fun y' hy' => by rw [hy] at hy'; cases hy'; exact hd⟩)
  refine T.br (fun h2 => ?_) fun _ => ?_
  · obtain ⟨hk, hd⟩ := hb h2
    obtain ⟨y, hy⟩ : ∃ y, s.b[k.toNat]? = some y := ⟨_, List.getElem?_eq_getElem (by omega)⟩
    have hsn := seg_snoc (l := s.b) (f := f.toNat) (k := k.toNat) (y := y) (by omega) hy
    have hk1 : (k + 1).toNat = k.toNat + 1 := by omega
    refine T.ck (by omega) (T.jp (fun u => k - f < 19 → u = 10 * v + (y - 48).toUInt64) (fun J h => T.br (fun _ => ?_) fun h3 => h _ fun h4 => by have := of_decide_eq_false h3; omega) fun u hu => T.ck (by omega) (hL _ ?_ (by simp only; omega)))
    · exact T.get (by omega) hk fun y' hy' => h _ fun _ => by rw [hy] at hy'; cases hy'; rfl
    · refine ⟨by simp only; omega, by simp only; omega, ?_, fun h19 => ?_⟩
      · simp only
        rw [hk1, hsn]
        intro d hd'
        rcases List.mem_append.1 hd' with h | h
        · exact hq3 d h
        · rw [List.mem_singleton.1 h]; exact hd y hy
      · simp only at h19 ⊢
        rw [hk1, hsn, uval_snoc, hu (by omega), hq4 (by omega)]
  refine T.ck (by omega) ?_
  have hlen := seg_len (l := s.b) (f := f.toNat) (k := k.toNat) (by omega)
  refine T.jp (fun b => b = false → 1 ≤ k - f ∧ k - f ≤ 19) (fun J h => T.br (fun _ => h _ (fun h => by cases h)) fun h2 => h _ fun h3 => by have := of_decide_eq_false h2; have := of_decide_eq_false h3; omega) fun b1 hb1 => ?_
  refine T.jp (fun b => b = false → b1 = false) (fun J h => T.br (fun _ => h _ (fun h => by cases h)) fun h2 => ?_) fun b2 hb2 => ?_
  · refine T.jp (fun _ => True) (fun J3 h3 => T.br (fun h4 => T.get (by omega) (by have := of_decide_eq_true h4; omega) fun _ _ => h3 _ trivial) fun _ => h3 _ trivial) fun b _ => h _ fun _ => h2
  refine T.jp (fun b => b = false → b2 = false ∧ (y1 = 45 → ∀ y, s.b[f.toNat]? = some y → y ≠ 48)) (fun J h => T.br (fun _ => h _ (fun h => by cases h)) fun h2 => ?_) fun b3 hb3 => ?_
  · have h5 := hb1 (hb2 h2)
    refine T.jp (fun b => b = false → (y1 = 45 → ∀ y, s.b[f.toNat]? = some y → y ≠ 48)) (fun J3 h3 => T.br (fun h4 => T.get (by omega) (by omega) fun y hy => h3 _ fun h6 _ y' hy' => ?_) fun h4 => h3 _ fun _ h7 => absurd h7 (of_decide_eq_false h4)) fun b hb => h _ fun h6 => ⟨h2, hb h6⟩
    rw [hy] at hy'; cases hy'
    exact of_decide_eq_false h6
  refine T.jp (fun b => b = false → b3 = false) (fun J h => T.br (fun _ => h _ (fun h => by cases h)) fun h2 => T.cal (at_tot s k) fun y _ _ => T.eq (letter_eq y) (h _ fun _ => h2)) fun b4 hb4 => ?_
  refine T.jp (fun b => b = false → b4 = false ∧ ¬ (9223372036854775808 : UInt64) < v) (fun J h => T.br (fun _ => h _ (fun h => by cases h)) fun h2 => h _ fun h3 => ⟨h2, of_decide_eq_false h3⟩) fun b5 hb5 => ?_
  refine T.jp (fun b => b = false → b5 = false ∧ (y1 ≠ 45 → v ≠ 9223372036854775808)) (fun J h => T.br (fun _ => h _ (fun h => by cases h)) fun h2 => ?_) fun b6 hb6 => ?_
  · refine T.jp (fun b => b = false → (y1 ≠ 45 → v ≠ 9223372036854775808)) (fun J3 h3 => T.br (fun h4 => h3 _ fun h5 _ => of_decide_eq_false h5) fun h4 => h3 _ fun _ h5 => absurd h4 (by simp [h5])) fun b hb => h _ fun h6 => ⟨h2, hb h6⟩
  refine T.br (fun _ => T.some (.inl rfl)) fun h2 => T.some (.inr ?_)
  obtain ⟨e5, hv2⟩ := hb6 h2
  obtain ⟨e4, hv1⟩ := hb5 e5
  obtain ⟨e2, hz⟩ := hb3 (hb4 e4)
  obtain ⟨n1, n2⟩ := hb1 (hb2 e2)
  have hv := hq4 n2
  have hvn := uval_dval _ hq3 (by rw [hlen]; omega)
  rw [← hv] at hvn
  have hle : v.toNat ≤ 9223372036854775808 := by
    have : ¬ (9223372036854775808 : UInt64).toNat < v.toNat := fun h => hv1 (UInt64.lt_iff_toNat_lt.2 h)
    have e : (9223372036854775808 : UInt64).toNat = 9223372036854775808 := rfl
    omega
  refine ⟨by omega, hq2, (s.b.take k.toNat).drop f.toNat, hq3, fun h => by rw [h] at hlen; simp at hlen; omega, by rw [hlen]; omega, ?_⟩
  rcases hf with ⟨h45, hfi⟩ | ⟨h45, hfi⟩
  · right
    have hs := seg_cons (l := s.b) (f := i.toNat) (k := k.toNat) (y := y1) (by omega) (by omega) hy1
    have e : i.toNat + 1 = f.toNat := by omega
    rw [e] at hs
    refine ⟨by rw [hs, h45], ?_, by omega⟩
    obtain ⟨y, hy⟩ : ∃ y, s.b[f.toNat]? = some y := ⟨_, List.getElem?_eq_getElem (by omega)⟩
    have hs2 := seg_cons (l := s.b) (f := f.toNat) (k := k.toNat) (y := y) (by omega) (by omega) hy
    rw [hs2] at hq3 ⊢
    exact dval_pos hq3 (hz h45 y hy)
  · left
    subst hfi
    refine ⟨rfl, ?_⟩
    have h3 := hv2 h45
    have : v.toNat ≠ 9223372036854775808 := fun e => h3 (UInt64.toNat_inj.1 e)
    omega
end Go.Proofs.YtiibmpdjkdjbiaaGreatDoor


namespace Go.Proofs.YtiibmpdjkdjbiaaGreatDoor
open Go.Sy
set_option linter.unusedVariables false

theorem hex_tot (s : Str) (i : Int) (h0 : 0 ≤ i) (h1 : i < s.b.length) (hl : s.b.length ≤ 1000000) :
    T (fun (r : Int × Str) => r.1 = -1 ∨ (i < r.1 ∧ r.1 ≤ (s.b.length : Int) ∧ r.2.b.length ≤ s.b.length)) (r04_hex s i) := by
  unfold r04_hex
  refine T.ck (by omega) (T.lp (fun (k : Int) => i + 1 ≤ k ∧ k ≤ (s.b.length : Int)) (fun (k : Int) => ((s.b.length : Int) - k).toNat) ⟨Int.le_refl _, by omega⟩ (by omega) fun L k hk hL => ?_)
  refine T.jp (fun b => b = true → k < s.b.length) (fun J h => T.br (fun h2 => ?_) fun _ => h _ (fun h => by cases h)) fun b hb => ?_
  · have h2 := of_decide_eq_true h2
    refine T.get (by omega) h2 fun y _ => T.eq (digit_eq y) ?_
    refine T.jp (fun _ => True) (fun J2 h3 => T.br (fun _ => h3 _ trivial) fun _ => T.get (by omega) h2 fun y _ => ?_) fun q _ => h _ fun _ => h2
    refine T.jp (fun _ => True) (fun J4 h4 => T.br (fun _ => T.get (by omega) h2 fun _ _ => h4 _ trivial) fun _ => h4 _ trivial) fun q _ => h3 _ trivial
  refine T.br (fun h2 => T.ck (by have := hb h2; omega) (hL _ (by have := hb h2; omega) (by have := hb h2; omega))) fun _ => ?_
  refine T.ck (by omega) (T.asr rfl ?_)
  have hat : ∀ (j : Int) y, y = (if 0 ≤ j then (s.b[j.toNat]?).getD 0 else 0) → y ≠ 0 → 0 ≤ j ∧ j < s.b.length := by
    intro j y hy h0
    split at hy
    · rename_i h3
      refine ⟨h3, ?_⟩
      rcases Nat.lt_or_ge j.toNat s.b.length with h4 | h4
      · omega
      · rw [List.getElem?_eq_none h4] at hy; exact absurd hy h0
    · exact absurd hy h0
  refine T.jp (fun _ => True) (fun J h => T.br (fun _ => h _ trivial) fun _ => T.cal (at_tot s k) fun y _ hy => h _ trivial) fun b1 hb1 => ?_
  refine T.jp (fun b => b = false → k + 1 < s.b.length) (fun J h => T.br (fun _ => h _ (fun h => by cases h)) fun _ => T.ck (by omega) (T.cal (at_tot s (k + 1)) fun y _ hy => h _ fun h4 => ?_)) fun b2 hb2 => ?_
  · have h5 : y = 72 := by simpa using h4
    exact (hat _ _ hy (by rw [h5]; decide)).2
  refine T.br (fun _ => T.some (.inl rfl)) fun h3 => T.ck (by omega) (T.asd ?_ (T.some (.inr ?_)))
  · have := hb2 h3; omega
  · have := hb2 h3
    refine ⟨by dsimp only; omega, by dsimp only; omega, ?_⟩
    simp only [List.length_drop, List.length_take]; omega

theorem quoted_tot (s : Str) (i : Int) (h0 : 0 ≤ i) (h1 : i < s.b.length) (hl : s.b.length ≤ 1000000) :
    T (fun (r : Int × Str) => r.1 = -1 ∨ (i < r.1 ∧ r.1 ≤ (s.b.length : Int) ∧ r.2.b.length ≤ s.b.length)) (r04_quoted s i) := by
  unfold r04_quoted
  refine T.ck (by omega) (T.lp (ι := Int × Str) (fun q => i + 1 ≤ q.1 ∧ q.1 ≤ s.b.length + 1 ∧ (q.2.b.length : Int) < q.1) (fun q => (s.b.length + 1 - q.1).toNat) ⟨Int.le_refl _, by dsimp only; omega, by dsimp only; simp only [List.length_nil]; omega⟩ (by dsimp only; omega) fun L q hq hL => ?_)
  obtain ⟨k, o⟩ := q
  obtain ⟨hq1, hq2, hq3⟩ := hq
  simp only at hq1 hq2 hq3 ⊢
  refine T.br (fun h2 => ?_) fun _ => T.some (.inl rfl)
  have h2 := of_decide_eq_true h2
  refine T.jp (fun (q : Int × Str) => k ≤ q.1 ∧ q.1 < (s.b.length : Int) ∧ (q.2.b.length : Int) < q.1 + 1) (fun J h => ?_) fun q hq => ?_
  · refine T.get (by omega) h2 fun y _ => T.br (fun _ => ?_) fun _ => ?_
    · refine T.ck (by omega) (T.asd (by omega) (T.abl ?_ (h _ ?_)))
      · simp only [List.length_drop, List.length_take]; omega
      · refine ⟨Int.le_refl _, by dsimp only; omega, ?_⟩
        simp only [List.length_append, List.length_drop, List.length_take]; omega
    · refine T.ck (by omega) (T.cal (at_tot s (k + 1)) fun y2 _ hy2 => T.br (fun _ => ?_) fun h34 => ?_)
      · exact T.eq rfl (T.br (fun _ => T.some (.inl rfl)) fun _ => T.ck (by omega) (T.some (.inr ⟨by dsimp only; omega, by dsimp only; omega, by dsimp only; omega⟩)))
      · have hlt : k + 1 < s.b.length := by
          have h5 : y2 = 34 := by simpa using h34
          rw [if_pos (by omega)] at hy2
          rcases Nat.lt_or_ge (k + 1).toNat s.b.length with h4 | h4
          · omega
          · rw [List.getElem?_eq_none h4, h5] at hy2; cases hy2
        refine T.abl ?_ (T.ck (by omega) (h _ ?_))
        · simp only [List.length_cons, List.length_nil]; omega
        · refine ⟨by dsimp only; omega, by dsimp only; omega, ?_⟩
          simp only [List.length_append, List.length_cons, List.length_nil]; omega
  · exact T.ck (by omega) (hL _ ⟨by dsimp only; omega, by dsimp only; omega, hq.2.2⟩ (by dsimp only; omega))

theorem in_string_tot (l : List Str) (x : Str) (hl : l.length ≤ 1000000) : T (fun r => r = decide (x ∈ l)) (h_In_string l x) := by
  unfold h_In_string
  refine T.lp (fun (k : Int) => 0 ≤ k ∧ k ≤ (l.length : Int) ∧ x ∉ l.take k.toNat) (fun (k : Int) => ((l.length : Int) - k).toNat) ⟨Int.le_refl _, by omega, by simp⟩ (by omega) fun L k hk hL => ?_
  refine T.br (fun h2 => ?_) fun h2 => T.some ?_
  · have h2 := of_decide_eq_true h2
    refine T.get hk.1 h2 fun y hy => T.br (fun h3 => T.some ?_) fun h3 => T.ck (by omega) (hL _ ⟨by omega, by omega, ?_⟩ (by omega))
    · have h3 := of_decide_eq_true h3
      subst h3
      exact (decide_eq_true (List.mem_of_getElem? hy)).symm
    · have h3 := of_decide_eq_false h3
      have e : (k + 1).toNat = k.toNat + 1 := by omega
      rw [e, List.take_add_one, hy]
      simp only [Option.toList_some, List.mem_append, List.mem_singleton, not_or]
      exact ⟨hk.2.2, fun h => h3 h.symm⟩
  · have h2 := of_decide_eq_false h2
    have h4 := hk.2.2
    rw [List.take_of_length_le (by omega)] at h4
    exact (decide_eq_false h4).symm

theorem sign_tot (s : Str) (i : Int) (h0 : 0 ≤ i) (h1 : i < s.b.length) (hl : s.b.length ≤ 1000000) : T (fun (r : Int) => 0 ≤ r ∧ i + r ≤ (s.b.length : Int)) (r04_sign s i) := by
  unfold r04_sign
  refine T.asd (by omega) (T.lp (fun (k : Int) => 0 ≤ k) (fun (k : Int) => (13 - k).toNat) (Int.le_refl _) (by omega) fun L k hk hL => ?_)
  refine T.br (fun h2 => ?_) fun _ => T.some ⟨Int.le_refl _, by omega⟩
  have h2 := of_decide_eq_true h2
  have hrest : ((Str.mk ((s.b.take ((s.b.length : Int)).toNat).drop i.toNat)).b.length : Int) = s.b.length - i := by
    simp only [List.length_drop, List.length_take]; omega
  refine T.get hk h2 fun y hy => ?_
  refine T.jp (fun b => b = true → i + (y.b.length : Int) ≤ s.b.length) (fun J h => T.br (fun h3 => ?_) fun _ => h _ (fun h => by cases h)) fun b hb => ?_
  · have h3 := of_decide_eq_true h3
    rw [hrest] at h3
    refine T.asd ⟨Int.le_refl _, by omega, by rw [hrest]; exact h3⟩ (T.get hk h2 fun y2 hy2 => h _ fun _ => by omega)
  · refine T.br (fun h3 => T.some ⟨by omega, hb h3⟩) fun _ => T.ck (by have h2 : k < 13 := h2; omega) (hL _ (by omega) ?_)
    have h2 : k < 13 := h2
    omega

structure TokOk (n : Nat) (t : GTok) : Prop where
  num : t.kind = 3 → NumOk t.text.b
  len : t.text.b.length ≤ n
  at0 : 0 ≤ t.at_ ∧ t.at_ ≤ n
theorem words_len : ∀ r, r04_words = some r → r.length ≤ 1000000 := by
  intro r h
  unfold r04_words at h
  have := Option.some.inj h
  subst this
  decide
theorem word_tot (s : Str) : T (fun _ => True) (r04_Word s) := by
  unfold r04_Word
  refine T.cal (Q := fun _ => True) ⟨_, rfl, trivial⟩ fun y hy _ => T.cal (in_string_tot y s (words_len y hy)) fun _ _ _ => T.some trivial

theorem one_tot (s : Str) (i : Int) (h0 : 0 ≤ i) (h1 : i < s.b.length) (hl : s.b.length ≤ 1000000) :
    T (fun (r : GTok × Int) => r.2 < 0 ∨ (i < r.2 ∧ r.2 ≤ (s.b.length : Int) ∧ TokOk s.b.length r.1 ∧ 1 ≤ r.1.kind ∧ r.1.kind ≤ 7)) (r04_one s i) := by
  unfold r04_one
  refine T.get h0 h1 fun y hy => ?_
  refine T.jp (ι := Int × GTok) (fun (q : Int × GTok) => q.1 < 0 ∨ (i < q.1 ∧ q.1 ≤ (s.b.length : Int) ∧ TokOk s.b.length q.2 ∧ 1 ≤ q.2.kind ∧ q.2.kind ≤ 7)) (fun J h => ?_) fun q hq => T.some hq
  have hsub : ∀ (a b : Nat), ((s.b.take a).drop b).length ≤ s.b.length := fun a b => by rw [List.length_drop, List.length_take]; omega
  refine T.eq (letter_eq y) (T.br (fun hle => ?_) fun _ => T.eq (digit_eq y) ?_)
  · refine T.cal (name_tot s i h0 h1 hl fun y' hy' => by rw [hy] at hy'; cases hy'; exact hle) fun e _ he => T.br (fun _ => T.some (.inl (by dsimp only; omega))) fun hn => ?_
    have hn := of_decide_eq_false hn
    have he' : i < e ∧ e ≤ s.b.length := by omega
    refine T.asd (by omega) (T.jp (ι := GTok) (fun t => (t.kind = 1 ∨ t.kind = 2) ∧ t.text.b.length ≤ s.b.length ∧ t.at_ = i) (fun J2 h2 => T.br (fun _ => h2 _ ⟨.inl rfl, hsub _ _, rfl⟩) fun _ => h2 _ ⟨.inr rfl, hsub _ _, rfl⟩) fun t ht => ?_)
    obtain ⟨ht1, ht2, ht3⟩ := ht
    refine T.cal (word_tot t.text) fun w _ _ => T.br (fun _ => h _ (.inr ⟨he'.1, he'.2, ⟨fun h => by simp at h, ht2, by dsimp only; omega⟩, by simp, by simp⟩)) fun _ => h _ (.inr ⟨he'.1, he'.2, ⟨fun h => by rw [h] at ht1; omega, ht2, by dsimp only; omega⟩, by dsimp only; omega, by dsimp only; omega⟩)
  · refine T.jp (fun _ => True) (fun J2 h2 => T.br (fun _ => h2 _ trivial) fun _ => ?_) fun b _ => ?_
    · refine T.jp (fun _ => True) (fun J3 h3 => T.br (fun _ => T.ck (by omega) (T.cal (at_tot s _) fun y _ _ => T.eq (digit_eq y) (h3 _ trivial))) fun _ => h3 _ trivial) fun _ _ => h2 _ trivial
    refine T.br (fun _ => T.cal (number_tot s i h0 h1 hl) fun e _ he => T.br (fun _ => T.some (.inl (by dsimp only; omega))) fun hn => ?_) fun _ => ?_
    · have hn := of_decide_eq_false hn
      have he' : i < e ∧ e ≤ s.b.length ∧ NumOk ((s.b.take e.toNat).drop i.toNat) := by
        rcases he with h | h
        · omega
        · exact h
      exact T.asd (by omega) (h _ (.inr ⟨he'.1, he'.2.1, ⟨fun _ => he'.2.2, hsub _ _, by dsimp only; omega⟩, by simp, by simp⟩))
    · refine T.br (fun _ => T.cal (hex_tot s i h0 h1 hl) fun e _ he => h _ ?_) fun _ => T.br (fun _ => T.cal (quoted_tot s i h0 h1 hl) fun e _ he => h _ ?_) fun _ => ?_
      · rcases he with h | h
        · left; rw [h]; decide
        · exact .inr ⟨h.1, h.2.1, ⟨fun h => by simp at h, h.2.2, by dsimp only; omega⟩, by simp, by simp⟩
      · rcases he with h | h
        · left; rw [h]; decide
        · exact .inr ⟨h.1, h.2.1, ⟨fun h => by simp at h, h.2.2, by dsimp only; omega⟩, by simp, by simp⟩
      · refine T.cal (sign_tot s i h0 h1 hl) fun e _ he => T.br (fun hp => ?_) fun _ => h _ (.inl (by dsimp only; omega))
        have hp := of_decide_eq_true hp
        exact T.ck (by omega) (T.asd (by omega) (T.ck (by omega) (h _ (.inr ⟨by dsimp only; omega, by dsimp only; omega, ⟨fun h => by simp at h, hsub _ _, by dsimp only; omega⟩, by simp, by simp⟩))))

structure ToksOk (l : List GTok) : Prop where
  len : l.length ≤ 8001
  ok : ∀ t ∈ l, TokOk 8000 t
  last : ∃ m e, l = m ++ [e] ∧ e.kind = 0 ∧ ∀ t ∈ m, 1 ≤ t.kind ∧ t.kind ≤ 7

theorem tokens_tot (s : Str) : T (fun r => r.2.2 = 0 → ToksOk r.1) (r04_Tokens s) := by
  unfold r04_Tokens
  refine T.br (fun _ => T.some (fun h => by cases h)) fun hl => ?_
  have hl := of_decide_eq_false hl
  refine T.lp (ι := List GTok × Int) (fun (q : List GTok × Int) => 0 ≤ q.2 ∧ q.2 ≤ (s.b.length : Int) ∧ (q.1.length : Int) ≤ q.2 ∧ (∀ t ∈ q.1, TokOk 8000 t ∧ 1 ≤ t.kind ∧ t.kind ≤ 7)) (fun (q : List GTok × Int) => ((s.b.length : Int) - q.2).toNat) ⟨Int.le_refl _, by dsimp only; omega, by simp, by simp⟩ (by dsimp only; omega) fun L q hq hL => ?_
  obtain ⟨l, k⟩ := q
  obtain ⟨h1, h2, h3, h4⟩ := hq
  simp only at h1 h2 h3 h4 ⊢
  refine T.cal (white_tot s k h1 h2 (by omega)) fun e _ he => T.br (fun _ => ?_) fun hb => ?_
  · refine T.abl (by simp only [List.length_cons, List.length_nil]; omega) (T.some fun _ => ⟨?_, ?_, ⟨l, _, rfl, rfl, fun t ht => (h4 t ht).2⟩⟩)
    · simp only [List.length_append, List.length_cons, List.length_nil]; omega
    · intro t ht
      rcases List.mem_append.1 ht with h | h
      · exact (h4 t h).1
      · rw [List.mem_singleton.1 h]; exact ⟨fun h => by simp at h, by simp, by dsimp only; omega⟩
  · have hb := of_decide_eq_false hb
    refine T.cal (one_tot s e (by omega) (by omega) (by omega)) fun r _ hr => T.br (fun _ => T.some (fun h => by cases h)) fun hn => ?_
    have hn := of_decide_eq_false hn
    rcases hr with h | ⟨r1, r2, r3, r4, r5⟩
    · exact absurd h hn
    refine T.abl (by simp only [List.length_cons, List.length_nil]; omega) (hL _ ⟨by dsimp only; omega, by dsimp only; omega, ?_, fun t ht => ?_⟩ (by dsimp only; omega))
    · simp only [List.length_append, List.length_cons, List.length_nil]; omega
    · rcases List.mem_append.1 ht with h | h
      · exact h4 t h
      · rw [List.mem_singleton.1 h]; exact ⟨⟨r3.num, by have := r3.len; omega, by have := r3.at0; omega⟩, r4, r5⟩
end Go.Proofs.YtiibmpdjkdjbiaaGreatDoor


namespace Go.Proofs.YtiibmpdjkdjbiaaGreatDoor
open Go.Sy
set_option linter.unusedVariables false

structure Ok (l : List GTok) (m : GMod) (a : Int) (P : Prop) (y : GPar) : Prop where
  toks : ToksOk l
  yl : y.l = l
  ym : y.m = m
  a0 : 0 ≤ y.at_
  a1 : y.at_ < l.length
  ok : y.e = 0 → P ∧ a ≤ y.at_
theorem Ok.to {l m a P y} {a' : Int} {P' : Prop} (h : Ok l m a P y) (k : y.e = 0 → P → a ≤ y.at_ → P' ∧ a' ≤ y.at_) : Ok l m a' P' y := ⟨h.toks, h.yl, h.ym, h.a0, h.a1, fun e => k e (h.ok e).1 (h.ok e).2⟩
theorem Ok.err {l m a P y} {a' : Int} {P' : Prop} (h : Ok l m a P y) (k : ¬ y.e = 0) : Ok l m a' P' y := h.to fun e => absurd e k

def Tk (x : GPar) (t : GTok) : Prop := x.l[x.at_.toNat]? = some t
theorem Tk.ok {l m a P x t} (h : Ok l m a P x) (ht : Tk x t) : TokOk 8000 t := by
  unfold Tk at ht
  rw [h.yl] at ht
  exact h.toks.ok t (List.mem_of_getElem? ht)
theorem Tk.last {l m a P x t} (h : Ok l m a P x) (ht : Tk x t) (hk : t.kind ≠ 0) : x.at_ + 1 < l.length := by
  unfold Tk at ht
  rw [h.yl] at ht
  obtain ⟨m', e, h1, h2, h3⟩ := h.toks.last
  rcases Nat.lt_or_ge (x.at_.toNat + 1) l.length with h4 | h4
  · have := h.a0; omega
  · exfalso
    have h5 := h.a1
    have h6 := h.a0
    have h7 : x.at_.toNat = m'.length := by rw [h1] at h4 h5; simp only [List.length_append, List.length_singleton] at h4 h5; omega
    rw [h1, h7, List.getElem?_append_right (Nat.le_refl _)] at ht
    simp at ht
    subst ht
    exact hk h2

theorem now_tot {l m a P x} (h : Ok l m a P x) : T (fun r => Tk x r.1 ∧ r.2 = x) (r05_parser_now x) := by
  unfold r05_parser_now
  refine T.get h.a0 (by rw [h.yl]; exact h.a1) fun y hy => T.some ⟨hy, rfl⟩
theorem fail_tot {l m a P x} (e : Int) (t : GTok) (h : Ok l m a P x) (he : e ≠ 0) : T (fun r => Ok l m a P r ∧ r.e ≠ 0) (r05_parser_fail x e t) := by
  unfold r05_parser_fail
  refine T.br (fun h1 => T.some ⟨⟨h.toks, h.yl, h.ym, h.a0, h.a1, fun h2 => absurd h2 he⟩, he⟩) fun h1 => T.some ⟨h, of_decide_eq_false h1⟩
theorem next_tot {l m a P x} (h : Ok l m a P x) : T (fun r => Tk x r.1 ∧ Ok l m a P r.2 ∧ (r.1.kind ≠ 0 → r.2.at_ = x.at_ + 1) ∧ r.2.e = x.e) (r05_parser_next x) := by
  unfold r05_parser_next
  have hl := h.toks.len
  have h1 := h.a0
  have h2 := h.a1
  refine T.get h.a0 (by rw [h.yl]; exact h.a1) fun y hy => T.ck (by omega) (T.jp (fun r => Ok l m a P r ∧ (y.kind ≠ 0 → r.at_ = x.at_ + 1) ∧ r.e = x.e) (fun J k => T.br (fun h3 => ?_) fun h3 => k _ ?_) fun q hq => T.some ⟨hy, hq⟩)
  · have h3 := of_decide_eq_true h3
    rw [h.yl] at h3
    refine T.ck (by omega) (k _ ⟨⟨h.toks, h.yl, h.ym, by dsimp only; omega, h3, fun e => ?_⟩, fun _ => rfl, rfl⟩)
    have := h.ok e
    exact ⟨this.1, by dsimp only; omega⟩
  · have h3 := of_decide_eq_false h3
    rw [h.yl] at h3
    exact ⟨h, fun hk => absurd (Tk.last h hy hk) h3, rfl⟩
theorem kind_tot {l m a P x} (k : Int) (hk : 1 ≤ k) (h : Ok l m a P x) : T (fun r => Ok l m a P r.2 ∧ (r.2.e = 0 → x.e = 0 ∧ r.2.at_ = x.at_ + 1 ∧ ∃ t, Tk x t ∧ t.kind = k ∧ r.1 = t.text) ∧ (r.2.e ≠ 0 → r.1 = ⟨[]⟩)) (r05_parser_kind x k) := by
  unfold r05_parser_kind
  refine T.cal (now_tot h) fun ⟨t, x'⟩ _ ⟨ht, hx⟩ => ?_
  subst hx
  dsimp only at ht ⊢
  refine T.jp (fun b => b = false → x'.e = 0 ∧ t.kind = k) (fun J h1 => T.br (fun _ => h1 _ fun h => by cases h) fun h2 => h1 _ fun h3 => ⟨by simpa using h2, by simpa using h3⟩) fun b hb => T.br (fun _ => ?_) fun h2 => ?_
  · exact T.cal (fail_tot _ _ h (by decide)) fun y _ hy => T.some ⟨hy.1, fun e => absurd e hy.2, fun _ => rfl⟩
  · obtain ⟨h3, h4⟩ := hb h2
    refine T.cal (next_tot h) fun y _ hy => T.some ⟨hy.2.1, fun e => ⟨h3, ?_, t, ht, h4, ?_⟩, fun e => absurd (hy.2.2.2.trans h3) e⟩
    · have : y.1 = t := by have := hy.1; unfold Tk at this ht; rw [ht] at this; cases this; rfl
      exact hy.2.2.1 (by rw [this]; omega)
    · have : y.1 = t := by have := hy.1; unfold Tk at this ht; rw [ht] at this; cases this; rfl
      rw [this]
theorem is_tot {l m a P x} (s : Str) (h : Ok l m a P x) : T (fun r => Ok l m a P r.2 ∧ r.2.e = x.e ∧ (r.1 = true → x.e = 0 ∧ r.2.at_ = x.at_ + 1) ∧ (r.1 = false → r.2 = x)) (r05_parser_is x s) := by
  unfold r05_parser_is
  refine T.cal (now_tot h) fun ⟨t, x'⟩ _ ⟨ht, hx⟩ => ?_
  subst hx
  dsimp only at ht ⊢
  refine T.jp (fun b => b = true → x'.e = 0 ∧ t.kind ≠ 0) (fun J h1 => T.br (fun h2 => ?_) fun _ => h1 _ fun h => by cases h) fun b hb => ?_
  · have h2 := of_decide_eq_true h2
    refine T.jp (fun b => b = true → t.kind ≠ 0) (fun J h3 => T.br (fun h4 => h3 _ fun _ => by have := of_decide_eq_true h4; omega) fun _ => h3 _ fun h => by have := of_decide_eq_true h; omega) fun b hb => h1 _ fun h => ⟨h2, hb h⟩
  · refine T.jp (fun b => b = true → x'.e = 0 ∧ t.kind ≠ 0) (fun J h1 => T.br (fun h2 => h1 _ fun _ => hb h2) fun _ => h1 _ fun h => by cases h) fun b2 hb2 => T.br (fun h2 => ?_) fun _ => T.some ⟨h, rfl, (fun h => by cases h), fun _ => rfl⟩
    obtain ⟨h3, h4⟩ := hb2 h2
    refine T.cal (next_tot h) fun y _ hy => T.some ⟨hy.2.1, hy.2.2.2, fun _ => ⟨h3, ?_⟩, fun h => by cases h⟩
    have : y.1 = t := by have := hy.1; unfold Tk at this ht; rw [ht] at this; cases this; rfl
    exact hy.2.2.1 (by rw [this]; exact h4)
theorem must_tot {l m a P x} (s : Str) (h : Ok l m a P x) : T (fun r => Ok l m a P r ∧ (r.e = 0 → x.e = 0 ∧ r.at_ = x.at_ + 1)) (r05_parser_must x s) := by
  unfold r05_parser_must
  refine T.jp (fun q => Ok l m a P q.2 ∧ (q.2.e = 0 → x.e = 0) ∧ (q.1 = false → q.2.e = 0 → q.2.at_ = x.at_ + 1)) (fun J h1 => T.br (fun h2 => T.cal (is_tot s h) fun y _ hy => h1 _ ⟨hy.1, fun _ => of_decide_eq_true h2, fun h3 _ => (hy.2.2.1 (by simpa using h3)).2⟩) fun h2 => h1 _ ⟨h, fun h => h, fun _ h3 => absurd h3 (of_decide_eq_false h2)⟩) fun q hq => T.br (fun h2 => ?_) fun h2 => T.some ⟨hq.1, fun h3 => ⟨hq.2.1 h3, hq.2.2 h2 h3⟩⟩
  refine T.cal (now_tot hq.1) fun ⟨t, x'⟩ _ ⟨ht, hx⟩ => ?_
  subst hx
  exact T.cal (fail_tot _ _ hq.1 (by decide)) fun y _ hy => T.some ⟨hy.1, fun e => absurd e hy.2⟩
theorem begins_tot (t : GTok) : T (fun _ => True) (r05_begins t) := by
  unfold r05_begins
  refine T.lp (fun (k : Int) => 0 ≤ k) (fun (k : Int) => (10 - k).toNat) (Int.le_refl _) (by omega) fun L k hk hL => ?_
  refine T.br (fun h2 => ?_) fun _ => T.some trivial
  have h2 : k < 10 := of_decide_eq_true h2
  refine T.get hk h2 fun y _ => T.jp (fun _ => True) (fun J h3 => T.br (fun _ => T.jp (fun _ => True) (fun J4 h4 => T.br (fun _ => h4 _ trivial) fun _ => h4 _ trivial) fun _ _ => h3 _ trivial) fun _ => h3 _ trivial) fun q _ => T.br (fun _ => T.some trivial) fun _ => T.ck (by omega) (hL _ (by omega) (by omega))
end Go.Proofs.YtiibmpdjkdjbiaaGreatDoor


namespace Go.Proofs.YtiibmpdjkdjbiaaGreatDoor
open Go.Sy
set_option linter.unusedVariables false

theorem whole_tot (s : Str) (h : NumOk s.b) : T (fun r => -9223372036854775808 ≤ r ∧ r ≤ 9223372036854775807) (r05_Whole s) := by
  obtain ⟨ds, hd, hne, hlen, hv⟩ := h
  unfold r05_Whole
  have hlb : s.b.length ≤ 20 ∧ 0 < s.b.length := by
    have : 0 < ds.length := List.length_pos_iff.2 hne
    rcases hv with ⟨h1, _⟩ | ⟨h1, _⟩
    · rw [h1]; omega
    · rw [h1]; simp only [List.length_cons]; omega
  refine T.get (Int.le_refl _) (by omega) fun y1 hy1 => ?_
  refine T.jp (fun q => q.b = ds ∧ (y1 = 45 → 1 ≤ dval ds ∧ dval ds ≤ 9223372036854775808) ∧ (y1 ≠ 45 → dval ds < 9223372036854775808)) (fun J k => T.br (fun h1 => ?_) fun h1 => k _ ?_) fun q hq => ?_
  · have h1 := of_decide_eq_true h1
    refine T.asd (by omega) (k _ ?_)
    rcases hv with ⟨h2, h3⟩ | ⟨h2, h3⟩
    · exfalso
      rw [h2] at hy1
      have := digit_range (hd y1 (List.mem_of_getElem? hy1))
      rw [h1] at this
      have e : (45 : UInt8).toNat = 45 := rfl
      omega
    · refine ⟨?_, fun _ => h3, fun h => absurd h1 h⟩
      dsimp only
      rw [h2]
      simp
  · have h1 := of_decide_eq_false h1
    rcases hv with ⟨h2, h3⟩ | ⟨h2, h3⟩
    · exact ⟨h2, fun h => absurd h h1, fun _ => h3⟩
    · rw [h2] at hy1
      simp at hy1
      exact absurd hy1.symm h1
  · obtain ⟨q1, q2, q3⟩ := hq
    refine T.lp (fun (p : UInt64 × Int) => 0 ≤ p.2 ∧ p.2 ≤ (ds.length : Int) ∧ p.1 = uval (ds.take p.2.toNat)) (fun (p : UInt64 × Int) => ((ds.length : Int) - p.2).toNat) ⟨Int.le_refl _, by dsimp only; omega, rfl⟩ (by dsimp only; omega) fun L p hp hL => ?_
    obtain ⟨v, k⟩ := p
    obtain ⟨p1, p2, p3⟩ := hp
    dsimp only at p1 p2 p3 ⊢
    rw [q1]
    refine T.br (fun h1 => ?_) fun h1 => ?_
    · have h1 := of_decide_eq_true h1
      refine T.get p1 h1 fun y hy => T.ck (by omega) (hL _ ⟨by dsimp only; omega, by dsimp only; omega, ?_⟩ (by dsimp only; omega))
      have e : (k + 1).toNat = k.toNat + 1 := by omega
      dsimp only
      rw [e, List.take_add_one, hy, Option.toList_some, uval_snoc, p3]
    · have h1 := of_decide_eq_false h1
      rw [List.take_of_length_le (by omega)] at p3
      have hn := uval_dval ds hd hlen
      rw [← p3] at hn
      refine T.br (fun h2 => ?_) fun h2 => ?_
      · have h3 := q2 (of_decide_eq_true h2)
        have e : (v - 1).toNat = dval ds - 1 := by
          have e1 : (1 : UInt64).toNat = 1 := rfl
          rw [UInt64.toNat_sub_of_le v 1 (by rw [UInt64.le_iff_toNat_le, e1]; omega), e1, hn]
        rw [e]
        exact T.ck (by omega) (T.ck (by omega) (T.ck (by omega) (T.some (by omega))))
      · have h3 := q3 (of_decide_eq_false h2)
        exact T.ck (by omega) (T.some (by omega))
theorem number_ok {l m a P x} (h : Ok l m a P x) : T (fun r => Ok l m a P r.2 ∧ (r.2.e = 0 → x.e = 0 ∧ r.2.at_ = x.at_ + 1) ∧ -9223372036854775808 ≤ r.1 ∧ r.1 ≤ 9223372036854775807) (r05_parser_number x) := by
  unfold r05_parser_number
  refine T.cal (kind_tot 3 (by decide) h) fun r _ hr => T.br (fun h2 => T.some ⟨hr.1, fun e => ⟨(hr.2.1 e).1, (hr.2.1 e).2.1⟩, by dsimp only; omega, by dsimp only; omega⟩) fun h2 => ?_
  have h2 := of_decide_eq_false h2
  by_cases he : r.2.e = 0
  · obtain ⟨h3, h4, t, h5, h6, h7⟩ := hr.2.1 he
    refine T.cal (whole_tot r.1 (by rw [h7]; exact (Tk.ok h h5).num h6)) fun v _ hv => T.some ⟨hr.1, fun e => ⟨h3, h4⟩, hv⟩
  · exact absurd (hr.2.2 he) h2
theorem bounds_tot {l m a P x} (h : Ok l m a P x) : T (fun r => Ok l m a P r.2 ∧ (r.2.e = 0 → x.e = 0)) (r05_parser_bounds x) := by
  unfold r05_parser_bounds
  refine T.cal (is_tot _ h) fun r _ hr => T.jp (fun q => Ok l m a P q.1 ∧ (q.1.e = 0 → x.e = 0)) (fun J k => T.br (fun _ => T.cal (number_ok hr.1) fun s _ hs => k _ ⟨hs.1, fun e => hr.2.1 ▸ (hs.2.1 e).1⟩) fun _ => k _ ⟨hr.1, fun e => hr.2.1 ▸ e⟩) fun q hq => ?_
  refine T.jp (fun q => Ok l m a P q.1 ∧ (q.1.e = 0 → x.e = 0)) (fun J k => T.cal (is_tot _ hq.1) fun s _ hs => T.br (fun _ => T.cal (is_tot _ hs.1) fun u _ hu => T.br (fun _ => T.cal (number_ok hu.1) fun v _ hv => k _ ⟨hv.1, fun e => hq.2 (hs.2.1 ▸ hu.2.1 ▸ (hv.2.1 e).1)⟩) fun _ => k _ ⟨hu.1, fun e => hq.2 (hs.2.1 ▸ hu.2.1 ▸ e)⟩) fun _ => T.br (fun _ => k _ ⟨hs.1, fun e => hq.2 (hs.2.1 ▸ e)⟩) fun _ => k _ ⟨hs.1, fun e => hq.2 (hs.2.1 ▸ e)⟩) fun q2 hq2 => ?_
  refine T.cal (is_tot _ hq2.1) fun s _ hs => T.jp (fun q => Ok l m a P q.1 ∧ (q.1.e = 0 → x.e = 0)) (fun J k => T.br (fun _ => T.cal (must_tot _ hs.1) fun u _ hu => k _ ⟨hu.1, fun e => hq2.2 (hs.2.1 ▸ (hu.2 e).1)⟩) fun _ => k _ ⟨hs.1, fun e => hq2.2 (hs.2.1 ▸ e)⟩) fun q3 hq3 => T.some hq3
theorem size_tot {l m a P x} (h : Ok l m a P x) : T (fun r => Ok l m a P r.2 ∧ (r.2.e = 0 → x.e = 0)) (r05_parser_size x) := by
  unfold r05_parser_size
  refine T.cal (is_tot _ h) fun r _ hr => T.br (fun _ => T.some ⟨hr.1, fun e => hr.2.1 ▸ e⟩) fun _ => ?_
  refine T.cal (must_tot _ hr.1) fun y1 _ h1 => T.cal (must_tot _ h1.1) fun y2 _ h2 => T.cal (bounds_tot h2.1) fun y3 _ h3 => T.cal (must_tot _ h3.1) fun y4 _ h4 => T.cal (must_tot _ h4.1) fun y5 _ h5 => T.some ⟨h5.1, fun e => ?_⟩
  exact hr.2.1 ▸ (h1.2 (h2.2 (h3.2 (h4.2 (h5.2 e).1).1)).1).1

def I64 (x : Int) : Prop := -9223372036854775808 ≤ x ∧ x ≤ 9223372036854775807
def IOk (n : GNode) : Prop := (∀ it ∈ n.items, I64 it.number) ∧ (n.more = true → 0 ≤ n.root ∧ n.root ≤ n.items.length)
structure SameN (n n' : GNode) : Prop where
  kind : n'.kind = n.kind
  fields : n'.fields = n.fields
  of : n'.of = n.of
theorem items_tot {l m a P x} (n : GNode) (h : Ok l m a P x) (hn : n.items = []) (hm : n.more = false) : T (fun r => Ok l m a P r.1 ∧ (r.1.e = 0 → x.e = 0) ∧ SameN n r.2 ∧ (∀ it ∈ r.2.items, I64 it.number) ∧ 0 ≤ r.2.root ∧ r.2.root ≤ r.2.items.length ∧ r.2.items.length ≤ 8001) (r05_parser_items x n) := by
  unfold r05_parser_items
  have hl := h.toks.len
  refine T.jp (fun q => Ok l m a P q.1 ∧ (q.1.e = 0 → x.e = 0) ∧ SameN n q.2 ∧ IOk q.2 ∧ q.2.items.length ≤ 8001) (fun J k => ?_) fun q hq => T.br (fun _ => T.some ⟨hq.1, hq.2.1, ⟨hq.2.2.1.kind, hq.2.2.1.fields, hq.2.2.1.of⟩, hq.2.2.2.1.1, by dsimp only; omega, Int.le_refl _, hq.2.2.2.2⟩) fun hm2 => T.some ⟨hq.1, hq.2.1, hq.2.2.1, hq.2.2.2.1.1, (hq.2.2.2.1.2 (by simpa using hm2)).1, (hq.2.2.2.1.2 (by simpa using hm2)).2, hq.2.2.2.2⟩
  have ha0 := h.a0
  have ha1 := h.a1
  refine T.lp (fun (q : GPar × GNode) => Ok l m a P q.1 ∧ (q.1.e = 0 → x.e = 0) ∧ SameN n q.2 ∧ (q.2.items.length : Int) ≤ q.1.at_ ∧ IOk q.2) (fun (q : GPar × GNode) => ((l.length : Int) - q.1.at_).toNat) ⟨h, fun e => e, ⟨rfl, rfl, rfl⟩, by dsimp only; rw [hn]; simpa using ha0, by dsimp only; rw [hn]; simp, fun h => by dsimp only at h; rw [hm] at h; cases h⟩ (by dsimp only; omega) fun L q hq hL => ?_
  obtain ⟨y, n1⟩ := q
  obtain ⟨h1, h2, h3, h4, h5⟩ := hq
  dsimp only at h1 h2 h3 h4 h5 ⊢
  refine T.br (fun he => ?_) fun _ => k _ ⟨h1, h2, h3, h5, by have := h1.a1; dsimp only; omega⟩
  have he := of_decide_eq_true he
  refine T.jp (fun _ => True) (fun J2 k2 => T.br (fun _ => k2 _ trivial) fun _ => k2 _ trivial) fun b _ => ?_
  refine T.jp (fun (q : Bool × GPar) => Ok l m a P q.2 ∧ q.2.e = y.e ∧ (q.1 = true → q.2.at_ = y.at_ + 1) ∧ (q.1 = false → q.2.at_ = y.at_)) (fun J3 k3 => T.br (fun _ => T.cal (is_tot _ h1) fun r _ hr => k3 _ ⟨hr.1, hr.2.1, fun e => (hr.2.2.1 e).2, fun e => by rw [hr.2.2.2 e]⟩) fun _ => k3 _ ⟨h1, rfl, (fun h => by cases h), fun _ => rfl⟩) fun q3 hq3 => ?_
  refine T.jp (fun (q : GPar × GNode) => Ok l m a P q.1 ∧ (q.1.e = 0 → q.1.at_ ≥ y.at_ + 1) ∧ SameN n q.2 ∧ (q.2.items.length : Int) ≤ y.at_ + 1 ∧ IOk q.2) (fun J4 k4 => T.br (fun hb => k4 _ ⟨hq3.1, fun _ => by dsimp only; rw [hq3.2.2.1 hb]; omega, ⟨h3.kind, h3.fields, h3.of⟩, by dsimp only; omega, h5.1, fun _ => ⟨by dsimp only; omega, Int.le_refl _⟩⟩) fun hb => ?_) fun q4 hq4 => ?_
  · have hq5 := hq3.2.2.2 hb
    refine T.cal (kind_tot 2 (by decide) hq3.1) fun r _ hr => T.cal (is_tot _ hr.1) fun s _ hs => T.jp (fun (q : GPar × GItem) => Ok l m a P q.1 ∧ (q.1.e = 0 → r.2.e = 0 ∧ q.1.at_ ≥ r.2.at_) ∧ I64 q.2.number) (fun J5 k5 => T.br (fun hb2 => T.cal (number_ok hs.1) fun u _ hu => T.cal (must_tot _ hu.1) fun w _ hw => k5 _ ⟨hw.1, fun e => ?_, hu.2.2⟩) fun hb2 => k5 _ ⟨hs.1, fun e => ⟨hs.2.1 ▸ e, by dsimp only; rw [hs.2.2.2 hb2]; omega⟩, by unfold I64; dsimp only; omega⟩) fun q5 hq5' => T.abl ?_ (k4 _ ⟨hq5'.1, fun e => ?_, ⟨h3.kind, h3.fields, h3.of⟩, ?_, ?_, ?_⟩)
    · have e1 := hw.2 e
      have e2 := hu.2.1 e1.1
      have e3 := hs.2.2.1 hb2
      exact ⟨e3.1, by dsimp only at e ⊢; omega⟩
    · have h9 := h1.a1
      simp only [List.length_singleton]; omega
    · have e1 := hq5'.2.1 e
      have e2 := hr.2.1 e1.1
      dsimp only at e ⊢
      omega
    · simp only [List.length_append, List.length_singleton]; omega
    · intro it hit
      rcases List.mem_append.1 hit with h | h
      · exact h5.1 it h
      · rw [List.mem_singleton.1 h]; exact hq5'.2.2
    · intro hmo
      have := h5.2 hmo
      simp only [List.length_append, List.length_singleton]
      omega
  · refine T.cal (is_tot _ hq4.1) fun r _ hr => T.br (fun hb => k _ ⟨hr.1, fun _ => h2 he, hq4.2.2.1, hq4.2.2.2.2, by have := h1.a1; have := hq4.2.2.2.1; dsimp only; omega⟩) fun hb => ?_
    have hb : r.1 = true := by simpa using hb
    have e1 := hr.2.2.1 hb
    have e2 := hq4.2.1 e1.1
    have e3 := hr.1.a1
    exact hL _ ⟨hr.1, fun _ => h2 he, hq4.2.2.1, by dsimp only; omega, hq4.2.2.2.2⟩ (by dsimp only; omega)
end Go.Proofs.YtiibmpdjkdjbiaaGreatDoor


namespace Go.Proofs.YtiibmpdjkdjbiaaGreatDoor
open Go.Sy
set_option linter.unusedVariables false

theorem hexs_tot (s : Str) (hl : s.b.length ≤ 1000000) : T (fun r => r.length ≤ s.b.length) (r05_Hex s) := by
  unfold r05_Hex
  refine T.lp (fun (q : List UInt8 × Int) => 0 ≤ q.2 ∧ q.2 ≤ (s.b.length : Int) ∧ (q.1.length : Int) ≤ q.2) (fun (q : List UInt8 × Int) => ((s.b.length : Int) - q.2).toNat) ⟨Int.le_refl _, by dsimp only; omega, by simp⟩ (by dsimp only; omega) fun L q hq hL => ?_
  obtain ⟨o, i⟩ := q
  obtain ⟨h1, h2, h3⟩ := hq
  dsimp only at h1 h2 h3 ⊢
  refine T.ck (by omega) (T.br (fun hb => ?_) fun _ => T.some (by omega))
  have hb := of_decide_eq_true hb
  refine T.lp (fun (p : UInt8 × Int) => i ≤ p.2 ∧ p.2 ≤ i + 2) (fun (p : UInt8 × Int) => (i + 2 - p.2).toNat) ⟨Int.le_refl _, by dsimp only; omega⟩ (by dsimp only; omega) fun L2 p hp hL2 => ?_
  obtain ⟨v, k⟩ := p
  obtain ⟨h4, h5⟩ := hp
  dsimp only at h4 h5 ⊢
  refine T.ck (by omega) (T.br (fun hb2 => ?_) fun hb2 => ?_)
  · have hb2 := of_decide_eq_true hb2
    refine T.get (by omega) (by omega) fun y _ => T.get (by omega) (by omega) fun y2 _ => T.jp (fun _ => True) (fun J h6 => T.br (fun _ => T.get (by omega) (by omega) fun _ _ => h6 _ trivial) fun _ => h6 _ trivial) fun u _ => T.asr (by decide) (T.ck (by omega) (hL2 _ ⟨by dsimp only; omega, by dsimp only; omega⟩ (by dsimp only; omega)))
  · refine T.abl ?_ (T.ck (by omega) (hL _ ⟨by dsimp only; omega, by dsimp only; omega, ?_⟩ (by dsimp only; omega)))
    · simp only [List.length_singleton]; omega
    · simp only [List.length_append, List.length_singleton]; omega

def DOk (v : Val) : Prop := v.b.length ≤ 8000 ∧ v.l = [] ∧ v.more = [] ∧ 0 ≤ v.kind ∧ v.kind ≤ 6 ∧ v.rule = 0
theorem Tk.eq {x : GPar} {t t' : GTok} (h : Tk x t) (h' : Tk x t') : t' = t := by unfold Tk at h h'; rw [h] at h'; cases h'; rfl
theorem value_tot {l m a P x} (h : Ok l m a P x) : T (fun r => Ok l m a P r.2 ∧ DOk r.1) (r05_parser_value x) := by
  unfold r05_parser_value
  refine T.cal (now_tot h) fun ⟨t, x'⟩ _ ⟨ht, hx⟩ => ?_
  subst hx
  dsimp only at ht ⊢
  refine T.jp (fun y => Ok l m a P y) (fun J k => T.br (fun _ => k _ h) fun _ => ?_) fun y hy => T.some ⟨hy, Nat.zero_le _, rfl, rfl, of_decide_eq_true rfl, of_decide_eq_true rfl, rfl⟩
  refine T.cal (is_tot _ h) fun y1 _ h1 => T.br (fun _ => T.some ⟨h1.1, ⟨Nat.zero_le _, rfl, rfl, of_decide_eq_true rfl, of_decide_eq_true rfl, rfl⟩⟩) fun b1 => ?_
  refine T.cal (is_tot _ h1.1) fun y2 _ h2 => T.br (fun _ => T.some ⟨h2.1, ⟨Nat.zero_le _, rfl, rfl, of_decide_eq_true rfl, of_decide_eq_true rfl, rfl⟩⟩) fun b2 => ?_
  refine T.cal (is_tot _ h2.1) fun y3 _ h3 => T.br (fun _ => T.some ⟨h3.1, ⟨Nat.zero_le _, rfl, rfl, of_decide_eq_true rfl, of_decide_eq_true rfl, rfl⟩⟩) fun b3 => ?_
  have e : y3.2 = x' := by rw [h3.2.2.2 b3, h2.2.2.2 b2, h1.2.2.2 b1]
  have htl := (Tk.ok h ht).len
  have hnx := next_tot h3.1
  rw [e] at hnx
  refine T.br (fun hk => ?_) fun _ => T.br (fun hk => ?_) fun _ => T.br (fun hk => ?_) fun _ => T.br (fun hk => ?_) fun _ => ?_
  · rw [e]
    refine T.cal hnx fun r _ hr => T.cal (whole_tot r.1.text ?_) fun v _ _ => T.some ⟨hr.2.1, Nat.zero_le _, rfl, rfl, of_decide_eq_true rfl, of_decide_eq_true rfl, rfl⟩
    rw [Tk.eq ht hr.1]; exact (Tk.ok h ht).num (of_decide_eq_true hk)
  · rw [e]
    refine T.cal hnx fun r _ hr => T.abl ?_ (T.some ⟨hr.2.1, ?_, rfl, rfl, of_decide_eq_true rfl, of_decide_eq_true rfl, rfl⟩)
    · rw [Tk.eq ht hr.1]; omega
    · have h9 : r.1.text.b.length ≤ 8000 := by rw [Tk.eq ht hr.1]; omega
      exact h9
  · rw [e]
    refine T.cal hnx fun r _ hr => T.cal (hexs_tot r.1.text ?_) fun v _ hv => T.some ⟨hr.2.1, ?_, rfl, rfl, of_decide_eq_true rfl, of_decide_eq_true rfl, rfl⟩
    · rw [Tk.eq ht hr.1]; omega
    · have h9 : v.length ≤ 8000 := by rw [Tk.eq ht hr.1] at hv; omega
      exact h9
  · rw [e]
    refine T.cal hnx fun r _ hr => T.abl ?_ (T.some ⟨hr.2.1, ?_, rfl, rfl, of_decide_eq_true rfl, of_decide_eq_true rfl, rfl⟩)
    · rw [Tk.eq ht hr.1]; omega
    · have h9 : r.1.text.b.length ≤ 8000 := by rw [Tk.eq ht hr.1]; omega
      exact h9
  · exact T.cal (fail_tot _ _ h3.1 (by decide)) fun y _ hy => k _ hy.1

def kidsOf (n : GNode) : List Int := if n.kind = 11 then [] else n.fields.map (fun f => f.ty) ++ (if n.kind = 10 then [n.of] else [])
def Kids (S : Nat → Nat → Prop) : List Int → Nat → Nat → Prop
  | [], a, b => a = b
  | k :: r, a, b => ∃ c, k = (a : Int) ∧ S a c ∧ Kids S r c b
def Sub : Nat → List GNode → Nat → Nat → Prop
  | 0, _, _, _ => False
  | h + 1, l, i, j => ∃ n, l[i]? = some n ∧ Kids (Sub h l) (kidsOf n) (i + 1) j
theorem Kids.le {S : Nat → Nat → Prop} (hS : ∀ x y, S x y → x ≤ y) : ∀ {r a b}, Kids S r a b → a ≤ b := by
  intro r
  induction r with
  | nil => intro a b h; exact Nat.le_of_eq h
  | cons k r ih => intro a b ⟨c, _, h1, h2⟩; exact Nat.le_trans (hS _ _ h1) (ih h2)
theorem Sub.lt : ∀ {h l i j}, Sub h l i j → i < j := by
  intro h
  induction h with
  | zero => intro l i j h; exact h.elim
  | succ h ih => intro l i j ⟨n, _, h2⟩; exact Kids.le (fun x y h => Nat.le_of_lt (ih h)) h2
theorem Kids.mono {S S' : Nat → Nat → Prop} (hS : ∀ x y, S x y → x ≤ y) : ∀ {r a b}, (∀ x y, a ≤ x → y ≤ b → S x y → S' x y) → Kids S r a b → Kids S' r a b := by
  intro r
  induction r with
  | nil => intro a b _ h; exact h
  | cons k r ih =>
    intro a b hm ⟨c, h0, h1, h2⟩
    have := Kids.le hS h2
    exact ⟨c, h0, hm _ _ (Nat.le_refl _) this h1, ih (fun x y hx hy => hm x y (Nat.le_trans (hS _ _ h1) hx) hy) h2⟩
theorem Kids.snoc {S : Nat → Nat → Prop} {c : Nat} : ∀ {r a b}, Kids S r a b → S b c → Kids S (r ++ [(b : Int)]) a c := by
  intro r
  induction r with
  | nil => intro a b h h2; cases h; exact ⟨c, rfl, h2, rfl⟩
  | cons k r ih => intro a b ⟨d, h0, h1, h3⟩ h2; exact ⟨d, h0, h1, ih h3 h2⟩
theorem Sub.mono : ∀ {h l l' i j}, (∀ k, i ≤ k → k < j → l'[k]? = l[k]?) → Sub h l i j → Sub h l' i j := by
  intro h
  induction h with
  | zero => intro l l' i j _ h; exact h
  | succ h ih =>
    intro l l' i j hl hs
    have hlt := hs.lt
    obtain ⟨n, h1, h2⟩ := hs
    refine ⟨n, by rw [hl i (Nat.le_refl _) hlt]; exact h1, Kids.mono (fun x y h => Nat.le_of_lt h.lt) (fun x y hx hy hs => ih (fun k h3 h4 => hl k (by omega) (by omega)) hs) h2⟩
theorem Kids.monoL {h l l' r a b} (hl : ∀ k, a ≤ k → k < b → l'[k]? = l[k]?) (hk : Kids (Sub h l) r a b) : Kids (Sub h l') r a b :=
  Kids.mono (fun x y h => Nat.le_of_lt h.lt) (fun x y hx hy hs => hs.mono fun k h3 h4 => hl k (by omega) (by omega)) hk
def KOk (l : List GNode) (i j : Nat) : Prop := ∀ (p : Nat) n, i ≤ p → p < j → l[p]? = some n → 1 ≤ n.kind ∧ n.kind ≤ 11
def SubK (h : Nat) (l : List GNode) (i j : Nat) : Prop := Sub h l i j ∧ KOk l i j
theorem SubK.mono {h : Nat} {l l' : List GNode} {i j : Nat} (hl : ∀ k, i ≤ k → k < j → l'[k]? = l[k]?) (hs : SubK h l i j) : SubK h l' i j := ⟨hs.1.mono hl, fun p n h1 h2 h3 => hs.2 p n h1 h2 (by rw [← hl p h1 h2]; exact h3)⟩
theorem KidsK.monoL {h : Nat} {l l' : List GNode} {r : List Int} {a b : Nat} (hl : ∀ k, a ≤ k → k < b → l'[k]? = l[k]?) (hk : Kids (SubK h l) r a b) : Kids (SubK h l') r a b :=
  Kids.mono (fun x y h => Nat.le_of_lt h.1.lt) (fun x y hx hy hs => hs.mono fun k h3 h4 => hl k (by omega) (by omega)) hk
theorem KidsK.sub {h : Nat} {l : List GNode} {r : List Int} {a b : Nat} (hk : Kids (SubK h l) r a b) : Kids (Sub h l) r a b :=
  Kids.mono (fun x y h => Nat.le_of_lt h.1.lt) (fun x y _ _ hs => hs.1) hk
theorem KidsK.kinds {h : Nat} {l : List GNode} : ∀ {r : List Int} {a b : Nat}, Kids (SubK h l) r a b → KOk l a b
  | [], a, b, hk => fun p n h1 h2 _ => by have hk : a = b := hk; omega
  | k :: r, a, b, ⟨c, h0, h1, h2⟩ => fun p n h3 h4 h5 => by
    by_cases hp : p < c
    · exact h1.2 p n h3 hp h5
    · exact KidsK.kinds h2 p n (by omega) h4 h5
theorem SubK.mk {h : Nat} {l : List GNode} {i j : Nat} {n : GNode} (e : l[i]? = some n) (hk : Kids (SubK h l) (kidsOf n) (i + 1) j) (ko : 1 ≤ n.kind ∧ n.kind ≤ 11) : SubK (h + 1) l i j :=
  ⟨⟨n, e, KidsK.sub hk⟩, fun p q h1 h2 h3 => by
    by_cases hp : p = i
    · subst hp; rw [e] at h3; cases h3; exact ko
    · exact KidsK.kinds hk p q (by omega) h2 h3⟩
def FD (f : GFld) : Prop := DOk f.dflt ∧ ¬ (f.has = true ∧ f.optional = true)
def FOk (n : GNode) : Prop := ∀ f ∈ n.fields, FD f
structure NodeOk (n : GNode) : Prop where
  root0 : 0 ≤ n.root
  items : n.kind = 3 → n.root ≤ n.items.length
  nums : ∀ it ∈ n.items, I64 it.number
  ilen : n.items.length ≤ 8001
  fields : n.kind = 7 ∨ n.kind = 8 ∨ n.kind = 9 → n.root ≤ n.fields.length
  dflt : FOk n
  rootZ : n.kind ≠ 3 → ¬ (n.kind = 7 ∨ n.kind = 8 ∨ n.kind = 9) → n.root = 0
structure Grow (m m' : GMod) : Prop where
  name : m'.name = m.name
  tagging : m'.tagging = m.tagging
  names : m'.names = m.names
  types : m'.types = m.types
  le : m.nodes.length ≤ m'.nodes.length
  lim : m'.nodes.length ≤ 300
  pre : ∀ i, i < m.nodes.length → m'.nodes[i]? = m.nodes[i]?
  ok : (∀ n ∈ m.nodes, NodeOk n) → ∀ n ∈ m'.nodes, NodeOk n
theorem Grow.refl {m : GMod} (h : m.nodes.length ≤ 300) : Grow m m := ⟨rfl, rfl, rfl, rfl, Nat.le_refl _, h, fun _ _ => rfl, fun h => h⟩
theorem Grow.trans {m m' m'' : GMod} (h : Grow m m') (h' : Grow m' m'') : Grow m m'' :=
  ⟨h'.name.trans h.name, h'.tagging.trans h.tagging, h'.names.trans h.names, h'.types.trans h.types, Nat.le_trans h.le h'.le, h'.lim, fun i hi => (h'.pre i (Nat.lt_of_lt_of_le hi h.le)).trans (h.pre i hi), fun k => h'.ok (h.ok k)⟩
end Go.Proofs.YtiibmpdjkdjbiaaGreatDoor


namespace Go.Proofs.YtiibmpdjkdjbiaaGreatDoor
open Go.Sy
set_option linter.unusedVariables false

def NI (n q : GNode) : Prop := q.kind = n.kind ∧ FOk q ∧ (q.more = true → 0 ≤ q.root ∧ q.root ≤ q.fields.length)
def FX (n r : GNode) : Prop := r.kind = n.kind ∧ r.more = n.more ∧ r.root = n.root ∧ (FOk n → FOk r)
theorem NI.next {n q r : GNode} (h : NI n q) (k : FX q r) (hl : r.fields.length = q.fields.length + 1) : NI n r :=
  ⟨k.1.trans h.1, k.2.2.2 h.2.1, fun e => by have := h.2.2 (k.2.1 ▸ e); rw [k.2.2.1, hl]; omega⟩
def TypS (l : List GTok) (f : GPar → Int → Option (Int × GPar)) (D : Nat) : Prop := ∀ x m a P (d : Int), Ok l m a P x → m.nodes.length ≤ 300 → 0 ≤ d → d + D = 17 →
  T (fun r => ∃ m', Grow m m' ∧ Ok l m' a (P ∧ r.1 = (m.nodes.length : Int) ∧ SubK D m'.nodes m.nodes.length m'.nodes.length) r.2) (f x d)
def BaseS (l : List GTok) (f : GPar → GNode → Int → Option (GPar × GNode)) (D : Nat) : Prop := ∀ x n m a P (d : Int), Ok l m a P x → m.nodes.length ≤ 300 → 0 ≤ d → d + D = 16 → n.fields = [] → n.items = [] → n.kind = 0 → n.more = false → n.root = 0 →
  T (fun r => (∃ m', Grow m m' ∧ Ok l m' a (P ∧ Kids (SubK D m'.nodes) (kidsOf r.2) m.nodes.length m'.nodes.length ∧ (1 ≤ r.2.kind ∧ r.2.kind ≤ 11)) r.1) ∧ NodeOk r.2) (f x n d)
def FieldsS (l : List GTok) (f : GPar → GNode → Int → Option (GPar × GNode)) (D : Nat) : Prop := ∀ x n m a P (d : Int), Ok l m a P x → m.nodes.length ≤ 300 → 0 ≤ d → d + D = 16 → n.fields = [] → n.more = false → n.root = 0 →
  T (fun r => (∃ m', Grow m m' ∧ Ok l m' a (P ∧ Kids (SubK D m'.nodes) (r.2.fields.map (fun f => f.ty)) m.nodes.length m'.nodes.length) r.1) ∧ r.2.kind = n.kind ∧ r.2.items = n.items ∧ FOk r.2 ∧ 0 ≤ r.2.root ∧ r.2.root ≤ r.2.fields.length) (f x n d)
def FieldS (l : List GTok) (f : GPar → GNode → Int → Int → Option (GPar × GNode)) (D : Nat) : Prop := ∀ x n m a P (d g : Int) b0, Ok l m a (P ∧ Kids (SubK D m.nodes) (n.fields.map (fun f => f.ty)) b0 m.nodes.length) x → m.nodes.length ≤ 300 → 0 ≤ d → d + D = 16 → (n.fields.length : Int) ≤ x.at_ → b0 ≤ m.nodes.length →
  T (fun r => (∃ m', Grow m m' ∧ Ok l m' a (P ∧ Kids (SubK D m'.nodes) (r.2.fields.map (fun f => f.ty)) b0 m'.nodes.length ∧ x.at_ + 1 ≤ r.1.at_) r.1) ∧ (FX n r.2 ∧ r.2.items = n.items) ∧ r.2.fields.length = n.fields.length + 1) (f x n d g)

theorem field_step {l F Ty B Fs D} (hT : TypS l Ty D) : FieldS l (r05_parser_field_F F Ty B Fs) D := by
  intro x n m a P d g b0 h hm hd0 hd hn hb
  unfold r05_parser_field_F
  have hl := h.toks.len
  have ha := h.a1
  refine T.cal (kind_tot 2 (by decide) h) fun r _ hr => T.ck (by omega) ?_
  have h1 : Ok l m (x.at_ + 1) ((P ∧ Kids (SubK D m.nodes) (n.fields.map (fun f => f.ty)) b0 m.nodes.length) ∧ a ≤ x.at_) r.2 := hr.1.to fun e h2 h3 => ⟨⟨h2, (h.ok (hr.2.1 e).1).2⟩, by have := hr.2.1 e; omega⟩
  refine T.cal (hT _ _ _ _ (d + 1) h1 hm (by omega) (by omega)) fun s _ ⟨m', hg, hs⟩ => ?_
  refine T.jp (fun q => Ok l m' (x.at_ + 1) (((P ∧ Kids (SubK D m.nodes) (n.fields.map (fun f => f.ty)) b0 m.nodes.length) ∧ a ≤ x.at_) ∧ s.1 = (m.nodes.length : Int) ∧ SubK D m'.nodes m.nodes.length m'.nodes.length) q.2 ∧ q.1.ty = s.1 ∧ FD q.1) (fun J k => ?_) fun q hq => ?_
  · refine T.br (fun _ => k _ ⟨hs, rfl, ⟨Nat.zero_le _, rfl, rfl, of_decide_eq_true rfl, of_decide_eq_true rfl, rfl⟩, by simp⟩) fun _ => T.cal (is_tot _ hs) fun y1 _ e1 => T.br (fun _ => k _ ⟨e1.1, rfl, ⟨Nat.zero_le _, rfl, rfl, of_decide_eq_true rfl, of_decide_eq_true rfl, rfl⟩, by simp⟩) fun _ => T.cal (is_tot _ e1.1) fun y2 _ e2 => T.br (fun _ => T.cal (value_tot e2.1) fun y3 _ e3 => k _ ⟨e3.1, rfl, e3.2, by simp⟩) fun _ => k _ ⟨e2.1, rfl, ⟨Nat.zero_le _, rfl, rfl, of_decide_eq_true rfl, of_decide_eq_true rfl, rfl⟩, by simp⟩
  · refine T.abl (by simp only [List.length_singleton]; omega) (T.some ⟨⟨m', hg, hq.1.to fun e ⟨⟨⟨p1, p2⟩, p3⟩, p4, p5⟩ p6 => ⟨⟨p1, ?_, p6⟩, ?_⟩⟩, ⟨⟨rfl, rfl, rfl, fun hf f hf2 => ?_⟩, rfl⟩, by simp⟩)
    rotate_left 2
    · rcases List.mem_append.1 hf2 with h | h
      · exact hf f h
      · rw [List.mem_singleton.1 h]; exact hq.2.2
    · dsimp only
      rw [List.map_append, List.map_singleton, hq.2.1, p4]
      exact (KidsK.monoL (fun k hk1 hk2 => hg.pre k hk2) p2).snoc p5
    · omega

theorem fields_step {l F Ty B Fs D} (hF : FieldS l F D) : FieldsS l (r05_parser_fields_F F Ty B Fs) D := by
  intro x n m a P d h hm hd0 hd hn hnm hnr
  have hni : NI n n := ⟨rfl, by unfold FOk; rw [hn]; simp, fun h => by rw [hnm] at h; cases h⟩
  unfold r05_parser_fields_F
  have hl := h.toks.len
  have ha0 := h.a0
  have ha1 := h.a1
  have hk0 : Kids (SubK D m.nodes) (n.fields.map (fun f => f.ty)) m.nodes.length m.nodes.length := by rw [hn]; rfl
  refine T.cal (is_tot _ h) fun r _ hr => T.br (fun _ => T.some ⟨⟨m, Grow.refl hm, hr.1.to fun e p1 p2 => ⟨⟨p1, hk0⟩, p2⟩⟩, rfl, rfl, hni.2.1, by dsimp only; omega, by dsimp only; omega⟩) fun hb => ?_
  have hrx := hr.2.2.2 hb
  -- what holds between
  refine T.jp (fun (q : GPar × GNode) => (∃ m', Grow m m' ∧ Ok l m' a (P ∧ Kids (SubK D m'.nodes) (q.2.fields.map (fun f => f.ty)) m.nodes.length m'.nodes.length) q.1) ∧ (NI n q.2 ∧ q.2.items = n.items)) (fun J k => ?_) fun q ⟨⟨m', hg, hq⟩, hqk⟩ => ?_
  · refine T.lp (fun (q : Int × GPar × GNode) => ((∃ m', Grow m m' ∧ Ok l m' a (P ∧ Kids (SubK D m'.nodes) (q.2.2.fields.map (fun f => f.ty)) m.nodes.length m'.nodes.length) q.2.1) ∧ (NI n q.2.2 ∧ q.2.2.items = n.items)) ∧ 0 ≤ q.1 ∧ q.1 ≤ q.2.1.at_ ∧ (q.2.2.fields.length : Int) ≤ q.2.1.at_) (fun (q : Int × GPar × GNode) => ((l.length : Int) - q.2.1.at_).toNat) ⟨⟨⟨m, Grow.refl hm, hr.1.to fun e p1 p2 => ⟨⟨p1, hk0⟩, p2⟩⟩, ⟨hni, rfl⟩⟩, Int.le_refl _, by dsimp only; rw [hrx]; exact ha0, by dsimp only; rw [hrx, hn]; exact ha0⟩ (by dsimp only; rw [hrx]; omega) fun L q hq hL => ?_
    obtain ⟨g, y, n1⟩ := q
    obtain ⟨⟨⟨m1, hg1, h1⟩, hk1⟩, h2, h3, h4⟩ := hq
    dsimp only at h1 h2 h3 h4 hk1 ⊢
    have hy1 := h1.a1
    refine T.br (fun he => ?_) fun _ => k _ ⟨⟨m1, hg1, h1⟩, hk1⟩
    have he := of_decide_eq_true he
    refine T.jp (fun (q : Int × GPar × GNode) => ((∃ m', Grow m m' ∧ Ok l m' a (P ∧ Kids (SubK D m'.nodes) (q.2.2.fields.map (fun f => f.ty)) m.nodes.length m'.nodes.length) q.2.1) ∧ (NI n q.2.2 ∧ q.2.2.items = n.items)) ∧ 0 ≤ q.1 ∧ (q.2.1.e = 0 → q.1 ≤ q.2.1.at_ + 1 ∧ (q.2.2.fields.length : Int) ≤ q.2.1.at_ + 1 ∧ y.at_ ≤ q.2.1.at_)) (fun J2 k2 => ?_) fun q hq => ?_
    · refine T.jp (fun (q : Bool × GPar) => Ok l m1 a (P ∧ Kids (SubK D m1.nodes) (n1.fields.map (fun f => f.ty)) m.nodes.length m1.nodes.length) q.2 ∧ q.2.at_ ≥ y.at_ ∧ (q.1 = false → q.2 = y)) (fun J3 k3 => T.br (fun _ => T.cal (is_tot _ h1) fun u _ hu => k3 _ ⟨hu.1, ?_, hu.2.2.2⟩) fun _ => k3 _ ⟨h1, Int.le_refl _, fun _ => rfl⟩) fun q3 hq3 => ?_
      · cases hu1 : u.1 with
        | true => have := hu.2.2.1 hu1; dsimp only; omega
        | false => have := hu.2.2.2 hu1; dsimp only; rw [this]; omega
      refine T.br (fun _ => k2 _ ⟨⟨⟨m1, hg1, hq3.1⟩, ⟨⟨hk1.1.1, hk1.1.2.1, fun _ => ⟨by dsimp only; omega, Int.le_refl _⟩⟩, hk1.2⟩⟩, h2, fun _ => ⟨by dsimp only; omega, by dsimp only; omega, by dsimp only; omega⟩⟩) fun b3 => ?_
      have e3 := hq3.2.2 b3
      refine T.jp (fun (q : Bool × GPar) => Ok l m1 a (P ∧ Kids (SubK D m1.nodes) (n1.fields.map (fun f => f.ty)) m.nodes.length m1.nodes.length) q.2 ∧ q.2.at_ ≥ y.at_ ∧ (q.1 = true → q.2.at_ ≥ y.at_ + 1) ∧ (q.1 = false → q.2 = y)) (fun J3 k3 => T.br (fun _ => T.cal (is_tot _ hq3.1) fun u _ hu => k3 _ ⟨hu.1, ?_, fun hu1 => ?_, fun hu1 => ?_⟩) fun _ => k3 _ ⟨hq3.1, by dsimp only; omega, (fun h => by cases h), fun _ => e3⟩) fun q4 hq4 => ?_
      · cases hu1 : u.1 with
        | true => have := hu.2.2.1 hu1; dsimp only; omega
        | false => have := hu.2.2.2 hu1; dsimp only; rw [this]; omega
      · have := hu.2.2.1 hu1; dsimp only; omega
      · have := hu.2.2.2 hu1; dsimp only; rw [this, e3]
      refine T.br (fun b4 => T.ck (by omega) ?_) fun b4 => ?_
      · have a4 := hq4.2.2.1 b4
        have a5 := hq4.1.a1
        refine T.jp (fun (q : GPar × GNode) => (∃ m', Grow m m' ∧ Ok l m' a (P ∧ Kids (SubK D m'.nodes) (q.2.fields.map (fun f => f.ty)) m.nodes.length m'.nodes.length) q.1) ∧ (NI n q.2 ∧ q.2.items = n.items) ∧ (q.1.e = 0 → (q.2.fields.length : Int) ≤ q.1.at_ + 1 ∧ q4.2.at_ ≤ q.1.at_)) (fun J5 k5 => ?_) fun q ⟨⟨m2, hg2, hq⟩, hqk, hql⟩ => ?_
        · refine T.lp (fun (q : GPar × GNode) => (∃ m', Grow m m' ∧ Ok l m' a (P ∧ Kids (SubK D m'.nodes) (q.2.fields.map (fun f => f.ty)) m.nodes.length m'.nodes.length) q.1) ∧ (NI n q.2 ∧ q.2.items = n.items) ∧ (q.2.fields.length : Int) ≤ q.1.at_ ∧ q4.2.at_ ≤ q.1.at_) (fun (q : GPar × GNode) => ((l.length : Int) - q.1.at_).toNat) ⟨⟨m1, hg1, hq4.1⟩, hk1, by dsimp only; omega, Int.le_refl _⟩ (by have := hq4.1.a0; dsimp only; omega) fun L6 q ⟨⟨m2, hg2, hq⟩, hqk, hql, hqa⟩ hL6 => ?_
          refine T.br (fun b6 => ?_) fun _ => k5 _ ⟨⟨m2, hg2, hq⟩, hqk, fun _ => ⟨by dsimp only; omega, hqa⟩⟩
          refine T.cal (hF _ _ _ _ _ _ _ _ hq hg2.lim hd0 hd hql hg2.le) fun s _ ⟨⟨m3, hg3, hs⟩, hsk, hsl⟩ => T.cal (is_tot _ hs) fun u _ hu => T.br (fun b7 => k5 _ ⟨⟨m3, hg2.trans hg3, hu.1.to fun e ⟨p1, p2, p3⟩ p4 => ⟨⟨p1, p2⟩, p4⟩⟩, ⟨hqk.1.next hsk.1 hsl, hsk.2.trans hqk.2⟩, fun e => ?_⟩) fun b7 => ?_
          · have b7 : u.1 = false := by simpa using b7
            have e7 := hu.2.2.2 b7
            have e8 := (hs.ok (by rw [← e7]; exact e)).1.2.2
            dsimp only
            rw [e7]
            exact ⟨by omega, by omega⟩
          · have b7 : u.1 = true := by simpa using b7
            have e7 := hu.2.2.1 b7
            have e8 := (hs.ok e7.1).1.2.2
            have e9 := hu.1.a1
            exact hL6 _ ⟨⟨m3, hg2.trans hg3, hu.1.to fun e ⟨p1, p2, p3⟩ p4 => ⟨⟨p1, p2⟩, p4⟩⟩, ⟨hqk.1.next hsk.1 hsl, hsk.2.trans hqk.2⟩, by dsimp only; omega, by dsimp only; omega⟩ (by dsimp only; omega)
        · refine T.cal (must_tot _ hq) fun w _ hw => k2 _ ⟨⟨⟨m2, hg2, hw.1⟩, hqk⟩, by dsimp only; omega, fun e => ?_⟩
          have e1 := hw.2 e
          have e2 := hql e1.1
          dsimp only
          omega
      · have e4 := hq4.2.2.2 b4
        refine T.cal (hF _ _ _ _ _ _ (0 : Int) _ hq4.1 hg1.lim hd0 hd (by rw [e4]; exact h4) hg1.le) fun s _ ⟨⟨m3, hg3, hs⟩, hsk, hsl⟩ => k2 _ ⟨⟨⟨m3, hg1.trans hg3, hs.to fun e ⟨p1, p2, p3⟩ p4 => ⟨⟨p1, p2⟩, p4⟩⟩, ⟨hk1.1.next hsk.1 hsl, hsk.2.trans hk1.2⟩⟩, h2, fun e => ?_⟩
        have e8 := (hs.ok e).1.2.2
        rw [e4] at e8
        dsimp only
        omega
    · obtain ⟨⟨⟨m2, hg2, hq1⟩, hqk⟩, hq0, hql⟩ := hq
      refine T.cal (is_tot _ hq1) fun u _ hu => T.br (fun b7 => k _ ⟨⟨m2, hg2, hu.1⟩, hqk⟩) fun b7 => ?_
      have b7 : u.1 = true := by simpa using b7
      have e7 := hu.2.2.1 b7
      have e8 := hql e7.1
      have e9 := hu.1.a1
      exact hL _ ⟨⟨⟨m2, hg2, hu.1⟩, hqk⟩, hq0, by dsimp only; omega, by dsimp only; omega⟩ (by dsimp only; omega)
  · refine T.cal (must_tot _ hq) fun w _ hw => T.br (fun _ => T.some ⟨⟨m', hg, hw.1⟩, hqk.1.1, hqk.2, hqk.1.2.1, by dsimp only; omega, Int.le_refl _⟩) fun hmo => T.some ⟨⟨m', hg, hw.1⟩, hqk.1.1, hqk.2, hqk.1.2.1, hqk.1.2.2 (by simpa using hmo)⟩
end Go.Proofs.YtiibmpdjkdjbiaaGreatDoor


namespace Go.Proofs.YtiibmpdjkdjbiaaGreatDoor
open Go.Sy
set_option linter.unusedVariables false

theorem kidsOf_nil {n : GNode} (h : n.fields = []) (hk : n.kind ≠ 10) : kidsOf n = [] := by
  unfold kidsOf; rw [h, if_neg hk]; split <;> rfl
theorem kidsOf_fields {n : GNode} (h : n.kind ≠ 11) (hk : n.kind ≠ 10) : kidsOf n = n.fields.map (fun f => f.ty) := by
  unfold kidsOf; rw [if_neg h, if_neg hk, List.append_nil]

theorem base_step {l F Ty B Fs D} (hT : TypS l Ty D) (hF : FieldsS l Fs D) : BaseS l (r05_parser_base_F F Ty B Fs) D := by
  intro x n m a P d h hm hd0 hd hn hi hk hmo hro
  unfold r05_parser_base_F
  have nok : ∀ n' : GNode, n'.fields = [] → n'.items = [] → n'.root = 0 → NodeOk n' := fun n' h1 h2 h3 => ⟨by omega, fun _ => by omega, by rw [h2]; simp, by rw [h2]; simp, fun _ => by omega, by unfold FOk; rw [h1]; simp, fun _ _ => h3⟩
  have leaf0 : ∀ y n', Ok l m a P y → n'.fields = [] → (n'.kind ≠ 10 ∧ 1 ≤ n'.kind ∧ n'.kind ≤ 11) → ∃ m', Grow m m' ∧ Ok l m' a (P ∧ Kids (SubK D m'.nodes) (kidsOf n') m.nodes.length m'.nodes.length ∧ (1 ≤ n'.kind ∧ n'.kind ≤ 11)) y := fun y n' hy h1 h2 => ⟨m, Grow.refl hm, hy.to fun e p1 p2 => ⟨⟨p1, by rw [kidsOf_nil h1 h2.1]; rfl, h2.2⟩, p2⟩⟩
  have leaf : ∀ y n', Ok l m a P y → n'.fields = [] → n'.items = [] → n'.root = 0 → (n'.kind ≠ 10 ∧ 1 ≤ n'.kind ∧ n'.kind ≤ 11) → (∃ m', Grow m m' ∧ Ok l m' a (P ∧ Kids (SubK D m'.nodes) (kidsOf n') m.nodes.length m'.nodes.length ∧ (1 ≤ n'.kind ∧ n'.kind ≤ 11)) y) ∧ NodeOk n' := fun y n' hy h1 h3 h4 h2 => ⟨leaf0 y n' hy h1 h2, nok n' h1 h3 h4⟩
  have leaf2 : ∀ (r : GPar × GNode) (n0 : GNode), ((∃ m', Grow m m' ∧ Ok l m' a (P ∧ Kids (SubK D m'.nodes) (r.2.fields.map (fun f => f.ty)) m.nodes.length m'.nodes.length) r.1) ∧ r.2.kind = n0.kind ∧ r.2.items = n0.items ∧ FOk r.2 ∧ 0 ≤ r.2.root ∧ r.2.root ≤ r.2.fields.length) → n0.items = [] → n0.kind ≠ 11 → n0.kind ≠ 10 → n0.kind ≠ 3 → (n0.kind = 7 ∨ n0.kind = 8 ∨ n0.kind = 9) → (∃ m', Grow m m' ∧ Ok l m' a (P ∧ Kids (SubK D m'.nodes) (kidsOf r.2) m.nodes.length m'.nodes.length ∧ (1 ≤ r.2.kind ∧ r.2.kind ≤ 11)) r.1) ∧ NodeOk r.2 := fun r n0 h0 hi0 h1 h2 h3 h4 => by
    obtain ⟨k0, k1, k2, k3, k4, k5⟩ := h0
    rw [← k1] at h1 h2 h3 h4
    refine ⟨by
      rw [kidsOf_fields h1 h2]
      obtain ⟨m', g1, g2⟩ := k0
      exact ⟨m', g1, g2.to fun e ⟨p1, p2⟩ p3 => ⟨⟨p1, p2, by omega⟩, p3⟩⟩, k4, fun e => absurd e h3, by rw [k2, hi0]; simp, by rw [k2, hi0]; simp, fun _ => k5, k3, fun _ e => absurd h4 e⟩
  refine T.cal (now_tot h) fun ⟨t, x'⟩ _ ⟨ht, hx⟩ => ?_
  subst hx
  dsimp only at ht ⊢
  refine T.br (fun he => T.some ⟨⟨m, Grow.refl hm, h.err (by simpa using he)⟩, nok _ hn hi hro⟩) fun _ => ?_
  refine T.cal (is_tot _ h) fun y1 _ h1 => T.br (fun _ => T.some (leaf _ _ h1.1 hn hi hro (by dsimp only; decide))) fun b1 => ?_
  refine T.cal (is_tot _ h1.1) fun y2 _ h2 => T.br (fun _ => T.some (leaf _ _ h2.1 hn hi hro (by dsimp only; decide))) fun b2 => ?_
  refine T.cal (is_tot _ h2.1) fun y3 _ h3 => T.br (fun _ => T.cal (size_tot h3.1) fun s _ hs => T.some (leaf _ _ hs.1 hn hi hro (by dsimp only; decide))) fun b3 => ?_
  refine T.cal (is_tot _ h3.1) fun y4 _ h4 => T.br (fun _ => T.cal (is_tot _ h4.1) fun s _ hs => T.br (fun _ => T.cal (bounds_tot hs.1) fun u _ hu => T.cal (must_tot _ hu.1) fun w _ hw => T.some (leaf _ _ hw.1 hn hi hro (by dsimp only; decide))) fun _ => T.some (leaf _ _ hs.1 hn hi hro (by dsimp only; decide))) fun b4 => ?_
  refine T.cal (is_tot _ h4.1) fun y5 _ h5 => T.br (fun _ => T.cal (must_tot _ h5.1) fun s _ hs => T.cal (size_tot hs.1) fun u _ hu => T.some (leaf _ _ hu.1 hn hi hro (by dsimp only; decide))) fun b5 => ?_
  refine T.cal (is_tot _ h5.1) fun y6 _ h6 => T.br (fun _ => T.cal (must_tot _ h6.1) fun s _ hs => T.cal (items_tot _ hs.1 hi hmo) fun u _ hu => T.cal (must_tot _ hu.1) fun w _ hw => T.some ⟨leaf0 _ _ hw.1 (hu.2.2.1.fields.trans hn) (by rw [hu.2.2.1.kind]; dsimp only; decide), hu.2.2.2.2.1, fun _ => hu.2.2.2.2.2.1, hu.2.2.2.1, hu.2.2.2.2.2.2, fun e => by rw [hu.2.2.1.kind] at e; dsimp only at e; omega, by unfold FOk; rw [hu.2.2.1.fields, hn]; simp, fun e _ => absurd hu.2.2.1.kind e⟩) fun b6 => ?_
  refine T.cal (is_tot _ h6.1) fun y7 _ h7 => T.br (fun _ => T.cal (must_tot _ h7.1) fun s _ hs => T.cal (hF _ _ _ _ _ _ hs.1 hm hd0 hd hn hmo hro) fun u _ hu => T.some (leaf2 _ _ hu hi (by dsimp only; decide) (by dsimp only; decide) (by dsimp only; decide) (by dsimp only; decide))) fun b7 => ?_
  refine T.cal (is_tot _ h7.1) fun y8 _ h8 => T.br (fun _ => T.cal (must_tot _ h8.1) fun s _ hs => T.cal (hF _ _ _ _ _ _ hs.1 hm hd0 hd hn hmo hro) fun u _ hu => T.some (leaf2 _ _ hu hi (by dsimp only; decide) (by dsimp only; decide) (by dsimp only; decide) (by dsimp only; decide))) fun b8 => ?_
  refine T.cal (is_tot _ h8.1) fun y9 _ h9 => T.br (fun _ => T.cal (is_tot _ h9.1) fun s _ hs => T.br (fun _ => T.cal (hF _ _ _ _ _ _ hs.1 hm hd0 hd hn hmo hro) fun u _ hu => T.some (leaf2 _ _ hu hi (by dsimp only; decide) (by dsimp only; decide) (by dsimp only; decide) (by dsimp only; decide))) fun _ => ?_) fun b9 => ?_
  · refine T.cal (size_tot hs.1) fun u _ hu => T.cal (must_tot _ hu.1) fun w _ hw => T.ck (by omega) (T.cal (hT _ _ _ _ (d + 1) hw.1 hm (by omega) (by omega)) fun v _ ⟨m', hg, hv⟩ => T.some ⟨⟨m', hg, hv.to fun e ⟨p1, p2, p3⟩ p4 => ⟨⟨p1, ?_, by dsimp only; decide⟩, p4⟩⟩, nok _ hn hi hro⟩)
    have e : kidsOf (GNode.mk 10 n.name n.mark u.1 n.items n.fields n.root n.more v.1) = [(m.nodes.length : Int)] := by
      unfold kidsOf; dsimp only; rw [hn, p2]; rfl
    dsimp only
    rw [e]
    exact ⟨_, rfl, p3, rfl⟩
  · refine T.br (fun _ => T.cal (next_tot h9.1) fun s _ hs => T.some (leaf _ _ hs.2.1 hn hi hro (by dsimp only; decide))) fun _ => T.cal (fail_tot _ _ h9.1 (by decide)) fun s _ hs => T.some ⟨⟨m, Grow.refl hm, hs.1.err hs.2⟩, nok _ hn hi hro⟩

theorem typ_step {l F Ty B Fs D} (hB : ∀ D', D = D' + 1 → BaseS l B D') : TypS l (r05_parser_typ_F F Ty B Fs) D := by
  intro x m a P d h hm hd0 hd
  unfold r05_parser_typ_F
  refine T.br (fun he => T.some ⟨m, Grow.refl hm, h.err (by simpa using he)⟩) fun he => ?_
  refine T.cal (now_tot h) fun ⟨t, x'⟩ _ ⟨ht, hx⟩ => ?_
  subst hx
  dsimp only at ht h ⊢
  obtain rfl := h.ym
  refine T.cal (begins_tot t) fun b _ _ => T.br (fun _ => ?_) fun _ => ?_
  · refine T.cal (now_tot h) fun ⟨t2, x2⟩ _ ⟨_, hx2⟩ => ?_
    subst hx2
    exact T.cal (fail_tot _ _ h (by decide)) fun y _ hy => T.some ⟨_, Grow.refl hm, hy.1.err hy.2⟩
  refine T.jp (fun b => b = false → d ≤ 16 ∧ x'.m.nodes.length < 300) (fun J k => T.br (fun _ => k _ fun h => by cases h) fun h1 => k _ fun h2 => by have := of_decide_eq_false h1; have := of_decide_eq_false h2; omega) fun b2 hb2 => T.br (fun _ => ?_) fun hb3 => ?_
  · refine T.cal (now_tot h) fun ⟨t2, x2⟩ _ ⟨_, hx2⟩ => ?_
    subst hx2
    exact T.cal (fail_tot _ _ h (by decide)) fun y _ hy => T.some ⟨_, Grow.refl hm, hy.1.err hy.2⟩
  obtain ⟨hd16, hlt⟩ := hb2 hb3
  obtain ⟨D', rfl⟩ : ∃ D', D = D' + 1 := ⟨D - 1, by omega⟩
  refine T.abl (by simp only [List.length_singleton]; omega) ?_
  have hx1 : ∀ z, Ok l (GMod.mk x'.m.name x'.m.tagging x'.m.names x'.m.types (x'.m.nodes ++ [z])) a P (GPar.mk x'.l x'.at_ (GMod.mk x'.m.name x'.m.tagging x'.m.names x'.m.types (x'.m.nodes ++ [z])) x'.e x'.p) := fun z => ⟨h.toks, h.yl, rfl, h.a0, h.a1, h.ok⟩
  have zok : ∀ z : GNode, z.fields = [] ∧ z.items = [] ∧ z.root = 0 → NodeOk z := fun n' ⟨h1, h2, h3⟩ => ⟨by omega, fun _ => by omega, by rw [h2]; simp, by rw [h2]; simp, fun _ => by omega, by unfold FOk; rw [h1]; simp, fun _ _ => h3⟩
  have hg1 : ∀ z, (z.fields = [] ∧ z.items = [] ∧ z.root = 0) → Grow x'.m (GMod.mk x'.m.name x'.m.tagging x'.m.names x'.m.types (x'.m.nodes ++ [z])) := fun z hz0 => ⟨rfl, rfl, rfl, rfl, by simp, by simp only [List.length_append, List.length_singleton]; omega, fun i hi => List.getElem?_append_left hi, fun hk n hn => by
    rcases List.mem_append.1 hn with h | h
    · exact hk n h
    · rw [List.mem_singleton.1 h]; exact zok z hz0⟩
  have hzf : ∃ z, GNode.mk (0 : Int) (Str.mk []) (GMark.mk false (0 : Int) (0 : Int)) (GCon.mk false false false false (0 : Int) (0 : Int)) ([] : (List GItem)) ([] : (List GFld)) (0 : Int) false (0 : Int) = z ∧ z.fields = [] ∧ z.items = [] ∧ z.kind = 0 ∧ z.more = false ∧ z.root = 0 := ⟨_, rfl, rfl, rfl, rfl, rfl, rfl⟩
  obtain ⟨z, hz, z1, z2, z3, z4, z5⟩ := hzf
  rw [hz]
  refine T.cal (is_tot _ (hx1 _)) fun y1 _ h1 => T.jp (fun (q : GPar × GNode) => Ok l (GMod.mk x'.m.name x'.m.tagging x'.m.names x'.m.types (x'.m.nodes ++ [z])) a P q.1 ∧ q.2.fields = [] ∧ q.2.items = [] ∧ q.2.kind = 0 ∧ q.2.more = false ∧ q.2.root = 0) (fun J k => T.br (fun _ => ?_) fun _ => k _ ⟨h1.1, z1, z2, z3, z4, z5⟩) fun q ⟨hq, q1, q2, q3, q4, q5⟩ => ?_
  · refine T.cal (now_tot h1.1) fun ⟨t2, x2⟩ _ ⟨_, hx2⟩ => ?_
    subst hx2
    refine T.cal (number_ok h1.1) fun u _ hu => ?_
    refine T.jp (fun _ => True) (fun J2 k2 => T.br (fun _ => T.jp (fun _ => True) (fun J3 k3 => T.br (fun _ => k3 _ trivial) fun _ => k3 _ trivial) fun _ _ => k2 _ trivial) fun _ => k2 _ trivial) fun b5 _ => ?_
    refine T.jp (fun y => Ok l (GMod.mk x'.m.name x'.m.tagging x'.m.names x'.m.types (x'.m.nodes ++ [z])) a P y) (fun J2 k2 => T.br (fun _ => T.cal (fail_tot _ _ hu.1 (by decide)) fun w _ hw => k2 _ hw.1) fun _ => k2 _ hu.1) fun y5 h5 => ?_
    refine T.cal (must_tot _ h5) fun y6 _ h6 => T.cal (is_tot _ h6.1) fun y7 _ h7 => T.br (fun _ => k _ ⟨h7.1, rfl, rfl, rfl, rfl, rfl⟩) fun _ => T.cal (is_tot _ h7.1) fun y8 _ h8 => T.br (fun _ => k _ ⟨h8.1, rfl, rfl, rfl, rfl, rfl⟩) fun _ => k _ ⟨h8.1, rfl, rfl, rfl, rfl, rfl⟩
  · refine T.cal (hB D' rfl _ _ _ _ _ _ hq (hg1 z ⟨z1, z2, z5⟩).lim hd0 (by omega) q1 q2 q3 q4 q5) fun v _ ⟨⟨m2, hg2, hv⟩, hvo⟩ => T.br (fun he2 => T.some ⟨m2, (hg1 z ⟨z1, z2, z5⟩).trans hg2, hv.err (by simpa using he2)⟩) fun he2 => ?_
    have hvm := hv.ym
    have hle := hg2.le
    dsimp only at hle
    rw [List.length_append, List.length_singleton] at hle
    rw [hvm]
    refine T.asd (by omega) (T.cal (Q := fun _ => True) ⟨_, List.getElem?_eq_getElem (by omega), trivial⟩ fun w _ _ => T.some ⟨GMod.mk m2.name m2.tagging m2.names m2.types (m2.nodes.set x'.m.nodes.length v.2), ?_, ⟨hv.toks, hv.yl, rfl, hv.a0, hv.a1, fun e => ?_⟩⟩)
    · have hg3 := (hg1 z ⟨z1, z2, z5⟩).trans hg2
      refine ⟨hg3.name, hg3.tagging, hg3.names, hg3.types, by dsimp only; rw [List.length_set]; exact hg3.le, by dsimp only; rw [List.length_set]; exact hg3.lim, fun i hi => ?_, fun hk n hn => ?_⟩
      · dsimp only
        rw [List.getElem?_set_ne (by omega)]
        exact hg3.pre i hi
      · rcases List.mem_or_eq_of_mem_set hn with h | h
        · exact hg3.ok hk n h
        · rw [h]; exact hvo
    · obtain ⟨⟨p1, p2, p2k⟩, p3⟩ := hv.ok e
      dsimp only at p2 ⊢
      rw [List.length_append, List.length_singleton] at p2
      refine ⟨⟨p1, rfl, ?_⟩, p3⟩
      rw [List.length_set]
      exact SubK.mk (n := v.2) (by rw [List.getElem?_set_self (by omega)]) (KidsK.monoL (fun k hk1 hk2 => by rw [List.getElem?_set_ne (by omega)]) p2) p2k
theorem group (l : List GTok) : ∀ n,
    (∀ D, 4 * D < n → TypS l (r05_parser_typ n) D) ∧ (∀ D, 4 * (D + 1) < n + 1 → BaseS l (r05_parser_base n) D) ∧ (∀ D, 4 * (D + 1) < n + 2 → FieldsS l (r05_parser_fields n) D) ∧ (∀ D, 4 * (D + 1) < n + 3 → FieldS l (r05_parser_field n) D) := by
  intro n
  induction n with
  | zero => exact ⟨fun D h => by omega, fun D h => by omega, fun D h => by omega, fun D h => by omega⟩
  | succ n ih =>
    obtain ⟨i1, i2, i3, i4⟩ := ih
    refine ⟨fun D h => typ_step (F := r05_parser_field n) (Ty := r05_parser_typ n) (B := r05_parser_base n) (Fs := r05_parser_fields n) fun D' e => i2 D' (by omega), fun D h => base_step (F := r05_parser_field n) (Ty := r05_parser_typ n) (B := r05_parser_base n) (Fs := r05_parser_fields n) (i1 D (by omega)) (i3 D (by omega)), fun D h => fields_step (F := r05_parser_field n) (Ty := r05_parser_typ n) (B := r05_parser_base n) (Fs := r05_parser_fields n) (i4 D (by omega)), fun D h => field_step (F := r05_parser_field n) (Ty := r05_parser_typ n) (B := r05_parser_base n) (Fs := r05_parser_fields n) (i1 D (by omega))⟩
theorem typ_tot (l : List GTok) : TypS l (r05_parser_typ fuel) 17 := (group l fuel).1 17 (by unfold fuel; omega)
end Go.Proofs.YtiibmpdjkdjbiaaGreatDoor


namespace Go.Proofs.YtiibmpdjkdjbiaaGreatDoor
open Go.Sy
set_option linter.unusedVariables false

structure WF (m : GMod) : Prop where
  names : m.names.length ≤ 40
  types : m.types.length = m.names.length
  nodes : m.nodes.length ≤ 300
  forest : Kids (Sub 17 m.nodes) m.types 0 m.nodes.length
  ok : ∀ n ∈ m.nodes, NodeOk n
  kinds : KOk m.nodes 0 m.nodes.length
theorem WF.empty : WF (GMod.mk (Str.mk []) (0 : Int) ([] : (List Str)) ([] : (List Int)) ([] : (List GNode))) := ⟨by decide, rfl, by decide, rfl, by simp, fun p n _ h => absurd h (Nat.not_lt_zero _)⟩
structure PInv (l : List GTok) (y : GPar) : Prop where
  ok : Ok l y.m 0 (y.m.names.length ≤ 40 ∧ Kids (SubK 17 y.m.nodes) y.m.types 0 y.m.nodes.length ∧ (y.m.names.length : Int) ≤ y.at_) y
  nodes : y.m.nodes.length ≤ 300
  names : y.m.names.length ≤ 10000
  types : y.m.types.length = y.m.names.length
  nok : ∀ n ∈ y.m.nodes, NodeOk n
theorem PInv.re {l y y'} (h : PInv l y) (hm : y'.m = y.m) (hl : y'.l = y.l) (h0 : y.at_ ≤ y'.at_) (h1 : y'.at_ < (l.length : Int)) (he : y'.e = 0 → y.e = 0) : PInv l y' := by
  have := h.ok.a0
  refine ⟨⟨h.ok.toks, hl.trans h.ok.yl, rfl, by omega, h1, fun e => ?_⟩, by rw [hm]; exact h.nodes, by rw [hm]; exact h.names, by rw [hm]; exact h.types, by rw [hm]; exact h.nok⟩
  have := h.ok.ok (he e)
  rw [hm]
  exact ⟨⟨this.1.1, this.1.2.1, by omega⟩, by omega⟩

theorem parse_tot (s : Str) : T (fun r => WF r.1) (r05_Parse s) := by
  unfold r05_Parse
  refine T.cal (tokens_tot s) fun r _ hr => T.br (fun _ => T.some WF.empty) fun he => ?_
  have he : r.2.2 = 0 := by simpa using he
  have htk := hr he
  obtain ⟨ml, le, hle, _, _⟩ := htk.last
  have hll : 0 < r.1.length := by rw [hle]; simp
  have hl8 := htk.len
  -- the head: no names yet
  have head : ∀ y : GPar, Ok r.1 y.m 0 True y → y.m.names = [] → y.m.types = [] → y.m.nodes = [] → PInv r.1 y := fun y hy h1 h2 h3 => ⟨hy.to fun e _ p => ⟨⟨by rw [h1]; decide, by rw [h2, h3]; rfl, by rw [h1]; simpa using p⟩, p⟩, by rw [h3]; decide, by rw [h1]; decide, by rw [h1, h2]; rfl, by rw [h3]; simp⟩
  have h0 : Ok r.1 (GMod.mk (Str.mk []) (0 : Int) ([] : (List Str)) ([] : (List Int)) ([] : (List GNode))) 0 True (GPar.mk r.1 (0 : Int) (GMod.mk (Str.mk []) (0 : Int) ([] : (List Str)) ([] : (List Int)) ([] : (List GNode))) (0 : Int) (0 : Int)) := ⟨htk, rfl, rfl, Int.le_refl _, by dsimp only; omega, fun _ => ⟨trivial, Int.le_refl _⟩⟩
  let Em : GMod → Prop := fun m => m.names = [] ∧ m.types = [] ∧ m.nodes = []
  have hE : ∀ (y : GPar) m (m' : GMod), Ok r.1 m 0 True y → Ok r.1 m' 0 True (GPar.mk y.l y.at_ m' y.e y.p) := fun y m m' h => ⟨h.toks, h.yl, rfl, h.a0, h.a1, h.ok⟩
  refine T.cal (kind_tot 1 (by decide) h0) fun y1 _ h1 => T.cal (must_tot _ (hE _ _ _ h1.1)) fun y2 _ h2 => ?_
  have hm2 := h2.1.ym
  have e1 := h1.1.ym
  rw [e1] at hm2
  dsimp only at hm2
  refine T.jp (fun y => ∃ m, Em m ∧ Ok r.1 m 0 True y) (fun J k => ?_) fun y ⟨m, hem, hy⟩ => ?_
  · have hb : ∃ m, Em m ∧ Ok r.1 m 0 True y2 := ⟨y2.m, by rw [hm2]; exact ⟨rfl, rfl, rfl⟩, ⟨htk, h2.1.yl, rfl, h2.1.a0, h2.1.a1, h2.1.ok⟩⟩
    obtain ⟨m, hem, hb⟩ := hb
    refine T.cal (is_tot _ hb) fun y3 _ h3 => T.br (fun _ => T.cal (must_tot _ h3.1) fun y4 _ h4 => k _ ⟨m, hem, h4.1⟩) fun _ => ?_
    refine T.cal (is_tot _ h3.1) fun y5 _ h5 => T.br (fun _ => T.cal (must_tot _ (hE _ _ _ h5.1)) fun y4 _ h4 => k _ ⟨_, by rw [h5.1.ym]; exact hem, h4.1⟩) fun _ => ?_
    refine T.cal (is_tot _ h5.1) fun y6 _ h6 => T.br (fun _ => T.cal (must_tot _ (hE _ _ _ h6.1)) fun y4 _ h4 => k _ ⟨_, by rw [h6.1.ym]; exact hem, h4.1⟩) fun _ => k _ ⟨m, hem, h6.1⟩
  refine T.cal (must_tot _ hy) fun y3 _ h3 => T.cal (must_tot _ h3.1) fun y4 _ h4 => ?_
  have hstart : PInv r.1 y4 := by
    have e := h4.1.ym
    exact head y4 ⟨htk, h4.1.yl, rfl, h4.1.a0, h4.1.a1, h4.1.ok⟩ (by rw [e]; exact hem.1) (by rw [e]; exact hem.2.1) (by rw [e]; exact hem.2.2)
  refine T.lp (fun y => PInv r.1 y) (fun y => if y.e = 0 then ((r.1.length : Int) - y.at_).toNat + 1 else 0) hstart (by have := hstart.ok.a0; split <;> omega) fun L y hy hL => ?_
  refine T.jp (fun (q : Bool × GPar) => PInv r.1 q.2 ∧ (q.1 = true → y.e = 0 ∧ q.2.e = 0 ∧ q.2.at_ ≥ y.at_)) (fun J k => T.br (fun he => T.cal (is_tot _ hy.ok) fun u _ hu => ?_) fun _ => k _ ⟨hy, fun h => by cases h⟩) fun q ⟨hq, hqb⟩ => ?_
  · have hge : y.at_ ≤ u.2.at_ := by
      cases hu1 : u.1 with
      | true => have := hu.2.2.1 hu1; omega
      | false => rw [hu.2.2.2 hu1]; omega
    refine k _ ⟨hy.re hu.1.ym (hu.1.yl.trans hy.ok.yl.symm) hge hu.1.a1 (fun e => hu.2.1 ▸ e), fun hb => ?_⟩
    have hb : u.1 = false := by simpa using hb
    have := hu.2.2.2 hb
    dsimp only
    rw [this]
    exact ⟨of_decide_eq_true he, of_decide_eq_true he, Int.le_refl _⟩
  refine T.br (fun hb => ?_) fun hb => ?_
  · obtain ⟨b1, b2, b3⟩ := hqb hb
    refine T.cal (now_tot hq.ok) fun ⟨t, x'⟩ _ ⟨ht, hx⟩ => ?_
    dsimp only at ht hx ⊢
    subst hx
    have hq1 : Ok r.1 q.2.m (q.2.at_ + 0) (q.2.m.names.length ≤ 40 ∧ Kids (SubK 17 q.2.m.nodes) q.2.m.types 0 q.2.m.nodes.length ∧ (q.2.m.names.length : Int) ≤ q.2.at_) q.2 := hq.ok.to fun _ p1 _ => ⟨p1, by omega⟩
    refine T.cal (kind_tot 1 (by decide) hq.ok) fun u _ hu => ?_
    have hu1 : Ok r.1 q.2.m (q.2.at_ + 1) (q.2.m.names.length ≤ 40 ∧ Kids (SubK 17 q.2.m.nodes) q.2.m.types 0 q.2.m.nodes.length ∧ (q.2.m.names.length : Int) ≤ q.2.at_) u.2 := hu.1.to fun e p1 _ => ⟨p1, by have := hu.2.1 e; omega⟩
    refine T.jp (fun b => b = false → u.2.e = 0 → q.2.m.names.length < 40) (fun J k => T.br (fun he => k _ fun hb _ => ?_) fun he => k _ fun _ e => absurd e (of_decide_eq_false he)) fun b hb2 => ?_
    · have := of_decide_eq_false hb
      rw [hu.1.ym] at this
      omega
    refine T.jp (fun y5 => Ok r.1 q.2.m (q.2.at_ + 1) (q.2.m.names.length < 40 ∧ Kids (SubK 17 q.2.m.nodes) q.2.m.types 0 q.2.m.nodes.length ∧ (q.2.m.names.length : Int) ≤ q.2.at_) y5) (fun J k => T.br (fun _ => T.cal (fail_tot _ _ hu1 (by decide)) fun w _ hw => k _ (hw.1.err hw.2)) fun hb3 => k _ (hu1.to fun e p1 p2 => ⟨⟨hb2 hb3 e, p1.2⟩, p2⟩)) fun y5 h5 => ?_
    refine T.cal (must_tot _ h5) fun y6 _ h6 => T.cal (typ_tot r.1 _ _ _ _ 0 h6.1 hq.nodes (Int.le_refl _) rfl) fun v _ ⟨m', hg, hv⟩ => ?_
    have hvm := hv.ym
    have hn := hq.names
    have hn1 : m'.names.length ≤ 9000 := by
      rw [hg.names]
      have h9 := (hq.ok.ok b2).1.2.2
      have := hq.ok.a1
      omega
    have ht1 : m'.types.length = m'.names.length := by rw [hg.types, hg.names]; exact hq.types
    rw [hvm]
    refine T.abl (by simp only [List.length_singleton]; omega) (T.abl (by simp only [List.length_singleton]; omega) (hL _ ⟨⟨hv.toks, hv.yl, rfl, hv.a0, hv.a1, fun e => ?_⟩, hg.lim, ?_, ?_, hg.ok hq.nok⟩ ?_))
    · obtain ⟨⟨⟨p1, p2, p3⟩, p4, p5⟩, p6⟩ := hv.ok e
      dsimp only
      refine ⟨⟨?_, ?_, ?_⟩, hv.a0⟩
      · rw [hg.names, List.length_append, List.length_singleton]; omega
      · rw [hg.types, p4]
        exact (KidsK.monoL (fun k _ hk => hg.pre k hk) p2).snoc p5
      · rw [hg.names, List.length_append, List.length_singleton]; omega
    · dsimp only; rw [List.length_append, List.length_singleton]; omega
    · dsimp only; rw [List.length_append, List.length_append, List.length_singleton, List.length_singleton]; omega
    · dsimp only
      rw [if_pos b1]
      split
      · rename_i e
        have p6 := (hv.ok e).2
        have := hv.a1
        omega
      · omega
  · refine T.jp (fun (q2 : Bool × GPar) => PInv r.1 q2.2) (fun J k => T.br (fun _ => T.cal (now_tot hq.ok) fun ⟨t, x'⟩ _ ⟨ht, hx⟩ => k _ (by dsimp only at hx ⊢; subst hx; exact hq)) fun _ => k _ hq) fun q2 hq2 => ?_
    refine T.jp (fun (y5 : GPar) => y5.e = 0 → PInv r.1 y5) (fun J k => T.br (fun _ => T.cal (now_tot hq2.ok) fun ⟨t, x'⟩ _ ⟨ht, hx⟩ => ?_) fun _ => k _ fun _ => hq2) fun y5 h5 => ?_
    · dsimp only at hx ⊢
      subst hx
      exact T.cal (fail_tot _ _ hq2.ok (by decide)) fun w _ hw => k _ fun e => absurd e hw.2
    · refine T.br (fun _ => T.some WF.empty) fun he => T.some ?_
      have he : y5.e = 0 := by simpa using he
      have h6 := h5 he
      have h7 := (h6.ok.ok he).1
      exact ⟨h7.1, h6.types, h6.nodes, KidsK.sub h7.2.1, h6.nok, KidsK.kinds h7.2.1⟩
end Go.Proofs.YtiibmpdjkdjbiaaGreatDoor


namespace Go.Proofs.YtiibmpdjkdjbiaaGreatDoor
open Go.Sy
set_option maxRecDepth 4000
def refs_of (a_m : GMod) (a_at_ : Int) : Option (Int) :=
  br (decide ((a_m.types.length : Int) ≤ a_at_)) (some ((-1 : Int))) (cal (getI a_m.types a_at_) fun y1 => some (y1))

def slices_Index_Lstring_string (a_s : (List Str)) (a_v : Str) : Option (Int) :=
  lp (ι := Int) (fun L2 q1 => br (decide (q1 < (a_s.length : Int))) (cal (getI a_s q1) fun y5 => br (decide (a_v = y5)) (some (q1)) (ck ((q1 + (1 : Int))) <| L2 ((q1 + (1 : Int))))) (some ((-1 : Int)))) (((0 : Int)))

def slices_Contains_Lstring_string (a_s : (List Str)) (a_v : Str) : Option (Bool) :=
  cal (slices_Index_Lstring_string a_s a_v) fun y1 => some ((decide ((0 : Int) ≤ y1)))

def refs_with (a_l : (List Str)) (a_more : (List Str)) : Option ((List Str)) :=
  lp (ι := (List Str) × Int) (fun L2 q1 => br (decide (q1.2 < (a_more.length : Int))) (jp (ι := (List Str)) (fun J12 => cal (getI a_more q1.2) fun y13 => cal (slices_Contains_Lstring_string q1.1 y13) fun y14 => br (!y14) (asr (Nat.ble (q1.1.length + ([y13] : (List Str)).length) 68719476736) <| J12 ((q1.1 ++ ([y13] : (List Str))))) (J12 (q1.1))) (fun q11 => ck ((q1.2 + (1 : Int))) <| L2 (q11, (q1.2 + (1 : Int))))) (some (q1.1))) ((a_l, (0 : Int)))

def refs_refers_c1 (a_n_ : GNode) (a_a1 : (List Str)) : Option ((List Str)) :=
  br (decide (a_n_.kind = (11 : Int))) (cal (refs_with a_a1 ([a_n_.name] : (List Str))) fun y3 => some (y3)) (some (a_a1))

def refs_walk_F (refs_walk' : GMod → Int → (List Bool) → (List Str) → Option ((List Bool) × (List Str))) (a_m : GMod) (a_node : Int) (a_seen : (List Bool)) (a_do__0 : (List Str)) : Option ((List Bool) × (List Str)) :=
  jp (ι := Bool) (fun J3 => br (decide (a_node < (0 : Int))) (J3 (true)) (J3 ((decide ((a_m.nodes.length : Int) ≤ a_node))))) (fun q2 => jp (ι := Bool) (fun J6 => br q2 (J6 (true)) (asr (decide (0 ≤ a_node ∧ a_node < ((a_seen.length : Nat) : Int))) <| cal (a_seen[a_node.toNat]?) fun y9 => J6 (y9))) (fun q5 => br q5 (some (a_seen, a_do__0)) (asr (decide (0 ≤ a_node ∧ a_node < ((a_seen.length : Nat) : Int))) <| cal (a_seen[a_node.toNat]?) fun y11 => cal (getI a_m.nodes a_node) fun y12 => cal (refs_refers_c1 y12 a_do__0) fun y14 => br (decide (y12.kind = (11 : Int))) (some ((a_seen.set a_node.toNat true), y14)) (lp (ι := (List Bool) × Int × (List Str)) (fun L17 q16 => br (decide (q16.2.1 < (y12.fields.length : Int))) (cal (getI y12.fields q16.2.1) fun y27 => cal (refs_walk' a_m y27.ty q16.1 q16.2.2) fun y29 => asr (decide (y29.1.length = q16.1.length)) <| ck ((q16.2.1 + (1 : Int))) <| L17 (y29.1, (q16.2.1 + (1 : Int)), y29.2)) (br (decide (y12.kind = (10 : Int))) (cal (refs_walk' a_m y12.of q16.1 q16.2.2) fun y33 => asr (decide (y33.1.length = q16.1.length)) <| some (y33.1, y33.2)) (some (q16.1, q16.2.2)))) (((a_seen.set a_node.toNat true), (0 : Int), y14))))))
def refs_walk_grp : Nat → (GMod → Int → (List Bool) → (List Str) → Option ((List Bool) × (List Str)))
  | 0 => (fun _ _ _ _ => none)
  | n + 1 => let p := refs_walk_grp n; (refs_walk_F p)
def refs_walk (n : Nat) : GMod → Int → (List Bool) → (List Str) → Option ((List Bool) × (List Str)) := (refs_walk_grp n)

def refs_refers (a_m : GMod) (a_node : Int) : Option ((List Str)) :=
  asr (decide (0 ≤ (a_m.nodes.length : Int) ∧ (a_m.nodes.length : Int) ≤ 68719476736)) <| cal (refs_walk fuel a_m a_node (List.replicate ((a_m.nodes.length : Int)).toNat false) ([] : (List Str))) fun y5 => asr (decide (y5.1.length = (List.replicate ((a_m.nodes.length : Int)).toNat false).length)) <| some (y5.2)

def refs_Find (a_m : GMod) (a_name : Str) : Option (Int) :=
  cal (slices_Index_Lstring_string a_m.names a_name) fun y1 => some (y1)

def refs_Uses (a_m : GMod) (a_node : Int) : Option ((List Int)) :=
  cal (refs_refers a_m a_node) fun y1 => lp (ι := (List Int) × Int) (fun L3 q2 => br (decide (q2.2 < (y1.length : Int))) (jp (ι := (List Int)) (fun J14 => cal (getI y1 q2.2) fun y15 => cal (refs_Find a_m y15) fun y16 => br (decide ((0 : Int) ≤ y16)) (asr (Nat.ble (q2.1.length + ([y16] : (List Int)).length) 68719476736) <| J14 ((q2.1 ++ ([y16] : (List Int))))) (J14 (q2.1))) (fun q13 => ck ((q2.2 + (1 : Int))) <| L3 (q13, (q2.2 + (1 : Int))))) (some (q2.1))) ((([] : (List Int)), (0 : Int)))

def refs_lost_c1 (a_s : Str) (a_a1 : GMod) : Option (Bool) :=
  cal (refs_Find a_a1 a_s) fun y1 => some ((decide (y1 < (0 : Int))))

def slices_IndexFunc_Lstring_string (a_s : (List Str)) (a_f_0 : GMod) : Option (Int) :=
  lp (ι := Int) (fun L2 q1 => br (decide (q1 < (a_s.length : Int))) (cal (getI a_s q1) fun y6 => cal (refs_lost_c1 y6 a_f_0) fun y7 => br y7 (some (q1)) (ck ((q1 + (1 : Int))) <| L2 ((q1 + (1 : Int))))) (some ((-1 : Int)))) (((0 : Int)))

def slices_ContainsFunc_Lstring_string (a_s : (List Str)) (a_f_0 : GMod) : Option (Bool) :=
  cal (slices_IndexFunc_Lstring_string a_s a_f_0) fun y1 => some ((decide ((0 : Int) ≤ y1)))

def refs_lost (a_m : GMod) (a_node : Int) : Option (Bool) :=
  cal (refs_refers a_m a_node) fun y1 => cal (slices_ContainsFunc_Lstring_string y1 a_m) fun y2 => some (y2)

def refs_reaches_F (refs_reaches' : (List (List Int)) → Int → (List Bool) → Option ((List Bool))) (a_uses : (List (List Int))) (a_at_ : Int) (a_seen : (List Bool)) : Option ((List Bool)) :=
  cal (getI a_uses a_at_) fun y1 => lp (ι := (List Bool) × Int) (fun L3 q2 => br (decide (q2.2 < (y1.length : Int))) (jp (ι := (List Bool)) (fun J15 => cal (getI y1 q2.2) fun y16 => asr (decide (0 ≤ y16 ∧ y16 < ((q2.1.length : Nat) : Int))) <| cal (q2.1[y16.toNat]?) fun y18 => br (!y18) (asr (decide (0 ≤ y16 ∧ y16 < ((q2.1.length : Nat) : Int))) <| cal (q2.1[y16.toNat]?) fun y20 => cal (refs_reaches' a_uses y16 (q2.1.set y16.toNat true)) fun y21 => asr (decide (y21.length = q2.1.length)) <| J15 (y21)) (J15 (q2.1))) (fun q14 => ck ((q2.2 + (1 : Int))) <| L3 (q14, (q2.2 + (1 : Int))))) (some (q2.1))) ((a_seen, (0 : Int)))
def refs_reaches_grp : Nat → ((List (List Int)) → Int → (List Bool) → Option ((List Bool)))
  | 0 => (fun _ _ _ => none)
  | n + 1 => let p := refs_reaches_grp n; (refs_reaches_F p)
def refs_reaches (n : Nat) : (List (List Int)) → Int → (List Bool) → Option ((List Bool)) := (refs_reaches_grp n)

def refs_wrong (a_m : GMod) (a_uses : (List (List Int))) : Option (Int × Int) :=
  lp (ι := Int) (fun L2 q1 => br (decide (q1 < (a_m.names.length : Int))) (cal (getI a_m.names q1) fun y49 => cal (refs_Find a_m y49) fun y50 => br (decide (y50 < q1)) (some (q1, (8 : Int))) (ck ((q1 + (1 : Int))) <| L2 ((q1 + (1 : Int))))) (lp (ι := Int) (fun L53 q52 => br (decide (q52 < (a_m.names.length : Int))) (cal (refs_of a_m q52) fun y74 => cal (refs_lost a_m y74) fun y75 => br y75 (some (q52, (9 : Int))) (ck ((q52 + (1 : Int))) <| L53 ((q52 + (1 : Int))))) (lp (ι := Int) (fun L78 q77 => br (decide (q77 < (a_m.names.length : Int))) (asr (decide (0 ≤ (a_m.names.length : Int) ∧ (a_m.names.length : Int) ≤ 68719476736)) <| cal (refs_reaches fuel a_uses q77 (List.replicate ((a_m.names.length : Int)).toNat false)) fun y88 => asr (decide (y88.length = (List.replicate ((a_m.names.length : Int)).toNat false).length)) <| asr (decide (0 ≤ q77 ∧ q77 < ((y88.length : Nat) : Int))) <| cal (y88[q77.toNat]?) fun y91 => br y91 (some (q77, (10 : Int))) (ck ((q77 + (1 : Int))) <| L78 ((q77 + (1 : Int))))) (some ((0 : Int), (0 : Int)))) (((0 : Int))))) (((0 : Int))))) (((0 : Int)))

def slices_Index_Lint_int (a_s : (List Int)) (a_v : Int) : Option (Int) :=
  lp (ι := Int) (fun L2 q1 => br (decide (q1 < (a_s.length : Int))) (cal (getI a_s q1) fun y5 => br (decide (a_v = y5)) (some (q1)) (ck ((q1 + (1 : Int))) <| L2 ((q1 + (1 : Int))))) (some ((-1 : Int)))) (((0 : Int)))

def slices_Contains_Lint_int (a_s : (List Int)) (a_v : Int) : Option (Bool) :=
  cal (slices_Index_Lint_int a_s a_v) fun y1 => some ((decide ((0 : Int) ≤ y1)))

def refs_Order_c1 (a_k : Int) (a_a1 : (List Int)) : Option (Bool × (List Int)) :=
  cal (slices_Contains_Lint_int a_a1 a_k) fun y2 => some ((!y2), a_a1)

def slices_IndexFunc_Lint_int (a_s : (List Int)) (a_f_0 : (List Int)) : Option (Int × (List Int)) :=
  lp (ι := Int × (List Int)) (fun L3 q2 => br (decide (q2.1 < (a_s.length : Int))) (cal (getI a_s q2.1) fun y8 => cal (refs_Order_c1 y8 q2.2) fun y9 => br y9.1 (some (q2.1, y9.2)) (ck ((q2.1 + (1 : Int))) <| L3 ((q2.1 + (1 : Int)), y9.2))) (some ((-1 : Int), q2.2))) (((0 : Int), a_f_0))

def slices_ContainsFunc_Lint_int (a_s : (List Int)) (a_f_0 : (List Int)) : Option (Bool × (List Int)) :=
  cal (slices_IndexFunc_Lint_int a_s a_f_0) fun y2 => some ((decide ((0 : Int) ≤ y2.1)), y2.2)

def refs_Order (a_m : GMod) : Option ((List Int) × Int × Int) :=
  lp (ι := (List (List Int)) × Int) (fun L2 q1 => br (decide (q1.2 < (a_m.names.length : Int))) (cal (refs_of a_m q1.2) fun y65 => cal (refs_Uses a_m y65) fun y66 => asr (Nat.ble (q1.1.length + ([y66] : (List (List Int))).length) 68719476736) <| ck ((q1.2 + (1 : Int))) <| L2 ((q1.1 ++ ([y66] : (List (List Int)))), (q1.2 + (1 : Int)))) (cal (refs_wrong a_m q1.1) fun y71 => br (!decide (y71.2 = (0 : Int))) (some (([] : (List Int)), y71.1, y71.2)) (lp (ι := (List Int)) (fun L75 q74 => br (decide ((q74.length : Int) < (a_m.names.length : Int))) (lp (ι := Int × (List Int)) (fun L102 q101 => br (decide (q101.1 < (a_m.names.length : Int))) (cal (slices_Contains_Lint_int q101.2 q101.1) fun y114 => jp (ι := Bool × (List Int)) (fun J116 => br (!y114) (cal (getI q1.1 q101.1) fun y118 => cal (slices_ContainsFunc_Lint_int y118 q101.2) fun y119 => J116 ((!y119.1), y119.2)) (J116 (false, q101.2))) (fun q115 => br q115.1 (asr (Nat.ble (q115.2.length + ([q101.1] : (List Int)).length) 68719476736) <| L75 ((q115.2 ++ ([q101.1] : (List Int))))) (ck ((q101.1 + (1 : Int))) <| L102 ((q101.1 + (1 : Int)), q115.2)))) (L75 (q101.2))) (((0 : Int), q74))) (some (q74, (0 : Int), (0 : Int)))) ((([] : (List Int))))))) ((([] : (List (List Int))), (0 : Int)))

def slices_Clone_Lstring_string (a_s : (List Str)) : Option ((List Str)) :=
  br a_s.isEmpty (some (([] : (List Str)))) (asr (Nat.ble (([] : (List Str)).length + a_s.length) 68719476736) <| some ((([] : (List Str)) ++ a_s)))

def tags_Universal (a_kind : Int) : Option (Tag) :=
  jp (ι := Int) (fun J3 => br (decide (a_kind = (1 : Int))) (J3 ((1 : Int))) (br (decide (a_kind = (2 : Int))) (J3 ((2 : Int))) (br (decide (a_kind = (5 : Int))) (J3 ((4 : Int))) (br (decide (a_kind = (4 : Int))) (J3 ((5 : Int))) (br (decide (a_kind = (3 : Int))) (J3 ((10 : Int))) (br (decide (a_kind = (6 : Int))) (J3 ((12 : Int))) (jp (ι := Bool) (fun J5 => br (decide (a_kind = (7 : Int))) (J5 ((decide (a_kind = (7 : Int))))) (J5 ((decide (a_kind = (10 : Int)))))) (fun q4 => br q4 (J3 ((16 : Int))) (br (decide (a_kind = (8 : Int))) (J3 ((17 : Int))) (J3 ((0 : Int)))))))))))) (fun q2 => some ((Tag.mk (0 : Int) q2)))

def table_types_add (a_t : GTmk) (a_x : GTyp) : Option (Int × GTmk) :=
  jp (ι := GTmk) (fun J3 => asr (Nat.ble (a_t.types.l.length + ([a_x] : (List GTyp)).length) 68719476736) <| J3 ((GTmk.mk (GTys.mk (a_t.types.l ++ ([a_x] : (List GTyp)))) a_t.m))) (fun q2 => ck ((((q2.types.l.length : Nat) : Int) - (1 : Int))) <| some ((((q2.types.l.length : Nat) : Int) - (1 : Int)), q2))

def bounds_checked_both (a_c : GCkd) : Option (Bool) :=
  jp (ι := Bool) (fun J2 => br a_c.con.has (J2 (a_c.con.hasLow)) (J2 (false))) (fun q1 => jp (ι := Bool) (fun J5 => br q1 (J5 (a_c.con.hasHigh)) (J5 (false))) (fun q4 => some (q4)))

def bounds_checked_crossed (a_c : GCkd) : Option (Bool) :=
  cal (bounds_checked_both a_c) fun y1 => jp (ι := Bool) (fun J3 => br y1 (J3 ((decide (a_c.con.high < a_c.con.low)))) (J3 (false))) (fun q2 => some (q2))

def bounds_checked_lengths (a_c : GCkd) : Option (Bool) :=
  jp (ι := Bool) (fun J2 => br a_c.con.hasLow (J2 ((decide ((0 : Int) ≤ a_c.con.low)))) (J2 (false))) (fun q1 => jp (ι := Bool) (fun J5 => br q1 (J5 ((decide (a_c.con.low ≤ (70000 : Int))))) (J5 (false))) (fun q4 => jp (ι := Bool) (fun J8 => br q4 (jp (ι := Bool) (fun J11 => br (!a_c.con.hasHigh) (J11 (true)) (jp (ι := Bool) (fun J14 => br (decide ((0 : Int) ≤ a_c.con.high)) (J14 ((decide (a_c.con.high ≤ (70000 : Int))))) (J14 (false))) (fun q13 => J11 (q13)))) (fun q10 => J8 (q10))) (J8 (false))) (fun q7 => some (q7))))

def bounds_Check (a_c : GCon) (a_size : Bool) : Option (Int) :=
  jp (ι := Bool) (fun J3 => br a_c.has (cal (bounds_checked_crossed (GCkd.mk a_c)) fun y5 => jp (ι := Bool) (fun J7 => br y5 (J7 (true)) (jp (ι := Bool) (fun J10 => br a_size (cal (bounds_checked_lengths (GCkd.mk a_c)) fun y12 => J10 ((!y12))) (J10 (false))) (fun q9 => J7 (q9)))) (fun q6 => J3 (q6))) (J3 (false))) (fun q2 => br q2 (some ((11 : Int))) (some ((0 : Int))))

def table_root (a_n_ : Int) (a_l : (List GItem)) : Option (Int) :=
  some ((max (0 : Int) (min a_n_ (a_l.length : Int))))

def table_has_c1 (a_x : GItem) (a_a1 : Int) : Option (Bool) :=
  jp (ι := Bool) (fun J2 => br a_x.has (J2 ((decide (a_x.number = a_a1)))) (J2 (false))) (fun q1 => some (q1))

def slices_IndexFunc_Lapi_Item_api_Item (a_s : (List GItem)) (a_f_0 : Int) : Option (Int) :=
  lp (ι := Int) (fun L2 q1 => br (decide (q1 < (a_s.length : Int))) (cal (getI a_s q1) fun y6 => cal (table_has_c1 y6 a_f_0) fun y7 => br y7 (some (q1)) (ck ((q1 + (1 : Int))) <| L2 ((q1 + (1 : Int))))) (some ((-1 : Int)))) (((0 : Int)))

def slices_ContainsFunc_Lapi_Item_api_Item (a_s : (List GItem)) (a_f_0 : Int) : Option (Bool) :=
  cal (slices_IndexFunc_Lapi_Item_api_Item a_s a_f_0) fun y1 => some ((decide ((0 : Int) ≤ y1)))

def table_has (a_l : (List GItem)) (a_v : Int) : Option (Bool) :=
  cal (slices_ContainsFunc_Lapi_Item_api_Item a_l a_v) fun y1 => some (y1)

def table_behind (a_l : (List GItem)) : Option (Int × Bool) :=
  br (decide ((a_l.length : Int) = (0 : Int))) (some ((0 : Int), true)) (cal (getI a_l (0 : Int)) fun y1 => lp (ι := Int × Int) (fun L3 q2 => br (decide (q2.2 < (a_l.length : Int))) (cal (getI a_l q2.2) fun y6 => L3 ((max q2.1 y6.number), (wr64 (q2.2 + (1 : Int))))) (some ((wr64 (q2.1 + (1 : Int))), (decide (q2.1 < (9223372036854775807 : Int)))))) ((y1.number, (0 : Int))))

def table_numbered (a_n_ : GNode) : Option ((List GItem) × Bool) :=
  cal (table_root a_n_.root a_n_.items) fun y1 => lp (ι := (List GItem) × Int × Int) (fun L3 q2 => br (decide (q2.2.2 < (a_n_.items.length : Int))) (cal (getI a_n_.items q2.2.2) fun y24 => jp (ι := Int × Bool × GItem) (fun J27 => br y24.has (J27 (q2.2.1, true, y24)) (br (decide (q2.2.2 < y1)) (lp (ι := Int) (fun L29 q28 => asr (decide (0 ≤ (0 : Int) ∧ (0 : Int) ≤ y1 ∧ y1 ≤ (a_n_.items.length : Int))) <| cal (table_has ((a_n_.items.take (y1).toNat).drop (0 : Int).toNat) q28) fun y35 => br y35 (ck ((q28 + (1 : Int))) <| L29 ((q28 + (1 : Int)))) (ck ((q28 + (1 : Int))) <| J27 ((q28 + (1 : Int)), true, { y24 with number := q28 }))) ((q2.2.1))) (cal (table_behind q2.1) fun y39 => J27 (q2.2.1, y39.2, { y24 with number := y39.1 })))) (fun q26 => br (!q26.2.1) (some (([] : (List GItem)), false)) (asr (Nat.ble (q2.1.length + ([(GItem.mk q26.2.2.name q26.2.2.number false)] : (List GItem)).length) 68719476736) <| ck ((q2.2.2 + (1 : Int))) <| L3 ((q2.1 ++ ([(GItem.mk q26.2.2.name q26.2.2.number false)] : (List GItem))), q26.1, (q2.2.2 + (1 : Int)))))) (some (q2.1, true))) ((([] : (List GItem)), (0 : Int), (0 : Int)))

def table_items_c1 (a_y : GItem) (a_a1 : GItem) : Option (Bool) :=
  jp (ι := Bool) (fun J2 => br (decide (a_y.name = a_a1.name)) (J2 (true)) (J2 ((decide (a_y.number = a_a1.number))))) (fun q1 => some (q1))

def slices_IndexFunc_Lapi_Item_api_Item_1 (a_s : (List GItem)) (a_f_0 : GItem) : Option (Int) :=
  lp (ι := Int) (fun L2 q1 => br (decide (q1 < (a_s.length : Int))) (cal (getI a_s q1) fun y6 => cal (table_items_c1 y6 a_f_0) fun y7 => br y7 (some (q1)) (ck ((q1 + (1 : Int))) <| L2 ((q1 + (1 : Int))))) (some ((-1 : Int)))) (((0 : Int)))

def slices_ContainsFunc_Lapi_Item_api_Item_1 (a_s : (List GItem)) (a_f_0 : GItem) : Option (Bool) :=
  cal (slices_IndexFunc_Lapi_Item_api_Item_1 a_s a_f_0) fun y1 => some ((decide ((0 : Int) ≤ y1)))

def table_items (a_n_ : GNode) : Option ((List GItem) × Int) :=
  cal (table_numbered a_n_) fun y1 => br (!y1.2) (some (([] : (List GItem)), (11 : Int))) (cal (table_root a_n_.root a_n_.items) fun y2 => lp (ι := Int) (fun L4 q3 => br (decide (q3 < (y1.1.length : Int))) (cal (getI y1.1 q3) fun y18 => asr (decide (0 ≤ (0 : Int) ∧ (0 : Int) ≤ q3 ∧ q3 ≤ (y1.1.length : Int))) <| cal (slices_ContainsFunc_Lapi_Item_api_Item_1 ((y1.1.take (q3).toNat).drop (0 : Int).toNat) y18) fun y21 => jp (ι := Bool) (fun J23 => br y21 (J23 (true)) (jp (ι := Bool) (fun J26 => br (decide (y2 < q3)) (ck ((q3 - (1 : Int))) <| cal (getI y1.1 (q3 - (1 : Int))) fun y29 => J26 ((decide (y18.number ≤ y29.number)))) (J26 (false))) (fun q25 => J23 (q25)))) (fun q22 => br q22 (some (([] : (List GItem)), (8 : Int))) (ck ((q3 + (1 : Int))) <| L4 ((q3 + (1 : Int)))))) (some (y1.1, (0 : Int)))) (((0 : Int))))

def table_maker_automatic_c1 (a_f : GFld) (a_a1 : GTmk) : Option (Bool × GTmk) :=
  jp (ι := Bool) (fun J3 => br (decide ((0 : Int) ≤ a_f.ty)) (J3 ((decide (a_f.ty < (a_a1.m.nodes.length : Int))))) (J3 (false))) (fun q2 => jp (ι := Bool) (fun J6 => br q2 (cal (getI a_a1.m.nodes a_f.ty) fun y8 => J6 (y8.mark.has)) (J6 (false))) (fun q5 => some (q5, a_a1)))

def slices_IndexFunc_Lapi_Field_api_Field (a_s : (List GFld)) (a_f_0 : GTmk) : Option (Int × GTmk) :=
  lp (ι := Int × GTmk) (fun L3 q2 => br (decide (q2.1 < (a_s.length : Int))) (cal (getI a_s q2.1) fun y7 => cal (table_maker_automatic_c1 y7 q2.2) fun y8 => br y8.1 (some (q2.1, y8.2)) (ck ((q2.1 + (1 : Int))) <| L3 ((q2.1 + (1 : Int)), y8.2))) (some ((-1 : Int), q2.2))) (((0 : Int), a_f_0))

def slices_ContainsFunc_Lapi_Field_api_Field (a_s : (List GFld)) (a_f_0 : GTmk) : Option (Bool × GTmk) :=
  cal (slices_IndexFunc_Lapi_Field_api_Field a_s a_f_0) fun y2 => some ((decide ((0 : Int) ≤ y2.1)), y2.2)

def table_maker_automatic (a_x : GTmk) (a_n_ : GNode) : Option (Bool × GTmk) :=
  jp (ι := Bool × GTmk) (fun J3 => br (decide (a_x.m.tagging = (2 : Int))) (cal (slices_ContainsFunc_Lapi_Field_api_Field a_n_.fields a_x) fun y5 => J3 ((!y5.1), y5.2)) (J3 (false, a_x))) (fun q2 => some (q2.1, q2.2))

def table_maker_field_c1 (a_y : GFld) (a_a1 : GFld) : Option (Bool × GFld) :=
  some ((decide (a_y.name = a_a1.name)), a_a1)

def slices_IndexFunc_Lapi_Field_api_Field_1 (a_s : (List GFld)) (a_f_0 : GFld) : Option (Int × GFld) :=
  lp (ι := Int × GFld) (fun L2 q1 => br (decide (q1.1 < (a_s.length : Int))) (cal (getI a_s q1.1) fun y6 => cal (table_maker_field_c1 y6 q1.2) fun y7 => br y7.1 (some (q1.1, y7.2)) (ck ((q1.1 + (1 : Int))) <| L2 ((q1.1 + (1 : Int)), y7.2))) (some ((-1 : Int), q1.2))) (((0 : Int), a_f_0))

def slices_ContainsFunc_Lapi_Field_api_Field_1 (a_s : (List GFld)) (a_f_0 : GFld) : Option (Bool × GFld) :=
  cal (slices_IndexFunc_Lapi_Field_api_Field_1 a_s a_f_0) fun y1 => some ((decide ((0 : Int) ≤ y1.1)), y1.2)

def slices_Clone_Lbyte_byte (a_s : (List UInt8)) : Option ((List UInt8)) :=
  br a_s.isEmpty (some (([] : (List UInt8)))) (asr (Nat.ble (([] : (List UInt8)).length + a_s.length) 68719476736) <| some ((([] : (List UInt8)) ++ a_s)))

def bounds_Within (a_c : GCon) (a_v : Int) : Option (Bool) :=
  jp (ι := Bool) (fun J2 => br (!a_c.has) (J2 (true)) (jp (ι := Bool) (fun J5 => br (!a_c.hasLow) (J5 (true)) (J5 ((decide (a_c.low ≤ a_v))))) (fun q4 => jp (ι := Bool) (fun J8 => br q4 (jp (ι := Bool) (fun J11 => br (!a_c.hasHigh) (J11 (true)) (J11 ((decide (a_v ≤ a_c.high))))) (fun q10 => J8 (q10))) (J8 (false))) (fun q7 => J2 (q7))))) (fun q1 => some (q1))

def utf8_word_Lbyte (a_s : (List UInt8)) : Option (UInt64) :=
  cal (getI a_s (0 : Int)) fun y1 => cal (getI a_s (1 : Int)) fun y2 => asr (Nat.ble (8 : UInt64).toNat 64) <| cal (getI a_s (2 : Int)) fun y4 => asr (Nat.ble (16 : UInt64).toNat 64) <| cal (getI a_s (3 : Int)) fun y6 => asr (Nat.ble (24 : UInt64).toNat 64) <| cal (getI a_s (4 : Int)) fun y8 => asr (Nat.ble (32 : UInt64).toNat 64) <| cal (getI a_s (5 : Int)) fun y10 => asr (Nat.ble (40 : UInt64).toNat 64) <| cal (getI a_s (6 : Int)) fun y12 => asr (Nat.ble (48 : UInt64).toNat 64) <| cal (getI a_s (7 : Int)) fun y14 => asr (Nat.ble (56 : UInt64).toNat 64) <| some ((((((((y1.toUInt64 ||| (shl64 y2.toUInt64 (8 : UInt64).toNat)) ||| (shl64 y4.toUInt64 (16 : UInt64).toNat)) ||| (shl64 y6.toUInt64 (24 : UInt64).toNat)) ||| (shl64 y8.toUInt64 (32 : UInt64).toNat)) ||| (shl64 y10.toUInt64 (40 : UInt64).toNat)) ||| (shl64 y12.toUInt64 (48 : UInt64).toNat)) ||| (shl64 y14.toUInt64 (56 : UInt64).toNat)))

def utf8_Valid (a_p : (List UInt8)) : Option (Bool) :=
  asr (decide (0 ≤ (a_p.length : Int) ∧ (a_p.length : Int) ≤ (a_p.length : Int))) <| lp (ι := (List UInt8)) (fun L3 q2 => br (decide ((0 : Int) < (q2.length : Int))) (cal (getI q2 (0 : Int)) fun y99 => br (decide (y99 < (128 : UInt8))) (asr (decide (0 ≤ (1 : Int) ∧ (1 : Int) ≤ (q2.length : Int) ∧ (q2.length : Int) ≤ (q2.length : Int))) <| jp (ι := Bool) (fun J102 => br (decide ((8 : Int) < (((q2.take ((q2.length : Int)).toNat).drop ((1 : Int)).toNat).length : Int))) (cal (utf8_word_Lbyte ((q2.take ((q2.length : Int)).toNat).drop ((1 : Int)).toNat)) fun y104 => J102 ((decide ((y104 &&& (9259542123273814144 : UInt64)) = (0 : UInt64))))) (J102 (false))) (fun q101 => jp (ι := (List UInt8)) (fun J106 => br q101 (asr (decide (0 ≤ (8 : Int) ∧ (8 : Int) ≤ (((q2.take ((q2.length : Int)).toNat).drop ((1 : Int)).toNat).length : Int) ∧ (((q2.take ((q2.length : Int)).toNat).drop ((1 : Int)).toNat).length : Int) ≤ (((q2.take ((q2.length : Int)).toNat).drop ((1 : Int)).toNat).length : Int))) <| jp (ι := Bool) (fun J109 => br (decide ((16 : Int) < (((((q2.take ((q2.length : Int)).toNat).drop ((1 : Int)).toNat).take ((((q2.take ((q2.length : Int)).toNat).drop ((1 : Int)).toNat).length : Int)).toNat).drop ((8 : Int)).toNat).length : Int))) (asr (decide (0 ≤ (8 : Int) ∧ (8 : Int) ≤ (((((q2.take ((q2.length : Int)).toNat).drop ((1 : Int)).toNat).take ((((q2.take ((q2.length : Int)).toNat).drop ((1 : Int)).toNat).length : Int)).toNat).drop ((8 : Int)).toNat).length : Int) ∧ (((((q2.take ((q2.length : Int)).toNat).drop ((1 : Int)).toNat).take ((((q2.take ((q2.length : Int)).toNat).drop ((1 : Int)).toNat).length : Int)).toNat).drop ((8 : Int)).toNat).length : Int) ≤ (((((q2.take ((q2.length : Int)).toNat).drop ((1 : Int)).toNat).take ((((q2.take ((q2.length : Int)).toNat).drop ((1 : Int)).toNat).length : Int)).toNat).drop ((8 : Int)).toNat).length : Int))) <| cal (utf8_word_Lbyte ((((q2.take ((q2.length : Int)).toNat).drop ((1 : Int)).toNat).take ((((q2.take ((q2.length : Int)).toNat).drop ((1 : Int)).toNat).length : Int)).toNat).drop ((8 : Int)).toNat)) fun y112 => cal (utf8_word_Lbyte ((((((q2.take ((q2.length : Int)).toNat).drop ((1 : Int)).toNat).take ((((q2.take ((q2.length : Int)).toNat).drop ((1 : Int)).toNat).length : Int)).toNat).drop ((8 : Int)).toNat).take ((((((q2.take ((q2.length : Int)).toNat).drop ((1 : Int)).toNat).take ((((q2.take ((q2.length : Int)).toNat).drop ((1 : Int)).toNat).length : Int)).toNat).drop ((8 : Int)).toNat).length : Int)).toNat).drop ((8 : Int)).toNat)) fun y113 => J109 ((decide (((y112 ||| y113) &&& (9259542123273814144 : UInt64)) = (0 : UInt64))))) (J109 (false))) (fun q108 => br q108 (asr (decide (0 ≤ (16 : Int) ∧ (16 : Int) ≤ (((((q2.take ((q2.length : Int)).toNat).drop ((1 : Int)).toNat).take ((((q2.take ((q2.length : Int)).toNat).drop ((1 : Int)).toNat).length : Int)).toNat).drop ((8 : Int)).toNat).length : Int) ∧ (((((q2.take ((q2.length : Int)).toNat).drop ((1 : Int)).toNat).take ((((q2.take ((q2.length : Int)).toNat).drop ((1 : Int)).toNat).length : Int)).toNat).drop ((8 : Int)).toNat).length : Int) ≤ (((((q2.take ((q2.length : Int)).toNat).drop ((1 : Int)).toNat).take ((((q2.take ((q2.length : Int)).toNat).drop ((1 : Int)).toNat).length : Int)).toNat).drop ((8 : Int)).toNat).length : Int))) <| lp (ι := (List UInt8)) (fun L116 q115 => jp (ι := Bool) (fun J129 => br (decide ((32 : Int) < (q115.length : Int))) (asr (decide (0 ≤ (8 : Int) ∧ (8 : Int) ≤ (q115.length : Int) ∧ (q115.length : Int) ≤ (q115.length : Int))) <| asr (decide (0 ≤ (16 : Int) ∧ (16 : Int) ≤ (q115.length : Int) ∧ (q115.length : Int) ≤ (q115.length : Int))) <| asr (decide (0 ≤ (24 : Int) ∧ (24 : Int) ≤ (q115.length : Int) ∧ (q115.length : Int) ≤ (q115.length : Int))) <| cal (utf8_word_Lbyte q115) fun y134 => cal (utf8_word_Lbyte ((q115.take ((q115.length : Int)).toNat).drop ((8 : Int)).toNat)) fun y135 => cal (utf8_word_Lbyte ((q115.take ((q115.length : Int)).toNat).drop ((16 : Int)).toNat)) fun y136 => cal (utf8_word_Lbyte ((q115.take ((q115.length : Int)).toNat).drop ((24 : Int)).toNat)) fun y137 => J129 ((decide ((((y134 ||| y135) ||| (y136 ||| y137)) &&& (9259542123273814144 : UInt64)) = (0 : UInt64))))) (J129 (false))) (fun q128 => br q128 (asr (decide (0 ≤ (32 : Int) ∧ (32 : Int) ≤ (q115.length : Int) ∧ (q115.length : Int) ≤ (q115.length : Int))) <| L116 (((q115.take ((q115.length : Int)).toNat).drop ((32 : Int)).toNat))) (J106 (q115)))) ((((((((q2.take ((q2.length : Int)).toNat).drop ((1 : Int)).toNat).take ((((q2.take ((q2.length : Int)).toNat).drop ((1 : Int)).toNat).length : Int)).toNat).drop ((8 : Int)).toNat).take ((((((q2.take ((q2.length : Int)).toNat).drop ((1 : Int)).toNat).take ((((q2.take ((q2.length : Int)).toNat).drop ((1 : Int)).toNat).length : Int)).toNat).drop ((8 : Int)).toNat).length : Int)).toNat).drop ((16 : Int)).toNat)))) (J106 (((((q2.take ((q2.length : Int)).toNat).drop ((1 : Int)).toNat).take ((((q2.take ((q2.length : Int)).toNat).drop ((1 : Int)).toNat).length : Int)).toNat).drop ((8 : Int)).toNat))))) (J106 (((q2.take ((q2.length : Int)).toNat).drop ((1 : Int)).toNat)))) (fun q105 => L3 (q105)))) (asr (Nat.ble (4 : UInt64).toNat 8) <| asr (Nat.blt (shr8 (tab1 y99) (4 : UInt64).toNat).toNat 16) <| br (decide ((((tab1 y99) &&& (7 : UInt8)).toNat : Int) = (2 : Int))) (jp (ι := Bool) (fun J144 => br (decide ((q2.length : Int) < (2 : Int))) (J144 (true)) (cal (getI q2 (1 : Int)) fun y146 => J144 ((decide (y146 < (tab2 (shr8 (tab1 y99) (4 : UInt64).toNat)).lo))))) (fun q143 => jp (ι := Bool) (fun J148 => br q143 (J148 (true)) (cal (getI q2 (1 : Int)) fun y150 => J148 ((decide ((tab2 (shr8 (tab1 y99) (4 : UInt64).toNat)).hi < y150))))) (fun q147 => br q147 (some (false)) (asr (decide (0 ≤ (2 : Int) ∧ (2 : Int) ≤ (q2.length : Int) ∧ (q2.length : Int) ≤ (q2.length : Int))) <| L3 (((q2.take ((q2.length : Int)).toNat).drop ((2 : Int)).toNat)))))) (br (decide ((((tab1 y99) &&& (7 : UInt8)).toNat : Int) = (3 : Int))) (jp (ι := Bool) (fun J153 => br (decide ((q2.length : Int) < (3 : Int))) (J153 (true)) (cal (getI q2 (1 : Int)) fun y155 => J153 ((decide (y155 < (tab2 (shr8 (tab1 y99) (4 : UInt64).toNat)).lo))))) (fun q152 => jp (ι := Bool) (fun J157 => br q152 (J157 (true)) (cal (getI q2 (1 : Int)) fun y159 => J157 ((decide ((tab2 (shr8 (tab1 y99) (4 : UInt64).toNat)).hi < y159))))) (fun q156 => jp (ι := Bool) (fun J161 => br q156 (J161 (true)) (cal (getI q2 (2 : Int)) fun y163 => J161 ((decide (y163 < (128 : UInt8)))))) (fun q160 => jp (ι := Bool) (fun J165 => br q160 (J165 (true)) (cal (getI q2 (2 : Int)) fun y167 => J165 ((decide ((191 : UInt8) < y167))))) (fun q164 => br q164 (some (false)) (asr (decide (0 ≤ (3 : Int) ∧ (3 : Int) ≤ (q2.length : Int) ∧ (q2.length : Int) ≤ (q2.length : Int))) <| L3 (((q2.take ((q2.length : Int)).toNat).drop ((3 : Int)).toNat)))))))) (br (decide ((((tab1 y99) &&& (7 : UInt8)).toNat : Int) = (4 : Int))) (jp (ι := Bool) (fun J170 => br (decide ((q2.length : Int) < (4 : Int))) (J170 (true)) (cal (getI q2 (1 : Int)) fun y172 => J170 ((decide (y172 < (tab2 (shr8 (tab1 y99) (4 : UInt64).toNat)).lo))))) (fun q169 => jp (ι := Bool) (fun J174 => br q169 (J174 (true)) (cal (getI q2 (1 : Int)) fun y176 => J174 ((decide ((tab2 (shr8 (tab1 y99) (4 : UInt64).toNat)).hi < y176))))) (fun q173 => jp (ι := Bool) (fun J178 => br q173 (J178 (true)) (cal (getI q2 (2 : Int)) fun y180 => J178 ((decide (y180 < (128 : UInt8)))))) (fun q177 => jp (ι := Bool) (fun J182 => br q177 (J182 (true)) (cal (getI q2 (2 : Int)) fun y184 => J182 ((decide ((191 : UInt8) < y184))))) (fun q181 => jp (ι := Bool) (fun J186 => br q181 (J186 (true)) (cal (getI q2 (3 : Int)) fun y188 => J186 ((decide (y188 < (128 : UInt8)))))) (fun q185 => jp (ι := Bool) (fun J190 => br q185 (J190 (true)) (cal (getI q2 (3 : Int)) fun y192 => J190 ((decide ((191 : UInt8) < y192))))) (fun q189 => br q189 (some (false)) (asr (decide (0 ≤ (4 : Int) ∧ (4 : Int) ≤ (q2.length : Int) ∧ (q2.length : Int) ≤ (q2.length : Int))) <| L3 (((q2.take ((q2.length : Int)).toNat).drop ((4 : Int)).toNat)))))))))) (some (false)))))) (some (true))) (((a_p.take ((a_p.length : Int)).toNat)))

def table_maker_standard_c1 (a_y : GItem) (a_a1 : Val) : Option (Bool × Val) :=
  some ((decide (a_y.name = (Str.mk a_a1.b))), a_a1)

def slices_IndexFunc_Lapi_Item_api_Item_2 (a_s : (List GItem)) (a_f_0 : Val) : Option (Int × Val) :=
  lp (ι := Int × Val) (fun L2 q1 => br (decide (q1.1 < (a_s.length : Int))) (cal (getI a_s q1.1) fun y6 => cal (table_maker_standard_c1 y6 q1.2) fun y7 => br y7.1 (some (q1.1, y7.2)) (ck ((q1.1 + (1 : Int))) <| L2 ((q1.1 + (1 : Int)), y7.2))) (some ((-1 : Int), q1.2))) (((0 : Int), a_f_0))

def table_maker_standard (a_x : GTmk) (a_at_ : Int) (a_v : Val) : Option (Val × Bool × GTmk) :=
  asr (decide (0 ≤ a_at_ ∧ a_at_ < ((a_x.types.l.length : Nat) : Int))) <| cal (a_x.types.l[a_at_.toNat]?) fun y5 => br (!decide (a_v.kind = y5.kind)) (some ((Val.mk (0 : Int) (0 : Int) ([] : (List UInt8)) ([] : (List Val)) (0 : Int) ([] : (List Raw))), false, a_x)) (cal (slices_Clone_Lbyte_byte a_v.b) fun y7 => jp (ι := Val) (fun J9 => jp (ι := Bool) (fun J11 => br (decide (y5.kind = (1 : Int))) (J11 ((decide (y5.kind = (1 : Int))))) (J11 ((decide (y5.kind = (4 : Int)))))) (fun q10 => br q10 (some ((Val.mk a_v.kind a_v.n y7 a_v.l a_v.rule a_v.more), true, a_x)) (br (decide (y5.kind = (2 : Int))) (cal (bounds_Within y5.con a_v.n) fun y14 => some ((Val.mk a_v.kind a_v.n y7 a_v.l a_v.rule a_v.more), y14, a_x)) (br (decide (y5.kind = (5 : Int))) (cal (bounds_Within y5.con (y7.length : Int)) fun y17 => some ((Val.mk a_v.kind a_v.n y7 a_v.l a_v.rule a_v.more), y17, a_x)) (br (decide (y5.kind = (6 : Int))) (cal (bounds_Within y5.con (y7.length : Int)) fun y20 => jp (ι := Bool) (fun J22 => br y20 (cal (utf8_Valid y7) fun y24 => J22 (y24)) (J22 (false))) (fun q21 => some ((Val.mk a_v.kind a_v.n y7 a_v.l a_v.rule a_v.more), q21, a_x))) (br (decide (y5.kind = (3 : Int))) (cal (table_root y5.root y5.items) fun y25 => asr (decide (0 ≤ (0 : Int) ∧ (0 : Int) ≤ y25 ∧ y25 ≤ (y5.items.length : Int))) <| cal (slices_IndexFunc_Lapi_Item_api_Item_2 ((y5.items.take (y25).toNat).drop (0 : Int).toNat) (Val.mk a_v.kind a_v.n y7 a_v.l a_v.rule a_v.more)) fun y27 => br (decide ((0 : Int) ≤ y27.1)) (cal (getI y5.items y27.1) fun y28 => some ((Val.mk (3 : Int) y28.number ([] : (List UInt8)) ([] : (List Val)) (0 : Int) ([] : (List Raw))), true, a_x)) (J9 (y27.2))) (J9 ((Val.mk a_v.kind a_v.n y7 a_v.l a_v.rule a_v.more))))))))) (fun q8 => some ((Val.mk (0 : Int) (0 : Int) ([] : (List UInt8)) ([] : (List Val)) (0 : Int) ([] : (List Raw))), false, a_x)))

def table_maker_soft (a_x : GTmk) (a_at_ : Int) : Option (Int × GTmk) :=
  asr (decide (0 ≤ a_at_ ∧ a_at_ < ((a_x.types.l.length : Nat) : Int))) <| cal (a_x.types.l[a_at_.toNat]?) fun y3 => br (decide ((0 : Int) < (y3.tags.length : Int))) (some ((1 : Int), a_x)) (some ((0 : Int), a_x))

def tags_Wrap (a_tags : (List Tag)) (a_number : Int) (a_mode : Int) : Option ((List Tag) × Int) :=
  jp (ι := Bool) (fun J2 => br (decide (a_number < (0 : Int))) (J2 (true)) (J2 ((decide ((268435456 : Int) < a_number))))) (fun q1 => jp (ι := Bool) (fun J5 => br q1 (J5 (true)) (jp (ι := Bool) (fun J8 => br (decide (a_mode = (1 : Int))) (J8 ((decide ((a_tags.length : Int) = (0 : Int))))) (J8 (false))) (fun q7 => J5 (q7)))) (fun q4 => br q4 (some (([] : (List Tag)), (12 : Int))) (jp (ι := (List Tag)) (fun J11 => br (decide (a_mode = (1 : Int))) (asr (decide (0 ≤ (1 : Int) ∧ (1 : Int) ≤ (a_tags.length : Int) ∧ (a_tags.length : Int) ≤ (a_tags.length : Int))) <| J11 (((a_tags.take ((a_tags.length : Int)).toNat).drop ((1 : Int)).toNat))) (J11 (a_tags))) (fun q10 => cal (slices_Concat_Lapi_Tag_api_Tag ([([(Tag.mk (2 : Int) a_number)] : (List Tag)), q10] : (List (List Tag)))) fun y15 => some (y15, (0 : Int))))))

def table_maker_wrap (a_x : GTmk) (a_at_ : Int) (a_number : Int) (a_mode : Int) : Option (Int × GTmk) :=
  asr (decide (0 ≤ a_at_ ∧ a_at_ < ((a_x.types.l.length : Nat) : Int))) <| cal (a_x.types.l[a_at_.toNat]?) fun y3 => cal (tags_Wrap y3.tags a_number a_mode) fun y4 => jp (ι := GTmk) (fun J6 => br (decide (y4.2 = (0 : Int))) (asr (decide (0 ≤ a_at_ ∧ a_at_ < ((a_x.types.l.length : Nat) : Int))) <| cal (a_x.types.l[a_at_.toNat]?) fun y8 => J6 ((GTmk.mk (GTys.mk (a_x.types.l.set a_at_.toNat ({ y8 with tags := y4.1 }))) a_x.m))) (J6 (a_x))) (fun q5 => some (y4.2, q5))

def table_types_wild_c1 (a_x : GTyp) (a_a1 : Bool) : Option (Bool) :=
  jp (ι := Bool) (fun J2 => br a_a1 (J2 (true)) (jp (ι := Bool) (fun J5 => br (decide (a_x.kind = (9 : Int))) (J5 ((decide ((a_x.tags.length : Int) = (0 : Int))))) (J5 (false))) (fun q4 => jp (ι := Bool) (fun J8 => br q4 (J8 (a_x.more)) (J8 (false))) (fun q7 => J2 (q7))))) (fun q1 => some (q1))

def table_types_inner_F (table_types_inner' : GTmk → Int → Int → Bool → Option (GTmk × Int × Bool)) (a_t : GTmk) (a_at_ : Int) (a_left : Int) (a_do__0 : Bool) : Option (GTmk × Int × Bool) :=
  jp (ι := Bool) (fun J3 => br (decide (a_at_ < (0 : Int))) (J3 (true)) (J3 ((decide (((a_t.types.l.length : Nat) : Int) ≤ a_at_))))) (fun q2 => jp (ι := Bool) (fun J6 => br q2 (J6 (true)) (J6 ((decide (a_left = (0 : Int)))))) (fun q5 => br q5 (some (a_t, a_left, a_do__0)) (ck ((a_left - (1 : Int))) <| asr (decide (0 ≤ a_at_ ∧ a_at_ < ((a_t.types.l.length : Nat) : Int))) <| cal (a_t.types.l[a_at_.toNat]?) fun y10 => cal (table_types_wild_c1 y10 a_do__0) fun y12 => br (decide ((0 : Int) < (y10.tags.length : Int))) (some (a_t, (a_left - (1 : Int)), y12)) (lp (ι := Int × Bool × Int × GTmk) (fun L14 q13 => br (decide (q13.1 < (y10.fields.length : Int))) (cal (getI y10.fields q13.1) fun y19 => cal (table_types_inner' q13.2.2.2 y19.ty q13.2.2.1 q13.2.1) fun y21 => ck ((q13.1 + (1 : Int))) <| L14 ((q13.1 + (1 : Int)), y21.2.2, y21.2.1, y21.1)) (some (q13.2.2.2, q13.2.2.1, q13.2.1))) (((0 : Int), y12, (a_left - (1 : Int)), a_t))))))
def table_types_inner_grp : Nat → (GTmk → Int → Int → Bool → Option (GTmk × Int × Bool))
  | 0 => (fun _ _ _ _ => none)
  | n + 1 => let p := table_types_inner_grp n; (table_types_inner_F p)
def table_types_inner (n : Nat) : GTmk → Int → Int → Bool → Option (GTmk × Int × Bool) := (table_types_inner_grp n)

def table_types_wild (a_t : GTmk) (a_at_ : Int) : Option (Bool × GTmk) :=
  cal (table_types_inner fuel a_t a_at_ (300 : Int) false) fun y4 => some (y4.2.2, y4.1)

def table_types_begins_c1 (a_x : GTyp) (a_a1 : (List Tag)) : Option ((List Tag)) :=
  br (decide ((0 : Int) < (a_x.tags.length : Int))) (cal (getI a_x.tags (0 : Int)) fun y2 => asr (Nat.ble (a_a1.length + ([y2] : (List Tag)).length) 68719476736) <| some ((a_a1 ++ ([y2] : (List Tag))))) (some (a_a1))

def table_types_inner_1_F (table_types_inner_1' : GTmk → Int → Int → (List Tag) → Option (GTmk × Int × (List Tag))) (a_t : GTmk) (a_at_ : Int) (a_left : Int) (a_do__0 : (List Tag)) : Option (GTmk × Int × (List Tag)) :=
  jp (ι := Bool) (fun J4 => br (decide (a_at_ < (0 : Int))) (J4 (true)) (J4 ((decide (((a_t.types.l.length : Nat) : Int) ≤ a_at_))))) (fun q3 => jp (ι := Bool) (fun J7 => br q3 (J7 (true)) (J7 ((decide (a_left = (0 : Int)))))) (fun q6 => br q6 (some (a_t, a_left, a_do__0)) (ck ((a_left - (1 : Int))) <| asr (decide (0 ≤ a_at_ ∧ a_at_ < ((a_t.types.l.length : Nat) : Int))) <| cal (a_t.types.l[a_at_.toNat]?) fun y11 => cal (table_types_begins_c1 y11 a_do__0) fun y13 => br (decide ((0 : Int) < (y11.tags.length : Int))) (some (a_t, (a_left - (1 : Int)), y13)) (lp (ι := Int × (List Tag) × Int × GTmk) (fun L16 q15 => br (decide (q15.1 < (y11.fields.length : Int))) (cal (getI y11.fields q15.1) fun y22 => cal (table_types_inner_1' q15.2.2.2 y22.ty q15.2.2.1 q15.2.1) fun y24 => ck ((q15.1 + (1 : Int))) <| L16 ((q15.1 + (1 : Int)), y24.2.2, y24.2.1, y24.1)) (some (q15.2.2.2, q15.2.2.1, q15.2.1))) (((0 : Int), y13, (a_left - (1 : Int)), a_t))))))
def table_types_inner_1_grp : Nat → (GTmk → Int → Int → (List Tag) → Option (GTmk × Int × (List Tag)))
  | 0 => (fun _ _ _ _ => none)
  | n + 1 => let p := table_types_inner_1_grp n; (table_types_inner_1_F p)
def table_types_inner_1 (n : Nat) : GTmk → Int → Int → (List Tag) → Option (GTmk × Int × (List Tag)) := (table_types_inner_1_grp n)

def table_types_begins (a_t : GTmk) (a_at_ : Int) : Option ((List Tag) × GTmk) :=
  cal (table_types_inner_1 fuel a_t a_at_ (300 : Int) ([] : (List Tag))) fun y5 => some (y5.2.2, y5.1)

def table_types_told (a_t : GTmk) (a_l : (List GFld)) (a_open_ : Bool) : Option (Bool × GTmk) :=
  lp (ι := (List (List Tag)) × Int × GTmk) (fun L3 q2 => br (decide (q2.2.1 < (a_l.length : Int))) (cal (getI a_l q2.2.1) fun y19 => cal (table_types_wild q2.2.2 y19.ty) fun y21 => jp (ι := Bool) (fun J23 => br y21.1 (jp (ι := Bool) (fun J26 => br a_open_ (J26 (true)) (J26 ((decide ((1 : Int) < (a_l.length : Int)))))) (fun q25 => J23 (q25))) (J23 (false))) (fun q22 => br q22 (some (false, y21.2)) (cal (table_types_begins y21.2 y19.ty) fun y28 => asr (Nat.ble (q2.1.length + ([y28.1] : (List (List Tag))).length) 68719476736) <| ck ((q2.2.1 + (1 : Int))) <| L3 ((q2.1 ++ ([y28.1] : (List (List Tag)))), (q2.2.1 + (1 : Int)), y28.2)))) (cal (tags_Distinct q2.1) fun y33 => some (y33, q2.2.2))) ((([] : (List (List Tag))), (0 : Int), a_t))

def table_Loose (a_t : GTyp) (a_k : Int) : Option (Bool) :=
  cal (getI a_t.fields a_k) fun y1 => jp (ι := Bool) (fun J3 => br y1.optional (J3 (true)) (cal (getI a_t.fields a_k) fun y5 => J3 (y5.has))) (fun q2 => jp (ι := Bool) (fun J7 => br q2 (J7 (true)) (J7 ((decide (a_t.root ≤ a_k))))) (fun q6 => some (q6)))

def table_Last (a_t : GTyp) : Option (Int) :=
  lp (ι := Int) (fun L2 q1 => jp (ι := Bool) (fun J10 => br (decide ((0 : Int) < q1)) (ck ((q1 - (1 : Int))) <| cal (table_Loose a_t (q1 - (1 : Int))) fun y13 => J10 (y13)) (J10 (false))) (fun q9 => br q9 (ck ((q1 - (1 : Int))) <| L2 ((q1 - (1 : Int)))) (some (q1)))) (((min (max a_t.root (0 : Int)) (a_t.fields.length : Int))))

def table_types_apart (a_t : GTmk) (a_x : GTyp) : Option (Bool × GTmk) :=
  br (!decide (a_x.kind = (7 : Int))) (cal (table_types_told a_t a_x.fields a_x.more) fun y2 => some (y2.1, y2.2)) (lp (ι := Int × GTmk) (fun L4 q3 => br (decide (q3.1 < (a_x.fields.length : Int))) (jp (ι := GTmk) (fun J36 => cal (table_Loose a_x q3.1) fun y37 => br (!y37) (J36 (q3.2)) (ck ((q3.1 + (1 : Int))) <| lp (ι := Int) (fun L40 q39 => jp (ι := Bool) (fun J50 => br (decide (q39 < (a_x.fields.length : Int))) (ck ((q39 - (1 : Int))) <| cal (table_Loose a_x (q39 - (1 : Int))) fun y53 => J50 (y53)) (J50 (false))) (fun q49 => br q49 (ck ((q39 + (1 : Int))) <| L40 ((q39 + (1 : Int)))) (asr (decide (0 ≤ q3.1 ∧ q3.1 ≤ q39 ∧ q39 ≤ (a_x.fields.length : Int))) <| cal (table_types_told q3.2 ((a_x.fields.take (q39).toNat).drop (q3.1).toNat) false) fun y56 => br (!y56.1) (some (false, y56.2)) (J36 (y56.2))))) (((q3.1 + (1 : Int)))))) (fun q35 => ck ((q3.1 + (1 : Int))) <| L4 ((q3.1 + (1 : Int)), q35))) (jp (ι := Bool × GTmk) (fun J60 => br (!a_x.more) (J60 (true, q3.2)) (cal (table_Last a_x) fun y62 => asr (decide (0 ≤ y62 ∧ y62 ≤ (a_x.fields.length : Int) ∧ (a_x.fields.length : Int) ≤ (a_x.fields.length : Int))) <| cal (table_types_told q3.2 ((a_x.fields.take ((a_x.fields.length : Int)).toNat).drop (y62).toNat) true) fun y64 => J60 (y64.1, y64.2))) (fun q59 => some (q59.1, q59.2)))) (((0 : Int), a_t)))

def table_maker_marked (a_x : GTmk) (a_at_ : Int) (a_m : GMark) : Option (Int × GTmk) :=
  br (!a_m.has) (some ((0 : Int), a_x)) (jp (ι := Int × GTmk) (fun J3 => br (decide (a_m.mode = (2 : Int))) (J3 ((1 : Int), a_x)) (jp (ι := Bool) (fun J5 => br (decide (a_m.mode = (0 : Int))) (J5 ((!decide (a_x.m.tagging = (0 : Int))))) (J5 (false))) (fun q4 => br q4 (cal (table_maker_soft a_x a_at_) fun y7 => J3 (y7.1, y7.2)) (J3 ((0 : Int), a_x))))) (fun q2 => cal (table_maker_wrap q2.2 a_at_ a_m.number q2.1) fun y8 => some (y8.1, y8.2)))

def table_maker_field_F (table_maker_field' : GTmk → GNode → Int → Int → Bool → Option (GFld × Int × GTmk)) (table_maker_node' : GTmk → Int → Int → Option (Int × Int × GTmk)) (table_maker_made' : GTmk → GNode → Int → Option (Int × Int × GTmk)) (table_maker_fields' : GTmk → Int → GNode → Int → Option (Int × GTmk)) (a_x : GTmk) (a_n_ : GNode) (a_k : Int) (a_depth : Int) (a_auto : Bool) : Option (GFld × Int × GTmk) :=
  cal (getI a_n_.fields a_k) fun y3 => asr (decide (0 ≤ (0 : Int) ∧ (0 : Int) ≤ a_k ∧ a_k ≤ (a_n_.fields.length : Int))) <| cal (slices_ContainsFunc_Lapi_Field_api_Field_1 ((a_n_.fields.take (a_k).toNat).drop (0 : Int).toNat) y3) fun y6 => br y6.1 (some (y6.2, (8 : Int), a_x)) (ck ((a_depth + (1 : Int))) <| cal (table_maker_node' a_x y6.2.ty (a_depth + (1 : Int))) fun y8 => br (!decide (y8.2.1 = (0 : Int))) (some ({ y6.2 with ty := y8.1 }, y8.2.1, y8.2.2)) (jp (ι := GFld × GTmk) (fun J11 => br y6.2.has (cal (table_maker_standard y8.2.2 y8.1 y6.2.dflt) fun y12 => br (!y12.2.1) (some ({ y6.2 with ty := y8.1 }, (13 : Int), y12.2.2)) (J11 ({ { y6.2 with ty := y8.1 } with dflt := y12.1 }, y12.2.2))) (J11 ({ y6.2 with ty := y8.1 }, y8.2.2))) (fun q10 => jp (ι := Int × GTmk) (fun J15 => br a_auto (cal (table_maker_soft q10.2 q10.1.ty) fun y18 => cal (table_maker_wrap y18.2 q10.1.ty a_k y18.1) fun y19 => J15 (y19.1, y19.2)) (J15 (y8.2.1, q10.2))) (fun q14 => some (q10.1, q14.1, q14.2)))))
def table_maker_node_F (table_maker_field' : GTmk → GNode → Int → Int → Bool → Option (GFld × Int × GTmk)) (table_maker_node' : GTmk → Int → Int → Option (Int × Int × GTmk)) (table_maker_made' : GTmk → GNode → Int → Option (Int × Int × GTmk)) (table_maker_fields' : GTmk → Int → GNode → Int → Option (Int × GTmk)) (a_x : GTmk) (a_k : Int) (a_depth : Int) : Option (Int × Int × GTmk) :=
  jp (ι := Bool) (fun J3 => br (decide (a_k < (0 : Int))) (J3 (true)) (J3 ((decide ((a_x.m.nodes.length : Int) ≤ a_k))))) (fun q2 => br q2 (some ((0 : Int), (9 : Int), a_x)) (cal (getI a_x.m.nodes a_k) fun y5 => jp (ι := Int × Int × GTmk) (fun J8 => br (decide (y5.kind = (11 : Int))) (cal (refs_Find a_x.m y5.name) fun y11 => jp (ι := Bool) (fun J13 => br (decide (y11 < (0 : Int))) (J13 (true)) (J13 ((decide ((a_x.m.types.length : Int) ≤ y11))))) (fun q12 => br q12 (some ((0 : Int), (9 : Int), a_x)) (cal (getI a_x.m.types y11) fun y15 => cal (table_maker_node' a_x y15 a_depth) fun y16 => J8 (y16.1, y16.2.1, y16.2.2)))) (cal (table_maker_made' a_x y5 a_depth) fun y18 => J8 (y18.1, y18.2.1, y18.2.2))) (fun q7 => br (!decide (q7.2.1 = (0 : Int))) (some ((0 : Int), q7.2.1, q7.2.2)) (cal (table_maker_marked q7.2.2 q7.1 y5.mark) fun y20 => some (q7.1, y20.1, y20.2)))))
def table_maker_made_F (table_maker_field' : GTmk → GNode → Int → Int → Bool → Option (GFld × Int × GTmk)) (table_maker_node' : GTmk → Int → Int → Option (Int × Int × GTmk)) (table_maker_made' : GTmk → GNode → Int → Option (Int × Int × GTmk)) (table_maker_fields' : GTmk → Int → GNode → Int → Option (Int × GTmk)) (a_x : GTmk) (a_n_ : GNode) (a_depth : Int) : Option (Int × Int × GTmk) :=
  jp (ι := Bool) (fun J3 => br (decide ((16 : Int) < a_depth)) (J3 (true)) (J3 ((decide ((300 : Int) ≤ ((a_x.types.l.length : Nat) : Int)))))) (fun q2 => br q2 (some ((0 : Int), (5 : Int), a_x)) (jp (ι := GTyp) (fun J7 => br (!decide (a_n_.kind = (9 : Int))) (cal (tags_Universal a_n_.kind) fun y8 => J7 ((GTyp.mk a_n_.kind ([y8] : (List Tag)) a_n_.con ([] : (List GItem)) ([] : (List GFld)) a_n_.root a_n_.more (0 : Int)))) (J7 ((GTyp.mk a_n_.kind ([] : (List Tag)) a_n_.con ([] : (List GItem)) ([] : (List GFld)) a_n_.root a_n_.more (0 : Int))))) (fun q6 => cal (table_types_add a_x q6) fun y12 => jp (ι := Int × GTmk) (fun J15 => br (decide (a_n_.kind = (2 : Int))) (cal (bounds_Check a_n_.con false) fun y16 => J15 (y16, y12.2)) (jp (ι := Bool) (fun J18 => br (decide (a_n_.kind = (5 : Int))) (J18 ((decide (a_n_.kind = (5 : Int))))) (J18 ((decide (a_n_.kind = (6 : Int)))))) (fun q17 => br q17 (cal (bounds_Check a_n_.con true) fun y19 => J15 (y19, y12.2)) (br (decide (a_n_.kind = (10 : Int))) (cal (bounds_Check a_n_.con true) fun y20 => br (decide (y20 = (0 : Int))) (ck ((a_depth + (1 : Int))) <| cal (table_maker_node' y12.2 a_n_.of (a_depth + (1 : Int))) fun y22 => asr (decide (0 ≤ y12.1 ∧ y12.1 < ((y22.2.2.types.l.length : Nat) : Int))) <| cal (y22.2.2.types.l[y12.1.toNat]?) fun y25 => J15 (y22.2.1, (GTmk.mk (GTys.mk (y22.2.2.types.l.set y12.1.toNat ({ y25 with of := y22.1 }))) y22.2.2.m))) (J15 (y20, y12.2))) (br (decide (a_n_.kind = (3 : Int))) (cal (table_items a_n_) fun y28 => asr (decide (0 ≤ y12.1 ∧ y12.1 < ((y12.2.types.l.length : Nat) : Int))) <| cal (y12.2.types.l[y12.1.toNat]?) fun y30 => J15 (y28.2, (GTmk.mk (GTys.mk (y12.2.types.l.set y12.1.toNat ({ y30 with items := y28.1 }))) y12.2.m))) (jp (ι := Bool) (fun J32 => br (decide (a_n_.kind = (7 : Int))) (J32 ((decide (a_n_.kind = (7 : Int))))) (br (decide (a_n_.kind = (8 : Int))) (J32 ((decide (a_n_.kind = (8 : Int))))) (J32 ((decide (a_n_.kind = (9 : Int))))))) (fun q31 => br q31 (cal (table_maker_fields' y12.2 y12.1 a_n_ a_depth) fun y33 => J15 (y33.1, y33.2)) (J15 ((0 : Int), y12.2))))))))) (fun q14 => some (y12.1, q14.1, q14.2)))))
def table_maker_fields_F (table_maker_field' : GTmk → GNode → Int → Int → Bool → Option (GFld × Int × GTmk)) (table_maker_node' : GTmk → Int → Int → Option (Int × Int × GTmk)) (table_maker_made' : GTmk → GNode → Int → Option (Int × Int × GTmk)) (table_maker_fields' : GTmk → Int → GNode → Int → Option (Int × GTmk)) (a_x : GTmk) (a_at_ : Int) (a_n_ : GNode) (a_depth : Int) : Option (Int × GTmk) :=
  jp (ι := Bool) (fun J3 => br (decide (a_n_.kind = (9 : Int))) (J3 ((decide ((a_n_.fields.length : Int) = (0 : Int))))) (J3 (false))) (fun q2 => jp (ι := Bool) (fun J6 => br q2 (J6 ((!a_n_.more))) (J6 (false))) (fun q5 => br q5 (some ((11 : Int), a_x)) (cal (table_maker_automatic a_x a_n_) fun y8 => lp (ι := (List GFld) × Int × GTmk) (fun L10 q9 => br (decide (q9.2.1 < (a_n_.fields.length : Int))) (cal (table_maker_field' q9.2.2 a_n_ q9.2.1 a_depth y8.1) fun y23 => br (!decide (y23.2.1 = (0 : Int))) (some (y23.2.1, y23.2.2)) (asr (Nat.ble (q9.1.length + ([y23.1] : (List GFld)).length) 68719476736) <| ck ((q9.2.1 + (1 : Int))) <| L10 ((q9.1 ++ ([y23.1] : (List GFld))), (q9.2.1 + (1 : Int)), y23.2.2))) (asr (decide (0 ≤ a_at_ ∧ a_at_ < ((q9.2.2.types.l.length : Nat) : Int))) <| cal (q9.2.2.types.l[a_at_.toNat]?) fun y31 => asr (decide (0 ≤ a_at_ ∧ a_at_ < (((q9.2.2.types.l.set a_at_.toNat ({ y31 with fields := q9.1 })).length : Nat) : Int))) <| cal ((q9.2.2.types.l.set a_at_.toNat ({ y31 with fields := q9.1 }))[a_at_.toNat]?) fun y33 => cal (table_types_apart (GTmk.mk (GTys.mk (q9.2.2.types.l.set a_at_.toNat ({ y31 with fields := q9.1 }))) q9.2.2.m) y33) fun y34 => br (!y34.1) (some ((12 : Int), y34.2)) (some ((0 : Int), y34.2)))) ((([] : (List GFld)), (0 : Int), y8.2)))))
def table_maker_field_grp : Nat → (GTmk → GNode → Int → Int → Bool → Option (GFld × Int × GTmk)) × (GTmk → Int → Int → Option (Int × Int × GTmk)) × (GTmk → GNode → Int → Option (Int × Int × GTmk)) × (GTmk → Int → GNode → Int → Option (Int × GTmk))
  | 0 => (fun _ _ _ _ _ => none, fun _ _ _ => none, fun _ _ _ => none, fun _ _ _ _ => none)
  | n + 1 => let p := table_maker_field_grp n; (table_maker_field_F p.1 p.2.1 p.2.2.1 p.2.2.2, table_maker_node_F p.1 p.2.1 p.2.2.1 p.2.2.2, table_maker_made_F p.1 p.2.1 p.2.2.1 p.2.2.2, table_maker_fields_F p.1 p.2.1 p.2.2.1 p.2.2.2)
def table_maker_field (n : Nat) : GTmk → GNode → Int → Int → Bool → Option (GFld × Int × GTmk) := (table_maker_field_grp n).1
def table_maker_node (n : Nat) : GTmk → Int → Int → Option (Int × Int × GTmk) := (table_maker_field_grp n).2.1
def table_maker_made (n : Nat) : GTmk → GNode → Int → Option (Int × Int × GTmk) := (table_maker_field_grp n).2.2.1
def table_maker_fields (n : Nat) : GTmk → Int → GNode → Int → Option (Int × GTmk) := (table_maker_field_grp n).2.2.2

def table_Make (a_m : GMod) : Option (GTab × Int × Int) :=
  cal (refs_Order a_m) fun y2 => br (!decide (y2.2.2 = (0 : Int))) (some ((GTab.mk (Str.mk []) ([] : (List Str)) ([] : (List Int)) ([] : (List GTyp))), y2.2.1, y2.2.2)) (br (decide ((a_m.types.length : Int) < (a_m.names.length : Int))) (some ((GTab.mk (Str.mk []) ([] : (List Str)) ([] : (List Int)) ([] : (List GTyp))), (a_m.types.length : Int), (9 : Int))) (jp (ι := GTab) (fun J6 => cal (slices_Clone_Lstring_string a_m.names) fun y7 => J6 ((GTab.mk a_m.name y7 ([] : (List Int)) ([] : (List GTyp))))) (fun q5 => lp (ι := Int × GTab × GTmk) (fun L15 q14 => br (decide (q14.1 < (a_m.names.length : Int))) (cal (getI a_m.types q14.1) fun y23 => cal (table_maker_node fuel q14.2.2 y23 (0 : Int)) fun y24 => br (!decide (y24.2.1 = (0 : Int))) (some ((GTab.mk (Str.mk []) ([] : (List Str)) ([] : (List Int)) ([] : (List GTyp))), q14.1, y24.2.1)) (asr (Nat.ble (q14.2.1.roots.length + ([y24.1] : (List Int)).length) 68719476736) <| ck ((q14.1 + (1 : Int))) <| L15 ((q14.1 + (1 : Int)), (GTab.mk q14.2.1.name q14.2.1.names (q14.2.1.roots ++ ([y24.1] : (List Int))) q14.2.1.types), y24.2.2))) (some ((GTab.mk q14.2.1.name q14.2.1.names q14.2.1.roots q14.2.2.types.l), (0 : Int), (0 : Int)))) (((0 : Int), q5, (GTmk.mk (GTys.mk ([] : (List GTyp))) a_m))))))
end Go.Proofs.YtiibmpdjkdjbiaaGreatDoor

