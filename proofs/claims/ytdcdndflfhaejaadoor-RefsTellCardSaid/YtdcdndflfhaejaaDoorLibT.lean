/- The structs of the api, as they lie in memory. Printed by types.py. No condition: general lemmas. -/
import Derived.Test.YtdcdndflfhaejaaDoorLibX
namespace Go.Sy

section parts
variable {A0 A1 A2 A3 A4 A5 A6 A7 A8 A9 : Type} [Rep A0] [Rep A1] [Rep A2] [Rep A3] [Rep A4] [Rep A5] [Rep A6] [Rep A7] [Rep A8] [Rep A9]
@[reducible] def pf0 : Fld (A0 × A1) A0 := Fld.fst A0 A1
@[reducible] def pl1 : Fld (A0 × A1) A1 := Fld.snd A0 A1
@[reducible] def pf1 : Fld (A0 × A1 × A2) A1 := (Fld.snd A0 (A1 × A2)).comp (pf0 (A0 := A1) (A1 := A2))
@[reducible] def pf2 : Fld (A0 × A1 × A2 × A3) A2 := (Fld.snd A0 (A1 × A2 × A3)).comp (pf1 (A0 := A1) (A1 := A2) (A2 := A3))
@[reducible] def pf3 : Fld (A0 × A1 × A2 × A3 × A4) A3 := (Fld.snd A0 (A1 × A2 × A3 × A4)).comp (pf2 (A0 := A1) (A1 := A2) (A2 := A3) (A3 := A4))
@[reducible] def pf4 : Fld (A0 × A1 × A2 × A3 × A4 × A5) A4 := (Fld.snd A0 (A1 × A2 × A3 × A4 × A5)).comp (pf3 (A0 := A1) (A1 := A2) (A2 := A3) (A3 := A4) (A4 := A5))
@[reducible] def pf5 : Fld (A0 × A1 × A2 × A3 × A4 × A5 × A6) A5 := (Fld.snd A0 (A1 × A2 × A3 × A4 × A5 × A6)).comp (pf4 (A0 := A1) (A1 := A2) (A2 := A3) (A3 := A4) (A4 := A5) (A5 := A6))
@[reducible] def pf6 : Fld (A0 × A1 × A2 × A3 × A4 × A5 × A6 × A7) A6 := (Fld.snd A0 (A1 × A2 × A3 × A4 × A5 × A6 × A7)).comp (pf5 (A0 := A1) (A1 := A2) (A2 := A3) (A3 := A4) (A4 := A5) (A5 := A6) (A6 := A7))
@[reducible] def pf7 : Fld (A0 × A1 × A2 × A3 × A4 × A5 × A6 × A7 × A8) A7 := (Fld.snd A0 (A1 × A2 × A3 × A4 × A5 × A6 × A7 × A8)).comp (pf6 (A0 := A1) (A1 := A2) (A2 := A3) (A3 := A4) (A4 := A5) (A5 := A6) (A6 := A7) (A7 := A8))
@[reducible] def pf8 : Fld (A0 × A1 × A2 × A3 × A4 × A5 × A6 × A7 × A8 × A9) A8 := (Fld.snd A0 (A1 × A2 × A3 × A4 × A5 × A6 × A7 × A8 × A9)).comp (pf7 (A0 := A1) (A1 := A2) (A2 := A3) (A3 := A4) (A4 := A5) (A5 := A6) (A6 := A7) (A7 := A8) (A8 := A9))
@[reducible] def pl2 : Fld (A0 × A1 × A2) A2 := (Fld.snd A0 (A1 × A2)).comp (pl1 (A0 := A1) (A1 := A2))
@[reducible] def pl3 : Fld (A0 × A1 × A2 × A3) A3 := (Fld.snd A0 (A1 × A2 × A3)).comp (pl2 (A0 := A1) (A1 := A2) (A2 := A3))
@[reducible] def pl4 : Fld (A0 × A1 × A2 × A3 × A4) A4 := (Fld.snd A0 (A1 × A2 × A3 × A4)).comp (pl3 (A0 := A1) (A1 := A2) (A2 := A3) (A3 := A4))
@[reducible] def pl5 : Fld (A0 × A1 × A2 × A3 × A4 × A5) A5 := (Fld.snd A0 (A1 × A2 × A3 × A4 × A5)).comp (pl4 (A0 := A1) (A1 := A2) (A2 := A3) (A3 := A4) (A4 := A5))
@[reducible] def pl6 : Fld (A0 × A1 × A2 × A3 × A4 × A5 × A6) A6 := (Fld.snd A0 (A1 × A2 × A3 × A4 × A5 × A6)).comp (pl5 (A0 := A1) (A1 := A2) (A2 := A3) (A3 := A4) (A4 := A5) (A5 := A6))
@[reducible] def pl7 : Fld (A0 × A1 × A2 × A3 × A4 × A5 × A6 × A7) A7 := (Fld.snd A0 (A1 × A2 × A3 × A4 × A5 × A6 × A7)).comp (pl6 (A0 := A1) (A1 := A2) (A2 := A3) (A3 := A4) (A4 := A5) (A5 := A6) (A6 := A7))
@[reducible] def pl8 : Fld (A0 × A1 × A2 × A3 × A4 × A5 × A6 × A7 × A8) A8 := (Fld.snd A0 (A1 × A2 × A3 × A4 × A5 × A6 × A7 × A8)).comp (pl7 (A0 := A1) (A1 := A2) (A2 := A3) (A3 := A4) (A4 := A5) (A5 := A6) (A6 := A7) (A7 := A8))
@[reducible] def pl9 : Fld (A0 × A1 × A2 × A3 × A4 × A5 × A6 × A7 × A8 × A9) A9 := (Fld.snd A0 (A1 × A2 × A3 × A4 × A5 × A6 × A7 × A8 × A9)).comp (pl8 (A0 := A1) (A1 := A2) (A2 := A3) (A3 := A4) (A4 := A5) (A5 := A6) (A6 := A7) (A7 := A8) (A8 := A9))
end parts

@[reducible] def Val.f0 : Fld Val (Int) := Fld.ofV pf0 Val.kind (fun x y => ⟨y, x.n, x.b, x.l, x.rule, x.more⟩) (fun _ => rfl) (fun ⟨_, _, _, _, _, _⟩ _ => rfl)
@[reducible] def Val.f1 : Fld Val (Int) := Fld.ofV pf1 Val.n (fun x y => ⟨x.kind, y, x.b, x.l, x.rule, x.more⟩) (fun _ => rfl) (fun ⟨_, _, _, _, _, _⟩ _ => rfl)
@[reducible] def Val.f2 : Fld Val (List UInt8) := Fld.ofV pf2 Val.b (fun x y => ⟨x.kind, x.n, y, x.l, x.rule, x.more⟩) (fun _ => rfl) (fun ⟨_, _, _, _, _, _⟩ _ => rfl)
@[reducible] def Val.f3 : Fld Val (List Val) := Fld.ofV pf3 Val.l (fun x y => ⟨x.kind, x.n, x.b, y, x.rule, x.more⟩) (fun _ => rfl) (fun ⟨_, _, _, _, _, _⟩ _ => rfl)
@[reducible] def Val.f4 : Fld Val (Int) := Fld.ofV pf4 Val.rule (fun x y => ⟨x.kind, x.n, x.b, x.l, y, x.more⟩) (fun _ => rfl) (fun ⟨_, _, _, _, _, _⟩ _ => rfl)
@[reducible] def Val.f5 : Fld Val (List Raw) := Fld.ofV pl5 Val.more (fun x y => ⟨x.kind, x.n, x.b, x.l, x.rule, y⟩) (fun _ => rfl) (fun ⟨_, _, _, _, _, _⟩ _ => rfl)
@[reducible] def Val.zero : Val := ⟨0, 0, [], [], 0, []⟩
@[reducible] def Raw.f0 : Fld Raw (Int) := Fld.of Raw.to pf0 (fun x => x.n) (fun x y => { x with n := y }) (fun _ => rfl) (fun _ _ => rfl)
@[reducible] def Raw.f1 : Fld Raw (List UInt8) := Fld.of Raw.to pl1 (fun x => x.b) (fun x y => { x with b := y }) (fun _ => rfl) (fun _ _ => rfl)
@[reducible] def Raw.zero : Raw := ⟨0, []⟩

structure GTok where
  kind : Int
  text : Str
  at_ : Int
deriving DecidableEq
abbrev GTok.to (x : GTok) : Int × Str × Int := (x.kind, x.text, x.at_)
instance : Rep GTok := Rep.iso GTok.to
@[reducible] def GTok.f0 : Fld GTok (Int) := Fld.of GTok.to pf0 (fun x => x.kind) (fun x y => { x with kind := y }) (fun _ => rfl) (fun _ _ => rfl)
@[reducible] def GTok.f1 : Fld GTok (Str) := Fld.of GTok.to pf1 (fun x => x.text) (fun x y => { x with text := y }) (fun _ => rfl) (fun _ _ => rfl)
@[reducible] def GTok.f2 : Fld GTok (Int) := Fld.of GTok.to pl2 (fun x => x.at_) (fun x y => { x with at_ := y }) (fun _ => rfl) (fun _ _ => rfl)
@[reducible] def GTok.zero : GTok := ⟨0, ⟨[]⟩, 0⟩
theorem GTok.cv {S : Frz} {x : GTok} : Cv S x.to x := fun _ h => h
theorem GTok.cvTo {S : Frz} {x : GTok} : Cv S x x.to := fun _ h => h
theorem GTok.eqOk {P : Program} {T : TypeId} {g0 g1 g2 : Go.Field} (hu : P.underlying T = some (.struct #[g0, g1, g2])) (hg : P.eqGuardType P.depth T = false) (hs : P.stoodInHeld T = false) (n0 : (g0.name == "_") = false) (o0 : g0.offset = GTok.f0.off) (t0 : P.underlying g0.type = some (.int .i64)) (n1 : (g1.name == "_") = false) (o1 : g1.offset = GTok.f1.off) (t1 : P.underlying g1.type = some .string) (n2 : (g2.name == "_") = false) (o2 : g2.offset = GTok.f2.off) (t2 : P.underlying g2.type = some (.int .i64)) : EqOk P T GTok :=
  EqOk.struct (e := fun x y => (decide (x.kind = y.kind) && (decide (x.text = y.text) && (decide (x.at_ = y.at_) && true)))) rfl hu hg hs (.int GTok.f0 n0 o0 t0 (.str GTok.f1 n1 o1 t1 (.int GTok.f2 n2 o2 t2 .nil))) (fun x y => by
  obtain ⟨a0, a1, a2⟩ := x; obtain ⟨b0, b1, b2⟩ := y
  simp only [GTok.mk.injEq, Bool.and_true, Bool.decide_and])

structure GItem where
  name : Str
  number : Int
  has : Bool
deriving DecidableEq
abbrev GItem.to (x : GItem) : Str × Int × Bool := (x.name, x.number, x.has)
instance : Rep GItem := Rep.iso GItem.to
@[reducible] def GItem.f0 : Fld GItem (Str) := Fld.of GItem.to pf0 (fun x => x.name) (fun x y => { x with name := y }) (fun _ => rfl) (fun _ _ => rfl)
@[reducible] def GItem.f1 : Fld GItem (Int) := Fld.of GItem.to pf1 (fun x => x.number) (fun x y => { x with number := y }) (fun _ => rfl) (fun _ _ => rfl)
@[reducible] def GItem.f2 : Fld GItem (Bool) := Fld.of GItem.to pl2 (fun x => x.has) (fun x y => { x with has := y }) (fun _ => rfl) (fun _ _ => rfl)
@[reducible] def GItem.zero : GItem := ⟨⟨[]⟩, 0, false⟩
theorem GItem.cv {S : Frz} {x : GItem} : Cv S x.to x := fun _ h => h
theorem GItem.cvTo {S : Frz} {x : GItem} : Cv S x x.to := fun _ h => h
theorem GItem.eqOk {P : Program} {T : TypeId} {g0 g1 g2 : Go.Field} (hu : P.underlying T = some (.struct #[g0, g1, g2])) (hg : P.eqGuardType P.depth T = false) (hs : P.stoodInHeld T = false) (n0 : (g0.name == "_") = false) (o0 : g0.offset = GItem.f0.off) (t0 : P.underlying g0.type = some .string) (n1 : (g1.name == "_") = false) (o1 : g1.offset = GItem.f1.off) (t1 : P.underlying g1.type = some (.int .i64)) (n2 : (g2.name == "_") = false) (o2 : g2.offset = GItem.f2.off) (t2 : P.underlying g2.type = some .bool) : EqOk P T GItem :=
  EqOk.struct (e := fun x y => (decide (x.name = y.name) && (decide (x.number = y.number) && (decide (x.has = y.has) && true)))) rfl hu hg hs (.str GItem.f0 n0 o0 t0 (.int GItem.f1 n1 o1 t1 (.bool GItem.f2 n2 o2 t2 .nil))) (fun x y => by
  obtain ⟨a0, a1, a2⟩ := x; obtain ⟨b0, b1, b2⟩ := y
  simp only [GItem.mk.injEq, Bool.and_true, Bool.decide_and])

structure GCon where
  has : Bool
  hasLow : Bool
  hasHigh : Bool
  more : Bool
  low : Int
  high : Int
deriving DecidableEq
abbrev GCon.to (x : GCon) : Bool × Bool × Bool × Bool × Int × Int := (x.has, x.hasLow, x.hasHigh, x.more, x.low, x.high)
instance : Rep GCon := Rep.iso GCon.to
@[reducible] def GCon.f0 : Fld GCon (Bool) := Fld.of GCon.to pf0 (fun x => x.has) (fun x y => { x with has := y }) (fun _ => rfl) (fun _ _ => rfl)
@[reducible] def GCon.f1 : Fld GCon (Bool) := Fld.of GCon.to pf1 (fun x => x.hasLow) (fun x y => { x with hasLow := y }) (fun _ => rfl) (fun _ _ => rfl)
@[reducible] def GCon.f2 : Fld GCon (Bool) := Fld.of GCon.to pf2 (fun x => x.hasHigh) (fun x y => { x with hasHigh := y }) (fun _ => rfl) (fun _ _ => rfl)
@[reducible] def GCon.f3 : Fld GCon (Bool) := Fld.of GCon.to pf3 (fun x => x.more) (fun x y => { x with more := y }) (fun _ => rfl) (fun _ _ => rfl)
@[reducible] def GCon.f4 : Fld GCon (Int) := Fld.of GCon.to pf4 (fun x => x.low) (fun x y => { x with low := y }) (fun _ => rfl) (fun _ _ => rfl)
@[reducible] def GCon.f5 : Fld GCon (Int) := Fld.of GCon.to pl5 (fun x => x.high) (fun x y => { x with high := y }) (fun _ => rfl) (fun _ _ => rfl)
@[reducible] def GCon.zero : GCon := ⟨false, false, false, false, 0, 0⟩
theorem GCon.cv {S : Frz} {x : GCon} : Cv S x.to x := fun _ h => h
theorem GCon.cvTo {S : Frz} {x : GCon} : Cv S x x.to := fun _ h => h
theorem GCon.eqOk {P : Program} {T : TypeId} {g0 g1 g2 g3 g4 g5 : Go.Field} (hu : P.underlying T = some (.struct #[g0, g1, g2, g3, g4, g5])) (hg : P.eqGuardType P.depth T = false) (hs : P.stoodInHeld T = false) (n0 : (g0.name == "_") = false) (o0 : g0.offset = GCon.f0.off) (t0 : P.underlying g0.type = some .bool) (n1 : (g1.name == "_") = false) (o1 : g1.offset = GCon.f1.off) (t1 : P.underlying g1.type = some .bool) (n2 : (g2.name == "_") = false) (o2 : g2.offset = GCon.f2.off) (t2 : P.underlying g2.type = some .bool) (n3 : (g3.name == "_") = false) (o3 : g3.offset = GCon.f3.off) (t3 : P.underlying g3.type = some .bool) (n4 : (g4.name == "_") = false) (o4 : g4.offset = GCon.f4.off) (t4 : P.underlying g4.type = some (.int .i64)) (n5 : (g5.name == "_") = false) (o5 : g5.offset = GCon.f5.off) (t5 : P.underlying g5.type = some (.int .i64)) : EqOk P T GCon :=
  EqOk.struct (e := fun x y => (decide (x.has = y.has) && (decide (x.hasLow = y.hasLow) && (decide (x.hasHigh = y.hasHigh) && (decide (x.more = y.more) && (decide (x.low = y.low) && (decide (x.high = y.high) && true))))))) rfl hu hg hs (.bool GCon.f0 n0 o0 t0 (.bool GCon.f1 n1 o1 t1 (.bool GCon.f2 n2 o2 t2 (.bool GCon.f3 n3 o3 t3 (.int GCon.f4 n4 o4 t4 (.int GCon.f5 n5 o5 t5 .nil)))))) (fun x y => by
  obtain ⟨a0, a1, a2, a3, a4, a5⟩ := x; obtain ⟨b0, b1, b2, b3, b4, b5⟩ := y
  simp only [GCon.mk.injEq, Bool.and_true, Bool.decide_and])

structure GMark where
  has : Bool
  number : Int
  mode : Int
deriving DecidableEq
abbrev GMark.to (x : GMark) : Bool × Int × Int := (x.has, x.number, x.mode)
instance : Rep GMark := Rep.iso GMark.to
@[reducible] def GMark.f0 : Fld GMark (Bool) := Fld.of GMark.to pf0 (fun x => x.has) (fun x y => { x with has := y }) (fun _ => rfl) (fun _ _ => rfl)
@[reducible] def GMark.f1 : Fld GMark (Int) := Fld.of GMark.to pf1 (fun x => x.number) (fun x y => { x with number := y }) (fun _ => rfl) (fun _ _ => rfl)
@[reducible] def GMark.f2 : Fld GMark (Int) := Fld.of GMark.to pl2 (fun x => x.mode) (fun x y => { x with mode := y }) (fun _ => rfl) (fun _ _ => rfl)
@[reducible] def GMark.zero : GMark := ⟨false, 0, 0⟩
theorem GMark.cv {S : Frz} {x : GMark} : Cv S x.to x := fun _ h => h
theorem GMark.cvTo {S : Frz} {x : GMark} : Cv S x x.to := fun _ h => h
theorem GMark.eqOk {P : Program} {T : TypeId} {g0 g1 g2 : Go.Field} (hu : P.underlying T = some (.struct #[g0, g1, g2])) (hg : P.eqGuardType P.depth T = false) (hs : P.stoodInHeld T = false) (n0 : (g0.name == "_") = false) (o0 : g0.offset = GMark.f0.off) (t0 : P.underlying g0.type = some .bool) (n1 : (g1.name == "_") = false) (o1 : g1.offset = GMark.f1.off) (t1 : P.underlying g1.type = some (.int .i64)) (n2 : (g2.name == "_") = false) (o2 : g2.offset = GMark.f2.off) (t2 : P.underlying g2.type = some (.int .i64)) : EqOk P T GMark :=
  EqOk.struct (e := fun x y => (decide (x.has = y.has) && (decide (x.number = y.number) && (decide (x.mode = y.mode) && true)))) rfl hu hg hs (.bool GMark.f0 n0 o0 t0 (.int GMark.f1 n1 o1 t1 (.int GMark.f2 n2 o2 t2 .nil))) (fun x y => by
  obtain ⟨a0, a1, a2⟩ := x; obtain ⟨b0, b1, b2⟩ := y
  simp only [GMark.mk.injEq, Bool.and_true, Bool.decide_and])

structure GFld where
  name : Str
  ty : Int
  optional : Bool
  has : Bool
  dflt : Val
  group : Int
abbrev GFld.to (x : GFld) : Str × Int × Bool × Bool × Val × Int := (x.name, x.ty, x.optional, x.has, x.dflt, x.group)
instance : Rep GFld := Rep.iso GFld.to
@[reducible] def GFld.f0 : Fld GFld (Str) := Fld.of GFld.to pf0 (fun x => x.name) (fun x y => { x with name := y }) (fun _ => rfl) (fun _ _ => rfl)
@[reducible] def GFld.f1 : Fld GFld (Int) := Fld.of GFld.to pf1 (fun x => x.ty) (fun x y => { x with ty := y }) (fun _ => rfl) (fun _ _ => rfl)
@[reducible] def GFld.f2 : Fld GFld (Bool) := Fld.of GFld.to pf2 (fun x => x.optional) (fun x y => { x with optional := y }) (fun _ => rfl) (fun _ _ => rfl)
@[reducible] def GFld.f3 : Fld GFld (Bool) := Fld.of GFld.to pf3 (fun x => x.has) (fun x y => { x with has := y }) (fun _ => rfl) (fun _ _ => rfl)
@[reducible] def GFld.f4 : Fld GFld (Val) := Fld.of GFld.to pf4 (fun x => x.dflt) (fun x y => { x with dflt := y }) (fun _ => rfl) (fun _ _ => rfl)
@[reducible] def GFld.f5 : Fld GFld (Int) := Fld.of GFld.to pl5 (fun x => x.group) (fun x y => { x with group := y }) (fun _ => rfl) (fun _ _ => rfl)
@[reducible] def GFld.zero : GFld := ⟨⟨[]⟩, 0, false, false, Val.zero, 0⟩
theorem GFld.cv {S : Frz} {x : GFld} : Cv S x.to x := fun _ h => h
theorem GFld.cvTo {S : Frz} {x : GFld} : Cv S x x.to := fun _ h => h

structure GNode where
  kind : Int
  name : Str
  mark : GMark
  con : GCon
  items : List GItem
  fields : List GFld
  root : Int
  more : Bool
  of : Int
abbrev GNode.to (x : GNode) : Int × Str × GMark × GCon × List GItem × List GFld × Int × Bool × Int := (x.kind, x.name, x.mark, x.con, x.items, x.fields, x.root, x.more, x.of)
instance : Rep GNode := Rep.iso GNode.to
@[reducible] def GNode.f0 : Fld GNode (Int) := Fld.of GNode.to pf0 (fun x => x.kind) (fun x y => { x with kind := y }) (fun _ => rfl) (fun _ _ => rfl)
@[reducible] def GNode.f1 : Fld GNode (Str) := Fld.of GNode.to pf1 (fun x => x.name) (fun x y => { x with name := y }) (fun _ => rfl) (fun _ _ => rfl)
@[reducible] def GNode.f2 : Fld GNode (GMark) := Fld.of GNode.to pf2 (fun x => x.mark) (fun x y => { x with mark := y }) (fun _ => rfl) (fun _ _ => rfl)
@[reducible] def GNode.f3 : Fld GNode (GCon) := Fld.of GNode.to pf3 (fun x => x.con) (fun x y => { x with con := y }) (fun _ => rfl) (fun _ _ => rfl)
@[reducible] def GNode.f4 : Fld GNode (List GItem) := Fld.of GNode.to pf4 (fun x => x.items) (fun x y => { x with items := y }) (fun _ => rfl) (fun _ _ => rfl)
@[reducible] def GNode.f5 : Fld GNode (List GFld) := Fld.of GNode.to pf5 (fun x => x.fields) (fun x y => { x with fields := y }) (fun _ => rfl) (fun _ _ => rfl)
@[reducible] def GNode.f6 : Fld GNode (Int) := Fld.of GNode.to pf6 (fun x => x.root) (fun x y => { x with root := y }) (fun _ => rfl) (fun _ _ => rfl)
@[reducible] def GNode.f7 : Fld GNode (Bool) := Fld.of GNode.to pf7 (fun x => x.more) (fun x y => { x with more := y }) (fun _ => rfl) (fun _ _ => rfl)
@[reducible] def GNode.f8 : Fld GNode (Int) := Fld.of GNode.to pl8 (fun x => x.of) (fun x y => { x with of := y }) (fun _ => rfl) (fun _ _ => rfl)
@[reducible] def GNode.zero : GNode := ⟨0, ⟨[]⟩, GMark.zero, GCon.zero, [], [], 0, false, 0⟩
theorem GNode.cv {S : Frz} {x : GNode} : Cv S x.to x := fun _ h => h
theorem GNode.cvTo {S : Frz} {x : GNode} : Cv S x x.to := fun _ h => h

structure GMod where
  name : Str
  tagging : Int
  names : List Str
  types : List Int
  nodes : List GNode
abbrev GMod.to (x : GMod) : Str × Int × List Str × List Int × List GNode := (x.name, x.tagging, x.names, x.types, x.nodes)
instance : Rep GMod := Rep.iso GMod.to
@[reducible] def GMod.f0 : Fld GMod (Str) := Fld.of GMod.to pf0 (fun x => x.name) (fun x y => { x with name := y }) (fun _ => rfl) (fun _ _ => rfl)
@[reducible] def GMod.f1 : Fld GMod (Int) := Fld.of GMod.to pf1 (fun x => x.tagging) (fun x y => { x with tagging := y }) (fun _ => rfl) (fun _ _ => rfl)
@[reducible] def GMod.f2 : Fld GMod (List Str) := Fld.of GMod.to pf2 (fun x => x.names) (fun x y => { x with names := y }) (fun _ => rfl) (fun _ _ => rfl)
@[reducible] def GMod.f3 : Fld GMod (List Int) := Fld.of GMod.to pf3 (fun x => x.types) (fun x y => { x with types := y }) (fun _ => rfl) (fun _ _ => rfl)
@[reducible] def GMod.f4 : Fld GMod (List GNode) := Fld.of GMod.to pl4 (fun x => x.nodes) (fun x y => { x with nodes := y }) (fun _ => rfl) (fun _ _ => rfl)
@[reducible] def GMod.zero : GMod := ⟨⟨[]⟩, 0, [], [], []⟩
theorem GMod.cv {S : Frz} {x : GMod} : Cv S x.to x := fun _ h => h
theorem GMod.cvTo {S : Frz} {x : GMod} : Cv S x x.to := fun _ h => h

structure GTyp where
  kind : Int
  tags : List Tag
  con : GCon
  items : List GItem
  fields : List GFld
  root : Int
  more : Bool
  of : Int
abbrev GTyp.to (x : GTyp) : Int × List Tag × GCon × List GItem × List GFld × Int × Bool × Int := (x.kind, x.tags, x.con, x.items, x.fields, x.root, x.more, x.of)
instance : Rep GTyp := Rep.iso GTyp.to
@[reducible] def GTyp.f0 : Fld GTyp (Int) := Fld.of GTyp.to pf0 (fun x => x.kind) (fun x y => { x with kind := y }) (fun _ => rfl) (fun _ _ => rfl)
@[reducible] def GTyp.f1 : Fld GTyp (List Tag) := Fld.of GTyp.to pf1 (fun x => x.tags) (fun x y => { x with tags := y }) (fun _ => rfl) (fun _ _ => rfl)
@[reducible] def GTyp.f2 : Fld GTyp (GCon) := Fld.of GTyp.to pf2 (fun x => x.con) (fun x y => { x with con := y }) (fun _ => rfl) (fun _ _ => rfl)
@[reducible] def GTyp.f3 : Fld GTyp (List GItem) := Fld.of GTyp.to pf3 (fun x => x.items) (fun x y => { x with items := y }) (fun _ => rfl) (fun _ _ => rfl)
@[reducible] def GTyp.f4 : Fld GTyp (List GFld) := Fld.of GTyp.to pf4 (fun x => x.fields) (fun x y => { x with fields := y }) (fun _ => rfl) (fun _ _ => rfl)
@[reducible] def GTyp.f5 : Fld GTyp (Int) := Fld.of GTyp.to pf5 (fun x => x.root) (fun x y => { x with root := y }) (fun _ => rfl) (fun _ _ => rfl)
@[reducible] def GTyp.f6 : Fld GTyp (Bool) := Fld.of GTyp.to pf6 (fun x => x.more) (fun x y => { x with more := y }) (fun _ => rfl) (fun _ _ => rfl)
@[reducible] def GTyp.f7 : Fld GTyp (Int) := Fld.of GTyp.to pl7 (fun x => x.of) (fun x y => { x with of := y }) (fun _ => rfl) (fun _ _ => rfl)
@[reducible] def GTyp.zero : GTyp := ⟨0, [], GCon.zero, [], [], 0, false, 0⟩
theorem GTyp.cv {S : Frz} {x : GTyp} : Cv S x.to x := fun _ h => h
theorem GTyp.cvTo {S : Frz} {x : GTyp} : Cv S x x.to := fun _ h => h

structure GTab where
  name : Str
  names : List Str
  roots : List Int
  types : List GTyp
abbrev GTab.to (x : GTab) : Str × List Str × List Int × List GTyp := (x.name, x.names, x.roots, x.types)
instance : Rep GTab := Rep.iso GTab.to
@[reducible] def GTab.f0 : Fld GTab (Str) := Fld.of GTab.to pf0 (fun x => x.name) (fun x y => { x with name := y }) (fun _ => rfl) (fun _ _ => rfl)
@[reducible] def GTab.f1 : Fld GTab (List Str) := Fld.of GTab.to pf1 (fun x => x.names) (fun x y => { x with names := y }) (fun _ => rfl) (fun _ _ => rfl)
@[reducible] def GTab.f2 : Fld GTab (List Int) := Fld.of GTab.to pf2 (fun x => x.roots) (fun x y => { x with roots := y }) (fun _ => rfl) (fun _ _ => rfl)
@[reducible] def GTab.f3 : Fld GTab (List GTyp) := Fld.of GTab.to pl3 (fun x => x.types) (fun x y => { x with types := y }) (fun _ => rfl) (fun _ _ => rfl)
@[reducible] def GTab.zero : GTab := ⟨⟨[]⟩, [], [], []⟩
theorem GTab.cv {S : Frz} {x : GTab} : Cv S x.to x := fun _ h => h
theorem GTab.cvTo {S : Frz} {x : GTab} : Cv S x x.to := fun _ h => h

structure GPar where
  l : List GTok
  at_ : Int
  m : GMod
  e : Int
  p : Int
abbrev GPar.to (x : GPar) : List GTok × Int × GMod × Int × Int := (x.l, x.at_, x.m, x.e, x.p)
instance : Rep GPar := Rep.iso GPar.to
@[reducible] def GPar.f0 : Fld GPar (List GTok) := Fld.of GPar.to pf0 (fun x => x.l) (fun x y => { x with l := y }) (fun _ => rfl) (fun _ _ => rfl)
@[reducible] def GPar.f1 : Fld GPar (Int) := Fld.of GPar.to pf1 (fun x => x.at_) (fun x y => { x with at_ := y }) (fun _ => rfl) (fun _ _ => rfl)
@[reducible] def GPar.f2 : Fld GPar (GMod) := Fld.of GPar.to pf2 (fun x => x.m) (fun x y => { x with m := y }) (fun _ => rfl) (fun _ _ => rfl)
@[reducible] def GPar.f3 : Fld GPar (Int) := Fld.of GPar.to pf3 (fun x => x.e) (fun x y => { x with e := y }) (fun _ => rfl) (fun _ _ => rfl)
@[reducible] def GPar.f4 : Fld GPar (Int) := Fld.of GPar.to pl4 (fun x => x.p) (fun x y => { x with p := y }) (fun _ => rfl) (fun _ _ => rfl)
@[reducible] def GPar.zero : GPar := ⟨[], 0, GMod.zero, 0, 0⟩
theorem GPar.cv {S : Frz} {x : GPar} : Cv S x.to x := fun _ h => h
theorem GPar.cvTo {S : Frz} {x : GPar} : Cv S x x.to := fun _ h => h


/-! ### Zeros -/
def Zr {α : Type} [Rep α] (cs : List Value) (x : α) : Prop := ∀ S, Rep.rd S cs x
theorem zr_int : Zr [.int .i64 0] (0 : Int) := fun _ => ⟨rfl, in_mk (by omega) (by omega)⟩
theorem zr_bool : Zr [.bool false] false := fun _ => rfl
theorem zr_str : Zr [.string ⟨#[]⟩] (Str.mk []) := fun _ => ⟨rfl, Nat.zero_le _⟩
theorem zr_u8 : Zr [.int .u8 0] (0 : UInt8) := fun _ => rfl
theorem zr_u64 : Zr [.int .u64 0] (0 : UInt64) := fun _ => rfl
theorem zr_list {α : Type} [Rep α] : Zr [.slice none 0 0] ([] : List α) := fun _ => ⟨_, rfl, none, 0, rfl, Nat.le_refl _, Nat.zero_le _, .inl rfl⟩
theorem zr_tl {α : Type} [Rep α] : Zr [.slice none 0 0] (TList.mk none ([] : List α)) := fun S => ⟨_, rfl, nilv_appv S _ rfl⟩
theorem zr_vh : Zr [.slice none 0 0] (Vh.mk none 0) := fun _ => ⟨_, rfl, Nat.zero_le _, rfl, rfl⟩
theorem zr_pair {α β : Type} [Rep α] [Rep β] {c1 c2 : List Value} {x : α} {y : β} (h : Zr c1 x) (k : Zr c2 y) : Zr (c1 ++ c2) (x, y) := fun S => ⟨c1, c2, rfl, h S, k S⟩
theorem zr_val : Zr [.int .i64 0, .int .i64 0, .slice none 0 0, .slice none 0 0, .int .i64 0, .slice none 0 0] Val.zero := fun S => Val.rd_to.2 (zr_pair zr_int (zr_pair zr_int (zr_pair zr_list (zr_pair zr_list (zr_pair zr_int zr_list)))) S)
theorem zero_agg {α : Type} [Rep α] {P : Program} {T : TypeId} {x : α} {cs : List Value} (ha : Rep.agg α = true) (h : (P.info? T).bind (·.zero) = some (.agg cs.toArray)) (hz : Zr cs x) : ZeroOk P T x := ZeroOk.of h fun S => isv_of_agg ha (by simpa using hz S)
theorem zero_one {α : Type} [Rep α] {P : Program} {T : TypeId} {x : α} {v : Value} (ha : Rep.agg α = false) (h : (P.info? T).bind (·.zero) = some v) (hz : Zr [v] x) : ZeroOk P T x := ZeroOk.of h fun S => isv_of_plain ha (hz S)

section ops
variable {c : Ctx} {d : Option Nat} {ty : TypeId} {pos : String} {af : Array Edge} {g : Option (Nat × Bool)} {σ : St}
theorem v_fa {α β γ : Type} [Rep α] [Rep β] [Rep γ] {b : Nat} {L : Fld α β} {x : Operand} {T f : Nat} (hx : opnd σ.Γ x = some (ptrv b L)) (M : Fld β γ) (hf : FldB c.P T f M.off (Rep.n γ) (Rep.agg γ) = true) :
    OpV c ⟨d, .fieldAddr T x f, ty, pos, af, g⟩ σ (ptrv b (L.comp M)) := v_fieldAddr M hf hx
theorem v_fi {β γ : Type} [Rep β] [Rep γ] {y : β} {z : γ} {x : Operand} {T f : Nat} (hx : opnd σ.Γ x = some (immv y)) (M : Fld β γ) (hf : FldB c.P T f M.off (Rep.n γ) (Rep.agg γ) = true) (hz : M.get y = z) :
    OpV c ⟨d, .fieldAddr T x f, ty, pos, af, g⟩ σ (immv z) := hz ▸ v_fieldAddrI M hf hx
theorem v_fp {α β γ : Type} [Rep α] [Rep β] [Rep γ] {b : Nat} {L : Fld α β} {y : α} {x : Operand} {T f : Nat} {o : Obj} (hx : opnd σ.Γ x = some (pinv o b L y)) (M : Fld β γ) (hf : FldB c.P T f M.off (Rep.n γ) (Rep.agg γ) = true) :
    OpV c ⟨d, .fieldAddr T x f, ty, pos, af, g⟩ σ (pinv o b (L.comp M) y) := v_fieldAddrP M hf hx
theorem v_fv {α β γ : Type} [Rep α] [Rep β] [Rep γ] {t : Vt} {i : Nat} {L : Fld α β} {x : Operand} {T f : Nat} (hx : opnd σ.Γ x = some (veltv t i L)) (M : Fld β γ) (hf : FldB c.P T f M.off (Rep.n γ) (Rep.agg γ) = true) :
    OpV c ⟨d, .fieldAddr T x f, ty, pos, af, g⟩ σ (veltv t i (L.comp M)) := v_vfield M hf hx
/-- A place of a list. -/
theorem v_ix {α : Type} [Rep α] {x i : Operand} {l : List α} {k : Int} {y : α} {R : VP} {T : Nat} (hx : opnd σ.Γ x = some R) (hc : ∀ S v, R.p S v → (isv l).p S v) (hi : opnd σ.Γ i = some (isv k)) (hT : SlB c.P T (Rep.n α) (Rep.agg α) = true)
    (hy : getI l k = some y) : OpV c ⟨d, .indexAddr T x i, ty, pos, af, g⟩ σ (immv y) := fun S a w m => by
  obtain ⟨hk, hy⟩ := getI_inv hy
  obtain ⟨p, cap, h1, h2, h3, h4⟩ := isv_list.1 (hc _ _ (opnd_sound m hx))
  obtain ⟨h5, _⟩ := isv_int.1 (opnd_sound m hi)
  have hlt := (List.getElem?_eq_some_iff.1 hy).1
  rcases h4 with h4 | ⟨ad, cs, h6, h7, h8, h9⟩
  · subst h4; simp at hy
  obtain ⟨e, hu, hte⟩ := SlB.spec hT
  subst h6
  refine ⟨.pointer (some (ad.add (k.toNat * Rep.n α))), ⟨_, _, rfl, Frz.has_take (Frz.has_sub h7 _) (Rep.n α), rdL_get (r := Rep.rd S) (fun _ _ h => Rep.len h) h9 hy⟩, fun w' _ => ?_⟩
  have hb : 0 ≤ k ∧ k < (l.length : Int) := ⟨hk, by omega⟩
  simp [execOp, h1, h5, Instr.indexAt, asIntOf, underlying, hu, hb, TyB.size hte]
theorem v_ln {α : Type} [Rep α] {x : Operand} {l : List α} {R : VP} {T n : Nat} {agg : Bool} (hx : opnd σ.Γ x = some R) (hc : ∀ S v, R.p S v → (isv l).p S v) (hT : SlB c.P T n agg = true) :
    OpV c ⟨d, .call ⟨.builtin .len, #[x], #[T]⟩, ty, pos, af, g⟩ σ (isv (l.length : Int)) := fun S a w m => by
  obtain ⟨p, cap, h1, h2, h3, _⟩ := isv_list.1 (hc _ _ (opnd_sound m hx))
  exact ⟨.int .i64 l.length, isv_int.2 ⟨rfl, by unfold inI64; unfold maxList at h3; omega⟩, fun w' _ => by
    simp [execOp, resolve, invoke, builtin, h1, run_len hT]⟩
/-- Pieces of lists; what may be appended to stays so where its end stays. -/
theorem sl_sound {α : Type} [Rep α] {S : Frz} {a : Act} {w : World} (m : Models c σ S a w) {x : Operand} {lo hi : Option Operand} {l : List α} {R : VP} {k q : Int} {T : Nat} (hx : opnd σ.Γ x = some R) (hc : ∀ S v, R.p S v → (isv l).p S v) (hT : SlB c.P T (Rep.n α) (Rep.agg α) = true)
    (hlo : (lo = none ∧ k = 0) ∨ ∃ o, lo = some o ∧ opnd σ.Γ o = some (isv k)) (hhi : (hi = none ∧ q = l.length) ∨ ∃ o, hi = some o ∧ opnd σ.Γ o = some (isv q))
    (hk : 0 ≤ k) (hkq : k ≤ q) (hq : q ≤ l.length) : ∃ p cap, a.eval x = .slice p l.length cap ∧ l.length ≤ cap ∧ ∀ w', (execOp a.eval ⟨d, .slice T x lo hi none, ty, pos, af, g⟩).run c.P w' = .ok (.value (.slice (if cap = k.toNat then p else p.map (·.add (k.toNat * Rep.n α))) (q.toNat - k.toNat) (cap - k.toNat))) w' := by
  obtain ⟨p, cap, h1, h2, h3, h4⟩ := isv_list.1 (hc _ _ (opnd_sound m hx))
  obtain ⟨e, hu, hte⟩ := SlB.spec hT
  refine ⟨p, cap, h1, h2, fun w' => ?_⟩
  have b1 : ∀ (v : Value) (code : BoundsCode), v = .int .i64 q → (Instr.sliceBound v cap code).run c.P w' = .ok q.toNat w' := fun v code hv => by
    rw [hv]; exact sliceBound_ok (by omega) (by omega)
  have b2 : ∀ (v : Value) (code : BoundsCode), v = .int .i64 k → (Instr.sliceBound v q.toNat code).run c.P w' = .ok k.toNat w' := fun v code hv => by
    rw [hv]; exact sliceBound_ok (by omega) (by omega)
  rcases hlo with ⟨rfl, rfl⟩ | ⟨o1, rfl, ho1⟩
  · rcases hhi with ⟨rfl, rfl⟩ | ⟨o2, rfl, ho2⟩
    · simp [execOp, h1, Instr.sliceAt, Instr.slice, Instr.sliceBounds, underlying, hu, TyB.size hte]
    · have e2 := b1 _ .sliceAcap (isv_int.1 (opnd_sound m ho2)).1
      simp [execOp, h1, Instr.sliceAt, Instr.slice, Instr.sliceBounds, underlying, hu, TyB.size hte, e2]
  · have e1 := b2 _ .sliceB (isv_int.1 (opnd_sound m ho1)).1
    rcases hhi with ⟨rfl, rfl⟩ | ⟨o2, rfl, ho2⟩
    · have e1' : (Instr.sliceBound (a.eval o1) l.length .sliceB).run c.P w' = .ok k.toNat w' := by simpa using e1
      simp [execOp, h1, Instr.sliceAt, Instr.slice, Instr.sliceBounds, underlying, hu, TyB.size hte, e1']
    · have e2 := b1 _ .sliceAcap (isv_int.1 (opnd_sound m ho2)).1
      simp [execOp, h1, Instr.sliceAt, Instr.slice, Instr.sliceBounds, underlying, hu, TyB.size hte, e1, e2]
theorem v_sl {α : Type} [Rep α] {x : Operand} {lo hi : Option Operand} {l : List α} {R : VP} {k q : Int} {T : Nat} (hx : opnd σ.Γ x = some R) (hc : ∀ S v, R.p S v → (isv l).p S v) (hT : SlB c.P T (Rep.n α) (Rep.agg α) = true)
    (hlo : (lo = none ∧ k = 0) ∨ ∃ o, lo = some o ∧ opnd σ.Γ o = some (isv k)) (hhi : (hi = none ∧ q = l.length) ∨ ∃ o, hi = some o ∧ opnd σ.Γ o = some (isv q))
    (hk : 0 ≤ k) (hkq : k ≤ q) (hq : q ≤ l.length) : OpV c ⟨d, .slice T x lo hi none, ty, pos, af, g⟩ σ (isv ((l.take q.toNat).drop k.toNat)) := fun S a w m => by
  obtain ⟨p, cap, h1, h2, hr⟩ := sl_sound (d := d) (ty := ty) (pos := pos) (af := af) (g := g) m hx hc hT hlo hhi hk hkq hq
  obtain ⟨p', cap', h1', _, h3, h4⟩ := isv_list.1 (hc _ _ (opnd_sound m hx))
  rw [h1] at h1'; cases h1'
  have hlen : ((l.take q.toNat).drop k.toNat).length = q.toNat - k.toNat := by rw [List.length_drop, List.length_take]; omega
  refine ⟨_, isv_list.2 ⟨_, _, by rw [hlen], by rw [hlen]; omega, by rw [hlen]; omega, ?_⟩, fun w' _ => hr w'⟩
  by_cases he : (l.take q.toNat).drop k.toNat = []
  · exact .inl he
  right
  have hpos : 0 < q.toNat - k.toNat := by rw [← hlen]; exact List.length_pos_iff.2 he
  rcases h4 with h4 | ⟨ad, cs, h6, h7, h8, h9⟩
  · subst h4; simp at he
  subst h6
  have hne : ¬ cap = k.toNat := by omega
  refine ⟨ad.add (k.toNat * Rep.n α), ((cs.take (q.toNat * Rep.n α)).drop (k.toNat * Rep.n α)), by rw [if_neg hne]; rfl, ?_, ?_, rdL_drop (fun _ _ h => Rep.len h) _ (rdL_take (fun _ _ h => Rep.len h) _ h9)⟩
  · exact Frz.has_sub (Frz.has_take h7 _) _
  · have h10 : q.toNat * Rep.n α ≤ l.length * Rep.n α := Nat.mul_le_mul_right _ (by omega)
    rw [hlen, List.length_drop, List.length_take, h8, Nat.min_eq_left h10, Nat.sub_mul]
theorem t_slA {α : Type} [Rep α] {Γ : Slots} {H Hr : List Ent} {K : St → Prop} {dd : Nat} {x lo : Operand} {l : List α} {t : Tok} {k : Int} {T : Nat} (hx : opnd Γ x = some (appv t l)) (hT : SlB c.P T (Rep.n α) (Rep.agg α) = true) (hlo : opnd Γ lo = some (isv k))
    (hk : 0 ≤ k) (hkq : k ≤ l.length) (hp : Pick (tokE t) H Hr) (kk : ∀ t', K ⟨(dd, appv t' (l.drop k.toNat)) :: Γ, tokE t' :: Hr⟩) (hd : Nat.blt dd c.n = true := by rfl) : OpT c ⟨some dd, .slice T x (some lo) none none, ty, pos, af, g⟩ ⟨Γ, H⟩ K := by
  intro S a w next Q m hn
  obtain ⟨v, hv, hr⟩ := v_sl (σ := ⟨Γ, H⟩) (d := some dd) (ty := ty) (pos := pos) (af := af) (g := g) hx appv_isv hT (.inr ⟨_, rfl, hlo⟩) (.inl ⟨rfl, rfl⟩) hk hkq (Int.le_refl _) S a w m
  obtain ⟨p, cap, h1, h2, hr2⟩ := sl_sound (σ := ⟨Γ, H⟩) (d := some dd) (ty := ty) (pos := pos) (af := af) (g := g) m hx appv_isv hT (.inr ⟨_, rfl, hlo⟩) (.inl ⟨rfl, rfl⟩) hk hkq (Int.le_refl _)
  have e := (hr w m.cls).symm.trans (hr2 w)
  have e2 : v = .slice (if cap = k.toNat then p else p.map (·.add (k.toNat * Rep.n α))) ((l.length : Int).toNat - k.toNat) (cap - k.toNat) := by
    injection e with e3 _; injection e3
  have hl : (l.take (l.length : Int).toNat).drop k.toNat = l.drop k.toNat := by simp
  rw [hl] at hv
  unfold Oper.wp
  rw [hr w m.cls]
  have hlen : (l.drop k.toNat).length = l.length - k.toNat := List.length_drop
  obtain ⟨_, ht⟩ := opnd_sound m hx
  rw [h1] at ht
  obtain ⟨S1, hS1, m1⟩ := upd_front (c := c) (Γ := Γ) hp S a w m
  by_cases hc0 : cap = k.toNat
  · obtain ⟨S2, hS2, m2⟩ := upd_tok (c := c) (Γ := Γ) (H := Hr) S1 a w (m1.weak ⟨fun i R h => ⟨R, h, fun _ _ h => h⟩, [tokE t], takes_rot Hr⟩)
    refine hn _ _ _ _ (Frz.le_trans hS1 hS2) (kk none) (m2.put hd ⟨isv_list.1 ((isv (l.drop k.toNat)).mono (Frz.le_trans hS1 hS2) hv), p, ?_⟩)
    rw [e2, if_pos hc0, hlen]
    have e3 : (l.length : Int).toNat - k.toNat = l.length - k.toNat := by omega
    have e4 : cap - k.toNat = l.length - k.toNat := by omega
    rw [e3, e4]
  · refine hn _ _ _ _ hS1 (kk t) (m1.put hd ⟨isv_list.1 ((isv (l.drop k.toNat)).mono hS1 hv), ?_⟩)
    cases t with
    | none =>
      obtain ⟨p0, e0⟩ := ht
      cases e0
      exact ⟨_, by rw [e2, hlen]; rfl⟩
    | some t =>
      obtain ⟨b, F, C⟩ := t
      obtain ⟨off, cap0, e0, hF, hC⟩ := ht
      cases e0
      refine ⟨off + k.toNat * Rep.n α, cap - k.toNat, ?_, ?_, ?_⟩
      · rw [e2, if_neg hc0, hlen]; simp [add_none]
      · rw [hlen, Nat.sub_mul, ← hF]
        have : k.toNat * Rep.n α ≤ l.length * Rep.n α := Nat.mul_le_mul_right _ (by omega)
        omega
      · rw [Nat.sub_mul, ← hC]
        have : k.toNat * Rep.n α ≤ cap * Rep.n α := Nat.mul_le_mul_right _ (by omega)
        omega
end ops
end Go.Sy
