/- Walks, printed by mill.py. -/
import Derived.Test.YtndfkmgciajjnaaGreatDoorPbA
import Derived.Test.YtndfkmgciajjnaaGreatDoorPbB
import Derived.Test.YtndfkmgciajjnaaGreatDoorPbC
import Derived.Test.YtndfkmgciajjnaaGreatDoorPbD
import Derived.Test.YtndfkmgciajjnaaGreatDoorProg
import Derived.Shelf.Unicode.ValidAny
import Derived.KernelRfl
set_option linter.unusedVariables false
set_option linter.unusedSimpArgs false

namespace Go.Proofs.Q
open Go.Sy
def valRen:Shelf.Ren:=⟨fun x=>bif Nat.beq x 196 then 136 else bif Nat.beq x 259 then 149 else x,fun x=>bif Nat.beq x 0 then 0 else bif Nat.beq x 3 then 3 else bif Nat.beq x 4 then 4 else bif Nat.beq x 5 then 5 else bif Nat.beq x 9 then 9 else bif Nat.beq x 12 then 12 else bif Nat.beq x 46 then 50 else bif Nat.beq x 53 then 168 else bif Nat.beq x 119 then 130 else bif Nat.beq x 138 then 132 else bif Nat.beq x 139 then 133 else x,fun x=>bif Nat.beq x 3 then 0 else bif Nat.beq x 4 then 1 else x⟩
set_option maxRecDepth 100000 in
theorem valLays:Lays.n196 Tryz.prog valRen:={
  mixed:=by kernel_rfl
  f196:=Tryz.func136.trans (by kernel_rfl)
  f259:=Tryz.func149.trans (by kernel_rfl)
  t0:=Tryz.underlying0
  a0:=Tryz.isAgg0
  z0:=Tryz.sizeOf0
  v0:=Tryz.zeroValue0
  t3:=Tryz.underlying3
  a3:=Tryz.isAgg3
  z3:=Tryz.sizeOf3
  v3:=Tryz.zeroValue3
  t4:=Tryz.underlying4
  a4:=Tryz.isAgg4
  z4:=Tryz.sizeOf4
  v4:=Tryz.zeroValue4
  t5:=Tryz.underlying5
  a5:=Tryz.isAgg5
  z5:=Tryz.sizeOf5
  v5:=Tryz.zeroValue5
  t9:=Tryz.underlying9
  a9:=Tryz.isAgg9
  z9:=Tryz.sizeOf9
  v9:=Tryz.zeroValue9
  t12:=Tryz.underlying12
  a12:=Tryz.isAgg12
  z12:=Tryz.sizeOf12
  v12:=Tryz.zeroValue12
  t46:=Tryz.underlying50
  a46:=Tryz.isAgg50
  z46:=Tryz.sizeOf50
  v46:=Tryz.zeroValue50
  t53:=Tryz.underlying168
  a53:=Tryz.isAgg168
  z53:=Tryz.sizeOf168
  v53:=Tryz.zeroValue168
  t119:=Tryz.underlying130
  a119:=Tryz.isAgg130
  z119:=Tryz.sizeOf130
  t138:=Tryz.underlying132
  a138:=Tryz.isAgg132
  z138:=Tryz.sizeOf132
  v138:=Tryz.zeroValue132
  t139:=Tryz.underlying133
  a139:=Tryz.isAgg133
  z139:=Tryz.sizeOf133
  v139:=Tryz.zeroValue133
  g3:=by kernel_rfl
  g4:=by kernel_rfl }
theorem zks:∀ {a_s:Str} {r:Bool},utf8_ValidString a_s=some r→Ctr Tryz.prog 136 [isv (a_s)] [] (fun R H=>R=oneOf [isv (r)]∧H=[]):=by
  intro s r h
  obtain rfl:=Option.some.inj h
  refine ⟨⟨_,Tryz.func136,rfl,by decide +kernel⟩,fun S w vs hT hs hv ho=>?_⟩
  match vs,hv with
  | [v],⟨hv,_⟩ =>
    obtain ⟨rfl,hl⟩:=zed.1 hv
    have hb:=Any.utf8_ValidString valLays s.ba w (by rw [Str.ba_size];unfold maxText at hl;omega) (hT w hs _ _ valLays.g3 valLays.g4)
    refine hb.mono fun e w' ⟨he,hk⟩=>⟨.bool (Lib.validD s.ba.data.toList),S,_,[],⟨rfl,rfl⟩,he,?_,⟨⟨hk.os,hk.tape,hk.output,hk.size,fun k hk' _=>hk.block k hk'⟩,Go.Sy.Grow.refl _ _ _,fun b cs hb=>?_⟩,zf1 _ _ _ _⟩
    · refine za6.2 ?_
      show Value.bool (Lib.validD s.b.toArray.toList)=_
      rfl
    · obtain ⟨c,T,fr,h1,h2⟩:=hs b cs hb
      exact ⟨c,T,fr,by rw [hk.block b (Array.getElem?_eq_some_iff.1 h1).1];exact h1,h2⟩
end Go.Proofs.Q


namespace Go.Proofs.Q
open Go.Sy
set_option maxRecDepth 4000
@[reducible] def zjx:Fld ((List GTok) × Int × (Str × Int × (TList Str) × (TList Int) × Vh) × Int × Int) (List GTok):=pf0
@[reducible] def zhL:Fld ((List GTok) × Int × (Str × Int × (TList Str) × (TList Int) × Vh) × Int × Int) Int:=pf1
@[reducible] def zbB:Fld ((List GTok) × Int × (Str × Int × (TList Str) × (TList Int) × Vh) × Int × Int) Int:=pf3
@[reducible] def znt:Fld ((List GTok) × Int × (Str × Int × (TList Str) × (TList Int) × Vh) × Int × Int) Int:=pl4
@[reducible] def zcj:Fld ((List GTok) × Int × (Str × Int × (TList Str) × (TList Int) × Vh) × Int × Int) (Str × Int × (TList Str) × (TList Int) × Vh):=pf2
@[reducible] def zsw:Fld (Str × Int × (TList Str) × (TList Int) × Vh) Str:=pf0
@[reducible] def zoO:Fld (Str × Int × (TList Str) × (TList Int) × Vh) Int:=pf1
@[reducible] def zmI:Fld (Str × Int × (TList Str) × (TList Int) × Vh) (TList Str):=pf2
@[reducible] def ziP:Fld (Str × Int × (TList Str) × (TList Int) × Vh) Vh:=pl4
@[reducible] def zlE:Fld (Int × Str × GMark × GCon × (TList GItem) × (TList GFld) × Int × Bool × Int) GMark:=pf2
@[reducible] def zcL:Fld (Int × Str × GMark × GCon × (TList GItem) × (TList GFld) × Int × Bool × Int) Int:=pf0
@[reducible] def zjH:Fld (Int × Str × GMark × GCon × (TList GItem) × (TList GFld) × Int × Bool × Int) GCon:=pf3
@[reducible] def zgs:Fld (Int × Str × GMark × GCon × (TList GItem) × (TList GFld) × Int × Bool × Int) (TList GItem):=pf4
@[reducible] def zfN:Fld (Int × Str × GMark × GCon × (TList GItem) × (TList GFld) × Int × Bool × Int) Bool:=pf7
@[reducible] def zjR:Fld (Int × Str × GMark × GCon × (TList GItem) × (TList GFld) × Int × Bool × Int) Int:=pf6
@[reducible] def zhN:Fld (Int × Str × GMark × GCon × (TList GItem) × (TList GFld) × Int × Bool × Int) (TList GFld):=pf5
@[reducible] def zrW:Fld (Int × Str × GMark × GCon × (TList GItem) × (TList GFld) × Int × Bool × Int) Int:=pl8
@[reducible] def zrw:Fld (Int × Str × GMark × GCon × (TList GItem) × (TList GFld) × Int × Bool × Int) Str:=pf1
@[reducible] def zoK:Fld (Str × Int × (TList Str) × (TList Int) × Vh) (TList Int):=pf3
@[reducible] def zrs:Fld ((List GTok) × Int × (Str × Int × (TList Str) × (TList Int) × (List GNode)) × Int × Int) (Str × Int × (TList Str) × (TList Int) × (List GNode)):=pf2
theorem ze70:ZeroOk Tryz.prog 70 ((GMod.mk (Str.mk []) (0:Int) ([]:(List Str)) ([]:(List Int)) ([]:(List GNode))):GMod):=zbr (cs:=[.string ⟨#[]⟩,.int .i64 0,.slice none 0 0,.slice none 0 0,.slice none 0 0]) rfl (by kernel_rfl) (zF zei (zF zaR (zF zaF (zF zaF zaF))))
theorem st9:StrB Tryz.prog 9=true:=by kernel_rfl
theorem eq5:EqOk Tryz.prog 5 UInt8:=EqOk.u8
theorem znS:FldB Tryz.prog 109 2 2 1 false=true:=by kernel_rfl
theorem bu109:BuildB Tryz.prog 109=true:=by kernel_rfl
theorem ze109:ZeroOk Tryz.prog 109 ((GTok.mk (0:Int) (Str.mk []) (0:Int)):GTok):=zbr (cs:=[.int .i64 0,.string ⟨#[]⟩,.int .i64 0]) rfl (by kernel_rfl) (zF zaR (zF zei zaR))
theorem el99:elB Tryz.prog 99 3=true:=by kernel_rfl
theorem zqB:appB Tryz.prog 99 99 3=true:=by kernel_rfl
theorem ty109:TyB Tryz.prog 109 3 true=true:=by kernel_rfl
theorem moOrd:Tryz.prog.follows .mixedOrders=true:=by kernel_rfl
theorem zcs:FldB Tryz.prog 109 0 0 1 false=true:=by kernel_rfl
theorem ty3:TyB Tryz.prog 3 1 false=true:=by kernel_rfl
theorem zdN:FldB Tryz.prog 109 1 1 1 false=true:=by kernel_rfl
theorem ty9:TyB Tryz.prog 9 1 false=true:=by kernel_rfl
theorem el27:elB Tryz.prog 27 1=true:=by kernel_rfl
theorem sl27:SlB Tryz.prog 27 1 false=true:=by kernel_rfl
theorem eq9:EqOk Tryz.prog 9 Str:=EqOk.str
theorem bu70:BuildB Tryz.prog 70=true:=by kernel_rfl
theorem ty70:TyB Tryz.prog 70 5 true=true:=by kernel_rfl
theorem zmc:FldB Tryz.prog 104 0 0 1 false=true:=by kernel_rfl
theorem bu104:BuildB Tryz.prog 104=true:=by kernel_rfl
theorem zt5:ZeroOk Tryz.prog 104 ((([]:(List GTok)),(0:Int),((Str.mk []),(0:Int),(TList.mk none ([]:(List Str))),(TList.mk none ([]:(List Int))),(Vh.mk none 0)),(0:Int),(0:Int)):((List GTok) × Int × (Str × Int × (TList Str) × (TList Int) × Vh) × Int × Int)):=zbr (cs:=[.slice none 0 0,.int .i64 0,.string ⟨#[]⟩,.int .i64 0,.slice none 0 0,.slice none 0 0,.slice none 0 0,.int .i64 0,.int .i64 0]) rfl (by kernel_rfl) (zF zaF (zF zaR (zF (zF zei (zF zaR (zF zm2 (zF zm2 zux)))) (zF zaR zaR))))
theorem ty99:TyB Tryz.prog 99 1 false=true:=by kernel_rfl
theorem zk2:FldB Tryz.prog 104 1 1 1 false=true:=by kernel_rfl
theorem sl99:SlB Tryz.prog 99 3 true=true:=by kernel_rfl
theorem zcD:FldB Tryz.prog 104 3 7 1 false=true:=by kernel_rfl
theorem ty38:TyB Tryz.prog 38 1 false=true:=by kernel_rfl
theorem zqD:FldB Tryz.prog 104 4 8 1 false=true:=by kernel_rfl
theorem zdO:FldB Tryz.prog 104 2 2 5 true=true:=by kernel_rfl
theorem zso:FldB Tryz.prog 70 0 0 1 false=true:=by kernel_rfl
theorem znX:FldB Tryz.prog 70 1 1 1 false=true:=by kernel_rfl
theorem zfq:FldB Tryz.prog 70 2 2 1 false=true:=by kernel_rfl
theorem ty27:TyB Tryz.prog 27 1 false=true:=by kernel_rfl
theorem zia:FldB Tryz.prog 70 4 4 1 false=true:=by kernel_rfl
theorem ty68:TyB Tryz.prog 68 1 false=true:=by kernel_rfl
theorem sl68:SlB Tryz.prog 68 16 true=true:=by kernel_rfl
theorem bu146:BuildB Tryz.prog 146=true:=by kernel_rfl
theorem ze146:ZeroOk Tryz.prog 146 ((GNode.mk (0:Int) (Str.mk []) (GMark.mk false (0:Int) (0:Int)) (GCon.mk false false false false (0:Int) (0:Int)) ([]:(List GItem)) ([]:(List GFld)) (0:Int) false (0:Int)):GNode):=zbr (cs:=[.int .i64 0,.string ⟨#[]⟩,.bool false,.int .i64 0,.int .i64 0,.bool false,.bool false,.bool false,.bool false,.int .i64 0,.int .i64 0,.slice none 0 0,.slice none 0 0,.int .i64 0,.bool false,.int .i64 0]) rfl (by kernel_rfl) (zF zaR (zF zei (zF (zF zbx (zF zaR zaR)) (zF (zF zbx (zF zbx (zF zbx (zF zbx (zF zaR zaR))))) (zF zaF (zF zaF (zF zaR (zF zbx zaR))))))))
theorem el68:elB Tryz.prog 68 16=true:=by kernel_rfl
theorem ztC:appB Tryz.prog 68 68 16=true:=by kernel_rfl
theorem zqE:ZeroOk Tryz.prog 146 (((0:Int),(Str.mk []),(GMark.mk false (0:Int) (0:Int)),(GCon.mk false false false false (0:Int) (0:Int)),(TList.mk none ([]:(List GItem))),(TList.mk none ([]:(List GFld))),(0:Int),false,(0:Int)):(Int × Str × GMark × GCon × (TList GItem) × (TList GFld) × Int × Bool × Int)):=zbr (cs:=[.int .i64 0,.string ⟨#[]⟩,.bool false,.int .i64 0,.int .i64 0,.bool false,.bool false,.bool false,.bool false,.int .i64 0,.int .i64 0,.slice none 0 0,.slice none 0 0,.int .i64 0,.bool false,.int .i64 0]) rfl (by kernel_rfl) (zF zaR (zF zei (zF (zF zbx (zF zaR zaR)) (zF (zF zbx (zF zbx (zF zbx (zF zbx (zF zaR zaR))))) (zF zm2 (zF zm2 (zF zaR (zF zbx zaR))))))))
theorem ty146:TyB Tryz.prog 146 16 true=true:=by kernel_rfl
theorem zqL:FldB Tryz.prog 144 1 1 1 false=true:=by kernel_rfl
theorem zov:FldB Tryz.prog 144 0 0 1 false=true:=by kernel_rfl
theorem bu144:BuildB Tryz.prog 144=true:=by kernel_rfl
theorem ze144:ZeroOk Tryz.prog 144 ((GMark.mk false (0:Int) (0:Int)):GMark):=zbr (cs:=[.bool false,.int .i64 0,.int .i64 0]) rfl (by kernel_rfl) (zF zbx (zF zaR zaR))
theorem zg7:FldB Tryz.prog 146 2 2 3 true=true:=by kernel_rfl
theorem ty144:TyB Tryz.prog 144 3 true=true:=by kernel_rfl
theorem zmi:FldB Tryz.prog 144 2 2 1 false=true:=by kernel_rfl
theorem zbY:FldB Tryz.prog 146 0 0 1 false=true:=by kernel_rfl
theorem ze78:ZeroOk Tryz.prog 78 ((GCon.mk false false false false (0:Int) (0:Int)):GCon):=zbr (cs:=[.bool false,.bool false,.bool false,.bool false,.int .i64 0,.int .i64 0]) rfl (by kernel_rfl) (zF zbx (zF zbx (zF zbx (zF zbx (zF zaR zaR)))))
theorem bu78:BuildB Tryz.prog 78=true:=by kernel_rfl
theorem ty78:TyB Tryz.prog 78 6 true=true:=by kernel_rfl
theorem znO:FldB Tryz.prog 78 0 0 1 false=true:=by kernel_rfl
theorem zlB:FldB Tryz.prog 78 1 1 1 false=true:=by kernel_rfl
theorem ty4:TyB Tryz.prog 4 1 false=true:=by kernel_rfl
theorem zkB:FldB Tryz.prog 78 4 4 1 false=true:=by kernel_rfl
theorem ty2:TyB Tryz.prog 2 1 false=true:=by kernel_rfl
theorem zls:FldB Tryz.prog 78 2 2 1 false=true:=by kernel_rfl
theorem zkr:FldB Tryz.prog 78 5 5 1 false=true:=by kernel_rfl
theorem zkp:FldB Tryz.prog 78 3 3 1 false=true:=by kernel_rfl
theorem zjL:FldB Tryz.prog 146 3 5 6 true=true:=by kernel_rfl
theorem zfS:FldB Tryz.prog 146 4 11 1 false=true:=by kernel_rfl
theorem ty79:TyB Tryz.prog 79 1 false=true:=by kernel_rfl
theorem sl79:SlB Tryz.prog 79 3 true=true:=by kernel_rfl
theorem zgm:FldB Tryz.prog 146 7 14 1 false=true:=by kernel_rfl
theorem zg8:FldB Tryz.prog 146 6 13 1 false=true:=by kernel_rfl
theorem zmk:FldB Tryz.prog 124 0 0 1 false=true:=by kernel_rfl
theorem bu124:BuildB Tryz.prog 124=true:=by kernel_rfl
theorem ze124:ZeroOk Tryz.prog 124 ((GItem.mk (Str.mk []) (0:Int) false):GItem):=zbr (cs:=[.string ⟨#[]⟩,.int .i64 0,.bool false]) rfl (by kernel_rfl) (zF zei (zF zaR zbx))
theorem ty124:TyB Tryz.prog 124 3 true=true:=by kernel_rfl
theorem zjF:FldB Tryz.prog 124 2 2 1 false=true:=by kernel_rfl
theorem zc3:FldB Tryz.prog 124 1 1 1 false=true:=by kernel_rfl
theorem el79:elB Tryz.prog 79 3=true:=by kernel_rfl
theorem zmd:appB Tryz.prog 79 79 3=true:=by kernel_rfl
theorem zeb:FldB Tryz.prog 146 5 12 1 false=true:=by kernel_rfl
theorem ty80:TyB Tryz.prog 80 1 false=true:=by kernel_rfl
theorem sl80:SlB Tryz.prog 80 11 true=true:=by kernel_rfl
theorem zgf:FldB Tryz.prog 88 5 10 1 false=true:=by kernel_rfl
theorem zms:FldB Tryz.prog 88 0 0 1 false=true:=by kernel_rfl
theorem bu88:BuildB Tryz.prog 88=true:=by kernel_rfl
theorem ze88:ZeroOk Tryz.prog 88 ((GFld.mk (Str.mk []) (0:Int) false false (Val.mk (0:Int) (0:Int) ([]:(List UInt8)) ([]:(List Val)) (0:Int) ([]:(List Raw))) (0:Int)):GFld):=zbr (cs:=[.string ⟨#[]⟩,.int .i64 0,.bool false,.bool false,.int .i64 0,.int .i64 0,.slice none 0 0,.slice none 0 0,.int .i64 0,.slice none 0 0,.int .i64 0]) rfl (by kernel_rfl) (zF zei (zF zaR (zF zbx (zF zbx (zF zsP zaR)))))
theorem ty88:TyB Tryz.prog 88 11 true=true:=by kernel_rfl
theorem zcf:FldB Tryz.prog 88 1 1 1 false=true:=by kernel_rfl
theorem zjf:FldB Tryz.prog 88 2 2 1 false=true:=by kernel_rfl
theorem ze26:ZeroOk Tryz.prog 26 ((Val.mk (0:Int) (0:Int) ([]:(List UInt8)) ([]:(List Val)) (0:Int) ([]:(List Raw))):Val):=zbr (cs:=[.int .i64 0,.int .i64 0,.slice none 0 0,.slice none 0 0,.int .i64 0,.slice none 0 0]) rfl (by kernel_rfl) zsP
theorem zaT:FldB Tryz.prog 26 1 1 1 false=true:=by kernel_rfl
theorem zbu:FldB Tryz.prog 26 0 0 1 false=true:=by kernel_rfl
theorem bu26:BuildB Tryz.prog 26=true:=by kernel_rfl
theorem ty26:TyB Tryz.prog 26 6 true=true:=by kernel_rfl
theorem zbs:FldB Tryz.prog 26 2 2 1 false=true:=by kernel_rfl
theorem el22:elB Tryz.prog 22 1=true:=by kernel_rfl
theorem zkR:appB Tryz.prog 22 22 1=true:=by kernel_rfl
theorem zgF:FldB Tryz.prog 88 3 3 1 false=true:=by kernel_rfl
theorem zki:FldB Tryz.prog 88 4 4 6 true=true:=by kernel_rfl
theorem el80:elB Tryz.prog 80 11=true:=by kernel_rfl
theorem zop:appB Tryz.prog 80 80 11=true:=by kernel_rfl
theorem znU:FldB Tryz.prog 146 8 15 1 false=true:=by kernel_rfl
theorem zoy:FldB Tryz.prog 146 1 1 1 false=true:=by kernel_rfl
theorem zol:appB Tryz.prog 27 27 1=true:=by kernel_rfl
theorem zmM:FldB Tryz.prog 70 3 3 1 false=true:=by kernel_rfl
theorem ty28:TyB Tryz.prog 28 1 false=true:=by kernel_rfl
theorem el28:elB Tryz.prog 28 1=true:=by kernel_rfl
theorem zeA:appB Tryz.prog 28 28 1=true:=by kernel_rfl
abbrev GParOT:Type:=(List GTok) × Int × (Str × Int × (TList Str) × (TList Int) × Vh) × Int × Int
abbrev GParO (x:GPar) (t0:Tok) (t1:Tok) (t2:Vt):GParOT:=(x.l,x.at_,(x.m.name,x.m.tagging,⟨t0,x.m.names⟩,⟨t1,x.m.types⟩,⟨t2,x.m.nodes.length⟩),x.e,x.p)
abbrev GNodeOT:Type:=Int × Str × GMark × GCon × (TList GItem) × (TList GFld) × Int × Bool × Int
abbrev GNodeO (x:GNode) (t0:Tok) (t1:Tok):GNodeOT:=(x.kind,x.name,x.mark,x.con,⟨t0,x.items⟩,⟨t1,x.fields⟩,x.root,x.more,x.of)
end Go.Proofs.Q


namespace Go.Proofs.Q
open Go.Sy
set_option maxRecDepth 4000
theorem sl28:SlB Tryz.prog 28 1 false=true:=by kernel_rfl
theorem el125:elB Tryz.prog 125 1=true:=by kernel_rfl
theorem zlq:appB Tryz.prog 125 125 1=true:=by kernel_rfl
theorem sl125:SlB Tryz.prog 125 1 false=true:=by kernel_rfl
end Go.Proofs.Q


namespace Go.Proofs.Q
open Go.Sy
set_option maxRecDepth 4000
@[reducible] def zfO:Fld (GMod × Vh × Int) GMod:=pf0
@[reducible] def zoV:Fld (Str × (List Str) × (TList Int) × (List GTyp)) Str:=pf0
@[reducible] def zoC:Fld (Str × (List Str) × (TList Int) × (List GTyp)) (List Str):=pf1
@[reducible] def zkT:Fld (Str × (List Str) × (TList Int) × (List GTyp)) (TList Int):=pf2
@[reducible] def zcJ:Fld (GMod × Vh × Int) Int:=pl2
@[reducible] def zbW:Fld (GMod × Vh × Int) Vh:=pf1
@[reducible] def zsm:Fld (Str × (List Str) × (TList Int) × (List GTyp)) (List GTyp):=pl3
theorem ze31:ZeroOk Tryz.prog 31 ((GTab.mk (Str.mk []) ([]:(List Str)) ([]:(List Int)) ([]:(List GTyp))):GTab):=zbr (cs:=[.string ⟨#[]⟩,.slice none 0 0,.slice none 0 0,.slice none 0 0]) rfl (by kernel_rfl) (zF zei (zF zaF (zF zaF zaF)))
theorem bu31:BuildB Tryz.prog 31=true:=by kernel_rfl
theorem ty31:TyB Tryz.prog 31 4 true=true:=by kernel_rfl
theorem zid:FldB Tryz.prog 117 0 0 5 true=true:=by kernel_rfl
theorem bu117:BuildB Tryz.prog 117=true:=by kernel_rfl
theorem ztV:ZeroOk Tryz.prog 117 (((GMod.mk (Str.mk []) (0:Int) ([]:(List Str)) ([]:(List Int)) ([]:(List GNode))),(Vh.mk none 0),(0:Int)):(GMod × Vh × Int)):=zbr (cs:=[.string ⟨#[]⟩,.int .i64 0,.slice none 0 0,.slice none 0 0,.slice none 0 0,.slice none 0 0,.int .i64 0]) rfl (by kernel_rfl) (zF (zF zei (zF zaR (zF zaF (zF zaF zaF)))) (zF zux zaR))
theorem znT:FldB Tryz.prog 31 0 0 1 false=true:=by kernel_rfl
theorem zkm:FldB Tryz.prog 31 1 1 1 false=true:=by kernel_rfl
theorem zod:ZeroOk Tryz.prog 31 (((Str.mk []),([]:(List Str)),(TList.mk none ([]:(List Int))),([]:(List GTyp))):(Str × (List Str) × (TList Int) × (List GTyp))):=zbr (cs:=[.string ⟨#[]⟩,.slice none 0 0,.slice none 0 0,.slice none 0 0]) rfl (by kernel_rfl) (zF zei (zF zaF (zF zm2 zaF)))
theorem zgc:FldB Tryz.prog 31 2 2 1 false=true:=by kernel_rfl
theorem zeB:FldB Tryz.prog 117 2 6 1 false=true:=by kernel_rfl
theorem zc0:FldB Tryz.prog 117 1 5 1 false=true:=by kernel_rfl
theorem ty29:TyB Tryz.prog 29 1 false=true:=by kernel_rfl
theorem sl29:SlB Tryz.prog 29 13 true=true:=by kernel_rfl
theorem zfk:FldB Tryz.prog 82 6 11 1 false=true:=by kernel_rfl
theorem zem:FldB Tryz.prog 82 5 10 1 false=true:=by kernel_rfl
theorem zdZ:FldB Tryz.prog 82 2 2 6 true=true:=by kernel_rfl
theorem zbf:FldB Tryz.prog 82 0 0 1 false=true:=by kernel_rfl
theorem bu82:BuildB Tryz.prog 82=true:=by kernel_rfl
theorem ze82:ZeroOk Tryz.prog 82 ((GTyp.mk (0:Int) ([]:(List Tag)) (GCon.mk false false false false (0:Int) (0:Int)) ([]:(List GItem)) ([]:(List GFld)) (0:Int) false (0:Int)):GTyp):=zbr (cs:=[.int .i64 0,.slice none 0 0,.bool false,.bool false,.bool false,.bool false,.int .i64 0,.int .i64 0,.slice none 0 0,.slice none 0 0,.int .i64 0,.bool false,.int .i64 0]) rfl (by kernel_rfl) (zF zaR (zF zaF (zF (zF zbx (zF zbx (zF zbx (zF zbx (zF zaR zaR))))) (zF zaF (zF zaF (zF zaR (zF zbx zaR)))))))
theorem ty82:TyB Tryz.prog 82 13 true=true:=by kernel_rfl
theorem ze121:ZeroOk Tryz.prog 121 (Tag.zero:Tag):=zbr (cs:=[.int .i64 0,.int .i64 0]) rfl (by kernel_rfl) (zF zaR zaR)
theorem zcS:FldB Tryz.prog 121 1 1 1 false=true:=by kernel_rfl
theorem bu121:BuildB Tryz.prog 121=true:=by kernel_rfl
theorem ty121:TyB Tryz.prog 121 2 true=true:=by kernel_rfl
theorem el76:elB Tryz.prog 76 2=true:=by kernel_rfl
theorem ze4:FldB Tryz.prog 82 1 1 1 false=true:=by kernel_rfl
theorem ty76:TyB Tryz.prog 76 1 false=true:=by kernel_rfl
theorem el29:elB Tryz.prog 29 13=true:=by kernel_rfl
theorem zqu:appB Tryz.prog 29 29 13=true:=by kernel_rfl
theorem zku:FldB Tryz.prog 82 7 12 1 false=true:=by kernel_rfl
theorem zeo:FldB Tryz.prog 82 3 8 1 false=true:=by kernel_rfl
theorem ty22:TyB Tryz.prog 22 1 false=true:=by kernel_rfl
theorem sl22:SlB Tryz.prog 22 1 false=true:=by kernel_rfl
theorem ty5:TyB Tryz.prog 5 1 false=true:=by kernel_rfl
theorem zo1 : Tryz.prog.globals.findIdx? (·.name == "unicode/utf8.first") = some 0 := by kernel_rfl
theorem ar130:ArrB Tryz.prog 130 256 1 false=true:=by kernel_rfl
theorem ziI : Tryz.prog.globals.findIdx? (·.name == "unicode/utf8.acceptRanges") = some 1 := by kernel_rfl
theorem ar133:ArrB Tryz.prog 133 16 2 true=true:=by kernel_rfl
theorem ty132:TyB Tryz.prog 132 2 true=true:=by kernel_rfl
theorem ze132:ZeroOk Tryz.prog 132 (GAcc.zero:GAcc):=zbr (cs:=[.int .u8 0,.int .u8 0]) rfl (by kernel_rfl) (zF zuw zuw)
theorem znZ:FldB Tryz.prog 132 0 0 1 false=true:=by kernel_rfl
theorem zom:FldB Tryz.prog 132 1 1 1 false=true:=by kernel_rfl
theorem sl76:SlB Tryz.prog 76 2 true=true:=by kernel_rfl
theorem zff:FldB Tryz.prog 121 0 0 1 false=true:=by kernel_rfl
theorem zhc:appB Tryz.prog 76 76 2=true:=by kernel_rfl
theorem zas:FldB Tryz.prog 82 4 9 1 false=true:=by kernel_rfl
theorem el220:elB Tryz.prog 220 1=true:=by kernel_rfl
theorem zrb:appB Tryz.prog 220 220 1=true:=by kernel_rfl
theorem sl220:SlB Tryz.prog 220 1 false=true:=by kernel_rfl
theorem eq121:EqOk Tryz.prog 121 Tag:=Tag.eqOk Tryz.underlying121 (by kernel_rfl) (by kernel_rfl) Tryz.underlying3
theorem el188:elB Tryz.prog 188 1=true:=by kernel_rfl
theorem zrd:appB Tryz.prog 188 188 1=true:=by kernel_rfl
theorem sl188:SlB Tryz.prog 188 1 false=true:=by kernel_rfl
theorem zbb:FldB Tryz.prog 31 3 3 1 false=true:=by kernel_rfl
abbrev GMkOT:Type:=GMod × Vh × Int
abbrev GMkO (x:GMk) (t0:Vt):GMkOT:=(x.m,⟨t0,x.l.length⟩,x.e)
end Go.Proofs.Q


namespace Go.Proofs.Q
open Go.Sy
set_option maxRecDepth 4000
@[reducible] def zkZ:Fld (Int × Int × (List UInt8) × (TList Val) × Int × (List Raw)) Int:=pf0
@[reducible] def zkI:Fld (Int × Int × (List UInt8) × (TList Val) × Int × (List Raw)) Int:=pf1
@[reducible] def zlo:Fld (Int × Int × (List UInt8) × (TList Val) × Int × (List Raw)) (List UInt8):=pf2
@[reducible] def zer:Fld (Int × Int × (List UInt8) × (TList Val) × Int × (List Raw)) (TList Val):=pf3
theorem eq78:EqOk Tryz.prog 78 GCon:=GCon.eqOk Tryz.underlying78 (by kernel_rfl) (by kernel_rfl) rfl rfl Tryz.underlying4 rfl rfl Tryz.underlying4 rfl rfl Tryz.underlying4 rfl rfl Tryz.underlying4 rfl rfl Tryz.underlying2 rfl rfl Tryz.underlying2
theorem eq4:EqOk Tryz.prog 4 Bool:=EqOk.bool Tryz.underlying4
theorem eq124:EqOk Tryz.prog 124 GItem:=GItem.eqOk Tryz.underlying124 (by kernel_rfl) (by kernel_rfl) rfl rfl Tryz.underlying9 rfl rfl Tryz.underlying2 rfl rfl Tryz.underlying4
theorem zaL:FldB Tryz.prog 26 3 3 1 false=true:=by kernel_rfl
theorem ty23:TyB Tryz.prog 23 1 false=true:=by kernel_rfl
theorem sl23:SlB Tryz.prog 23 6 true=true:=by kernel_rfl
theorem zcX:FldB Tryz.prog 26 4 4 1 false=true:=by kernel_rfl
theorem zdF:FldB Tryz.prog 26 5 5 1 false=true:=by kernel_rfl
theorem ty24:TyB Tryz.prog 24 1 false=true:=by kernel_rfl
theorem sl24:SlB Tryz.prog 24 2 true=true:=by kernel_rfl
theorem ty66:TyB Tryz.prog 66 2 true=true:=by kernel_rfl
theorem zgg:FldB Tryz.prog 66 0 0 1 false=true:=by kernel_rfl
theorem zh3:FldB Tryz.prog 66 1 1 1 false=true:=by kernel_rfl
theorem ze3:ZeroOk Tryz.prog 3 ((0:Int):Int):=zpk (v:=.int .i64 0) rfl (by kernel_rfl) zaR
theorem ze66:ZeroOk Tryz.prog 66 (Raw.zero:Raw):=zbr (cs:=[.int .i64 0,.slice none 0 0]) rfl (by kernel_rfl) (zF zaR zaF)
theorem zgH:FldB Tryz.prog 91 0 0 4 true=true:=by kernel_rfl
theorem bu91:BuildB Tryz.prog 91=true:=by kernel_rfl
theorem ze91:ZeroOk Tryz.prog 91 ((GTbd.mk (GTab.mk (Str.mk []) ([]:(List Str)) ([]:(List Int)) ([]:(List GTyp)))):GTbd):=zbr (cs:=[.string ⟨#[]⟩,.slice none 0 0,.slice none 0 0,.slice none 0 0]) rfl (by kernel_rfl) (zF zei (zF zaF (zF zaF zaF)))
theorem zsR:FldB Tryz.prog 93 1 4 1 false=true:=by kernel_rfl
theorem zgN:FldB Tryz.prog 93 0 0 4 true=true:=by kernel_rfl
theorem bu93:BuildB Tryz.prog 93=true:=by kernel_rfl
theorem ze93:ZeroOk Tryz.prog 93 ((GChk.mk (GTbd.mk (GTab.mk (Str.mk []) ([]:(List Str)) ([]:(List Int)) ([]:(List GTyp)))) false):GChk):=zbr (cs:=[.string ⟨#[]⟩,.slice none 0 0,.slice none 0 0,.slice none 0 0,.bool false]) rfl (by kernel_rfl) (zF (zF zei (zF zaF (zF zaF zaF))) zbx)
theorem eq168:EqOk Tryz.prog 168 UInt64:=EqOk.u64
theorem ty89:TyB Tryz.prog 89 1 false=true:=by kernel_rfl
theorem znV:FldB Tryz.prog 207 0 0 1 false=true:=by kernel_rfl
theorem bu207:BuildB Tryz.prog 207=true:=by kernel_rfl
theorem ze207:ZeroOk Tryz.prog 207 ((GTys.mk ([]:(List GTyp))):GTys):=zbr (cs:=[.slice none 0 0]) rfl (by kernel_rfl) zaF
theorem zuI:ZeroOk Tryz.prog 76 ((TList.mk none ([]:(List Tag))):(TList Tag)):=zpk (v:=.slice none 0 0) rfl (by kernel_rfl) zm2
theorem zi2:ZeroOk Tryz.prog 26 (((0:Int),(0:Int),([]:(List UInt8)),(TList.mk none ([]:(List Val))),(0:Int),([]:(List Raw))):(Int × Int × (List UInt8) × (TList Val) × Int × (List Raw))):=zbr (cs:=[.int .i64 0,.int .i64 0,.slice none 0 0,.slice none 0 0,.int .i64 0,.slice none 0 0]) rfl (by kernel_rfl) (zF zaR (zF zaR (zF zaF (zF zm2 (zF zaR zaF)))))
theorem el23:elB Tryz.prog 23 6=true:=by kernel_rfl
theorem zjN:appB Tryz.prog 23 23 6=true:=by kernel_rfl
theorem zor:FldB Tryz.prog 58 1 4 4 true=true:=by kernel_rfl
theorem zon:FldB Tryz.prog 58 0 0 4 true=true:=by kernel_rfl
theorem bu58:BuildB Tryz.prog 58=true:=by kernel_rfl
theorem ze58:ZeroOk Tryz.prog 58 ((GSid.mk (GTab.mk (Str.mk []) ([]:(List Str)) ([]:(List Int)) ([]:(List GTyp))) (GTab.mk (Str.mk []) ([]:(List Str)) ([]:(List Int)) ([]:(List GTyp)))):GSid):=zbr (cs:=[.string ⟨#[]⟩,.slice none 0 0,.slice none 0 0,.slice none 0 0,.string ⟨#[]⟩,.slice none 0 0,.slice none 0 0,.slice none 0 0]) rfl (by kernel_rfl) (zF (zF zei (zF zaF (zF zaF zaF))) (zF zei (zF zaF (zF zaF zaF))))
theorem zsz:FldB Tryz.prog 60 0 0 8 true=true:=by kernel_rfl
theorem bu60:BuildB Tryz.prog 60=true:=by kernel_rfl
theorem ze60:ZeroOk Tryz.prog 60 ((GWlk.mk (GSid.mk (GTab.mk (Str.mk []) ([]:(List Str)) ([]:(List Int)) ([]:(List GTyp))) (GTab.mk (Str.mk []) ([]:(List Str)) ([]:(List Int)) ([]:(List GTyp)))) (0:Int)):GWlk):=zbr (cs:=[.string ⟨#[]⟩,.slice none 0 0,.slice none 0 0,.slice none 0 0,.string ⟨#[]⟩,.slice none 0 0,.slice none 0 0,.slice none 0 0,.int .i64 0]) rfl (by kernel_rfl) (zF (zF (zF zei (zF zaF (zF zaF zaF))) (zF zei (zF zaF (zF zaF zaF)))) zaR)
theorem ty58:TyB Tryz.prog 58 8 true=true:=by kernel_rfl
theorem zoq:FldB Tryz.prog 60 1 8 1 false=true:=by kernel_rfl
end Go.Proofs.Q


namespace Go.Proofs.Q
open Go.Sy
set_option maxRecDepth 4000
theorem zf7 {a_s a_i r} (h:zfu a_s a_i=some r):Ctr Tryz.prog 102 [isv a_s,isv a_i] [] (Pt [isv r] []):=by
 unfold zfu at h
 refine zi Tryz.func102 e fun w0 S0 hT=>ws (an e (ss (om e (oV (z7 e e) (om e (jO 5 12 h (fun q1 h=>?_) fun J2 h hJ2=>oI h (fun g3 h=>?_) fun g3 h=>oG g3 (zo e) (oG g3 (zo e) (oG g3 (zeN st9 e) (oG g3 (zbF e e) (oV (zg e g3 e) (hJ2 h 5)))))))))))
 ·refine rn (ze h e (fun _ h=>?_) (fun _ h=>wk (ws (om e (om e (zd h fun y4 hy4 h=>oV (zb4 y4 st9 e e hy4) (ar e (zf (r1 e) k0 (iS h ▸ ⟨e,e⟩)))))))))
  exact ws (ar e (zz (zf (r1 e) k0 (iS h ▸ ⟨e,e⟩))))
 exact oN g3 (oN g3 (oN g3 (oN g3 (oV (zh e g3 e) (hJ2 h 5)))))


theorem zoF {a_s a_i r} (h:zfF a_s a_i=some r):Ctr Tryz.prog 71 [isv a_s,isv a_i] [] (Pt [isv r] []):=by
 unfold zfF at h
 refine zi Tryz.func71 e fun w0 S0 hT=>ws (an e (zE (zr (lO 1 h e fun L2 q1 Q99 h hL2 eL2 rL2=>ss (om e (om e (oV (zeN st9 e) (oV (z7 e e) (rn (ze h e (fun _ h=>?_) (fun _ h=>xn (eL2 _ _ (zw (zq (ws (om e (ar e (zf (r1 e) k0 (iS h ▸ ⟨e,e⟩)))))))))))))))))))
 refine wk (zr (zr (ws (om e (om e (zd h fun y51 hy51 h=>oV (zb4 y51 st9 e e hy51) (oV (zb6 eq5 e e) (om e (jO 5 20 h (fun q52 h=>?_) fun J53 h hJ53=>oI h (fun g54 h=>?_) fun g54 h=>oG g54 (zo e) (oG g54 (zo e) (zd h fun y55 hy55 h=>oG g54 (zb4 y55 st9 e e hy55) (oG g54 (zb6 eq5 e e) (oV (zg e g54 e) (hJ53 h 5))))))))))))))
 ·refine om e (jO 5 26 h (fun q56 h=>?_) fun J57 h hJ57=>oI h (fun g58 h=>?_) fun g58 h=>oG g58 (zo e) (oG g58 (zo e) (zd h fun y59 hy59 h=>oG g58 (zb4 y59 st9 e e hy59) (oG g58 (zb6 eq5 e e) (oV (zg e g58 e) (hJ57 h 5))))))
  ·refine om e (jO 5 32 h (fun q60 h=>?_) fun J61 h hJ61=>oI h (fun g62 h=>?_) fun g62 h=>oG g62 (zo e) (oG g62 (zo e) (zd h fun y63 hy63 h=>oG g62 (zb4 y63 st9 e e hy63) (oG g62 (zb6 eq5 e e) (oV (zg e g62 e) (hJ61 h 5))))))
   ·refine an e (ze h e (fun _ h=>?_) (fun _ h=>ws (om e (om e (zd h fun y65 hy65 h=>oV (zb4 y65 st9 e e hy65) (oV (zb6 eq5 e e) (om e (jO 6 46 h (fun q66 h=>?_) fun J67 h hJ67=>oI h (fun g68 h=>?_) fun g68 h=>oN g68 (oN g68 (oN g68 (oN g68 (oN g68 (oV (zg e g68 e) (hJ67 h 6))))))))))))))
    ·exact zm (om e (zy h fun q64 h=>oV (zX e e q64) (oa e (rb (zx (hL2 h 19))))))
    ·refine an e (ze h e (fun _ h=>?_) (fun _ h=>ws (om e (ar e (zbm (zbm (rL2 _ (bn (zf (r1 e) k0 (iS h ▸ ⟨e,e⟩))))))))))
     refine ws (om e (zy h fun q71 h=>oV (zX e e q71) (an e (zr (lO 1 h e fun L73 q72 Q98 h hL73 eL73 rL73=>ss (om e (om e (oV (zeN st9 e) (oV (z7 e e) (om e (jO 5 58 h (fun q86 h=>?_) fun J87 h hJ87=>oI h (fun g88 h=>?_) fun g88 h=>oN g88 (oN g88 (oN g88 (oN g88 (oV (zg e g88 e) (hJ87 h 5))))))))))))))))
     ·refine rn (ze h e (fun _ h=>?_) (fun _ h=>xn (eL73 _ _ (zw (zx (zx (hL2 h 33)))))))
      refine wk (zr (ss (om e (om e (zd h fun y90 hy90 h=>oV (zb4 y90 st9 e e hy90) (oV (zb6 eq5 e e) (om e (jO 6 69 h (fun q91 h=>?_) fun J92 h hJ92=>oI h (fun g93 h=>?_) fun g93 h=>oN g93 (oN g93 (oN g93 (oN g93 (oN g93 (oV (zg e g93 e) (hJ92 h 6))))))))))))))
      ·refine rn (ze h e (fun _ h=>?_) (fun _ h=>wk (zm (om e (zy h fun q97 h=>oV (zX e e q97) (oa e (rb (hL73 h 16))))))))
       exact ws (om e (zy h fun q96 h=>oV (zX e e q96) (an e (xn (zji e (eL73 _ _ (zw (zx (zx (hL2 h 42))))))))))
      exact oG g93 (zo e) (oG g93 (zo e) (zy h fun q94 h=>oG g93 (zX e e q94) (zd h fun y95 hy95 h=>oH g93 (tC (zf7 hy95) hT (s2 e e) k0 (oG g93 (zb6 eq5 e e) (oV (zh e g93 e) (hJ92 h 6)))))))
     exact oG g88 (zo e) (oG g88 (zo e) (zd h fun y89 hy89 h=>oG g88 (zb4 y89 st9 e e hy89) (oG g88 (zgX eq5 e e) (oV (zh e g88 e) (hJ87 h 5)))))
    exact oG g68 (zo e) (oG g68 (zo e) (zy h fun q69 h=>oG g68 (zX e e q69) (zd h fun y70 hy70 h=>oH g68 (tC (zf7 hy70) hT (s2 e e) k0 (oG g68 (zb6 eq5 e e) (oV (zh e g68 e) (hJ67 h 6)))))))
   exact oN g62 (oN g62 (oN g62 (oN g62 (oV (zh e g62 e) (hJ61 h 5)))))
  exact oN g58 (oN g58 (oN g58 (oN g58 (oV (zh e g58 e) (hJ57 h 5)))))
 exact oN g54 (oN g54 (oN g54 (oN g54 (oV (zh e g54 e) (hJ53 h 5)))))


theorem ziv {a_c r} (h:zeL a_c=some r):Ctr Tryz.prog 103 [isv a_c] [] (Pt [isv r] []):=by
 unfold zeL at h
 refine zi Tryz.func103 e fun w0 S0 hT=>ws (an e (ws (om e (oV (zmo e e) (om e (jO 3 8 h (fun q1 h=>?_) fun J2 h hJ2=>oI h (fun g3 h=>?_) fun g3 h=>oN g3 (oN g3 (oV (zg e g3 e) (hJ2 h 3)))))))))
 ·refine om e (jO 7 16 h (fun q4 h=>?_) fun J5 h hJ5=>oI h (fun g6 h=>?_) fun g6 h=>oG g6 (zo e) (oG g6 (zmo e e) (oG g6 (zo e) (jO 3 15 h (fun q7 h=>?_) fun J8 h hJ8=>oI h (fun g9 h=>?_) fun g9 h=>oN g9 (oN g9 (oG g6 (zg e g9 e) (hJ8 h 3)))))))
  ·exact ar e (zf (r1 e) k0 (iS h ▸ ⟨e,e⟩))
  ·exact oN g6 (oN g6 (oN g6 (oU (oU (oN g6 (oV (zh e g6 e) (hJ5 h 7)))))))
  ·exact oV (zg e g6 e) (hJ5 h 5)
  exact oG g9 (zo e) (oG g9 (zmq e e) (oG g6 (zh e g9 e) (hJ8 h 3)))
 exact oG g3 (zo e) (oG g3 (zmq e e) (oV (zh e g3 e) (hJ2 h 3)))


theorem zfW {a_c r} (h:zd8 a_c=some r):Ctr Tryz.prog 106 [isv a_c] [] (Pt [isv r] []):=by
 unfold zd8 at h
 refine zi Tryz.func106 e fun w0 S0 hT=>ws (an e (ws (om e (oV (zmo e e) (om e (jO 3 8 h (fun q1 h=>?_) fun J2 h hJ2=>oI h (fun g3 h=>?_) fun g3 h=>oN g3 (oN g3 (oV (zg e g3 e) (hJ2 h 3)))))))))
 ·exact ar e (zf (r1 e) k0 (iS h ▸ ⟨e,e⟩))
 exact oG g3 (zo e) (oG g3 (zmq e e) (oV (zh e g3 e) (hJ2 h 3)))


theorem zqp {a_s a_i r} (h:zg2 a_s a_i=some r):Ctr Tryz.prog 104 [isv a_s,isv a_i] [] (Pt [isv r] []):=by
 unfold zg2 at h
 refine zi Tryz.func104 e fun w0 S0 hT=>ws (an e (ws (om e (an e (zE (zr (lO 1 h e fun L2 q1 Q55 h hL2 eL2 rL2=>ss (om e (om e (oV (zeN st9 e) (oV (z7 e e) (om e (jO 24 35 h (fun q29 h=>?_) fun J30 h hJ30=>oI h (fun g31 h=>?_) fun g31 h=>oN g31 (oN g31 (oN g31 (oN g31 (oN g31 (oU (oU (oU (oU (oN g31 (oN g31 (oU (oU ?_)))))))))))))))))))))))))
 ·refine rn (ze h e (fun _ h=>?_) (fun _ h=>xn (eL2 _ _ (zw (zq (ss (om e (om e (zy h fun q49 h=>oV (zcZ e e q49) (zd h fun y50 hy50 h=>oV (zb4 y50 st9 e e hy50) (oV (zb6 eq5 e e) (om e (jO 5 48 h (fun q51 h=>?_) fun J52 h hJ52=>oI h (fun g53 h=>?_) fun g53 h=>oG g53 (zo e) (oG g53 (zo e) (zy h fun q54 h=>oG g53 (zcZ e e q54) (oG g53 (zbc e e) (oV (zg e g53 e) (hJ52 h 5))))))))))))))))))
  ·exact wk (zr (zm (om e (zy h fun q48 h=>oV (zX e e q48) (oa e (rb (hL2 h 10)))))))
  ·refine rn (ze h e (fun _ h=>?_) (fun _ h=>wk (ws (om e (ar e (zf (r1 e) k0 (iS h ▸ ⟨e,e⟩)))))))
   exact ws (ar e (zz (zf (r1 e) k0 (iS h ▸ ⟨e,e⟩))))
  exact oN g53 (oN g53 (oN g53 (oN g53 (oV (zh e g53 e) (hJ52 h 5)))))
 ·refine oG g31 (zo e) (oG g31 (zo e) (zd h fun y32 hy32 h=>oG g31 (zb4 y32 st9 e e hy32) (zd h fun y33 hy33 h=>oH g31 (tC (ziv hy33) hT (s1 e) k0 (oG g31 (zo e) (jO 5 21 h (fun q34 h=>?_) fun J35 h hJ35=>oI h (fun g36 h=>?_) fun g36 h=>oG g36 (zo e) (oG g36 (zo e) (zd h fun y37 hy37 h=>oG g36 (zb4 y37 st9 e e hy37) (zd h fun y38 hy38 h=>oH g36 (tC (zfW hy38) hT (s1 e) k0 (oG g31 (zg e g36 e) (hJ35 h 5))))))))))))
  ·refine oG g31 (zo e) (jO 12 34 h (fun q39 h=>?_) fun J40 h hJ40=>oI h (fun g41 h=>?_) fun g41 h=>oG g41 (zo e) (oG g41 (zo e) (zd h fun y42 hy42 h=>oG g41 (zb4 y42 st9 e e hy42) (oG g41 (zb6 eq5 e e) (oG g41 (zo e) (jO 6 33 h (fun q43 h=>?_) fun J44 h hJ44=>oI h (fun g45 h=>?_) fun g45 h=>oN g45 (oN g45 (oN g45 (oN g45 (oN g45 (oG g41 (zg e g45 e) (hJ44 h 6))))))))))))
   ·exact oV (zh e g31 e) (hJ30 h 9)
   ·exact oN g41 (oN g41 (oN g41 (oN g41 (oN g41 (oU (oU (oU (oU (oU (oN g41 (oG g31 (zh e g41 e) (hJ40 h 12))))))))))))
   ·exact oG g31 (zg e g41 e) (hJ40 h 7)
   exact oG g45 (zo e) (oG g45 (zo e) (zy h fun q46 h=>oG g45 (zX e e q46) (zd h fun y47 hy47 h=>oH g45 (tC (zf7 hy47) hT (s2 e e) k0 (oG g45 (zgX eq5 e e) (oG g41 (zh e g45 e) (hJ44 h 6)))))))
  exact oN g36 (oN g36 (oN g36 (oN g36 (oG g31 (zh e g36 e) (hJ35 h 5)))))
 exact oU (oU (oU (oU (oU (oU (oU (oU (oU (oN g31 (oV (zg e g31 e) (hJ30 h 24)))))))))))


theorem zoW:∀  {r:(List Str)},zhC =some r→Ctr Tryz.prog 135 [] [] (fun R H=>R=oneOf [isv (r)]∧H=[]):=by
 intro  r h
 unfold zhC at h
 exact zi Tryz.func135 e fun w0 S0 hT=>ws (an e (ws (oT (zN (l:=([(Str.mk [68,69,70,73,78,73,84,73,79,78,83]),(Str.mk [69,88,80,76,73,67,73,84]),(Str.mk [73,77,80,76,73,67,73,84]),(Str.mk [65,85,84,79,77,65,84,73,67]),(Str.mk [84,65,71,83]),(Str.mk [66,69,71,73,78]),(Str.mk [69,78,68]),(Str.mk [66,79,79,76,69,65,78]),(Str.mk [73,78,84,69,71,69,82]),(Str.mk [69,78,85,77,69,82,65,84,69,68]),(Str.mk [78,85,76,76]),(Str.mk [79,67,84,69,84]),(Str.mk [83,84,82,73,78,71]),(Str.mk [85,84,70,56,83,116,114,105,110,103]),(Str.mk [83,69,81,85,69,78,67,69]),(Str.mk [83,69,84]),(Str.mk [67,72,79,73,67,69]),(Str.mk [79,70]),(Str.mk [79,80,84,73,79,78,65,76]),(Str.mk [68,69,70,65,85,76,84]),(Str.mk [83,73,90,69]),(Str.mk [77,73,78]),(Str.mk [77,65,88]),(Str.mk [84,82,85,69]),(Str.mk [70,65,76,83,69])]:(List Str))) el27 (.cons e hI (.cons e hI (.cons e hI (.cons e hI (.cons e hI (.cons e hI (.cons e hI (.cons e hI (.cons e hI (.cons e hI (.cons e hI (.cons e hI (.cons e hI (.cons e hI (.cons e hI (.cons e hI (.cons e hI (.cons e hI (.cons e hI (.cons e hI (.cons e hI (.cons e hI (.cons e hI (.cons e hI (.cons e hI .nil))))))))))))))))))))))))) e e (ar e (zf (.as e zG .nil) k0 (iS h ▸ ⟨e,e⟩)))))))


theorem zj7 {a_l a_x r} (h:zeS a_l a_x=some r):Ctr Tryz.prog 77 [isv a_l,isv a_x] [] (Pt [isv r] []):=by
 unfold zeS at h
 refine zi Tryz.func77 e fun w0 S0 hT=>ws (an e (ss (an e (zr (lO 5 h e fun L2 q1 Q7 h hL2 eL2 rL2=>ss (om e (om e (oV (vN e sl27) (oV (z7 e e) (rn (ze h e (fun _ h=>?_) (fun _ h=>xn (eL2 _ _ (zw (zq (ws (ar e (zf (r1 e) k0 (iS h ▸ ⟨e,e⟩)))))))))))))))))))
 refine wk (zE (zr (ws (om e (om e (zd h fun y5 hy5 h=>oV (vX e e sl27 hy5) (oV (za ty9 e) (om e (oV (zb6 eq9 e e) (rn (ze h e (fun _ h=>?_) (fun _ h=>zJ (zx (zq (zm (om e (zy h fun q6 h=>oV (zX e e q6) (oa e (zK (hL2 h 14))))))))))))))))))))
 exact ws (ar e (bn (rL2 _ (bn (zf (r1 e) k0 (iS h ▸ ⟨e,e⟩))))))


theorem zpF {a_s r} (h:zgO a_s=some r):Ctr Tryz.prog 105 [isv a_s] [] (Pt [isv r] []):=by
 unfold zgO at h
 exact zi Tryz.func105 e fun w0 S0 hT=>ws (an e (ws (zd h fun y1 hy1 h=>oT (tC (zoW hy1) hT .nil k0 (om e (zd h fun y2 hy2 h=>oT (tC (zj7 hy2) hT (s2 e e) k0 (ar e (zf (r1 e) k0 (iS h ▸ ⟨e,e⟩))))))))))


theorem zn0 {a_s a_i r} (h:zeQ a_s a_i=some r):Ctr Tryz.prog 107 [isv a_s,isv a_i] [] (Pt [isv r] []):=by
 unfold zeQ at h
 refine zi Tryz.func107 e fun w0 S0 hT=>ws (an e (ws (om e (om e (zd h fun y1 hy1 h=>oV (zb4 y1 st9 e e hy1) (oV (zb6 eq5 e e) (an e (ss (om e (rn (jW 1 h (fun q2 h=>?_) fun J3 h hJ3=>ze h e (fun _ h=>?_) (fun _ h=>zJ (hJ3 h 0)))))))))))))
 ·refine ws (om e (an e (ws (an e (zE (zr (lP h Unit () (fun q5 g5=>[(1,isv q5.1),(7,isv q5.2)]) (fun q5 g5=>[]) (zB (j:=1) e hI (zB (j:=7) e hI zan)) k0 fun L6 q5 g5 Q91 h hL6 eL6 rL6=>ss (om e (om e (oV (zeN st9 e) (oV (z7 e e) (om e (jO 5 26 h (fun q49 h=>?_) fun J50 h hJ50=>oI h (fun g51 h=>?_) fun g51 h=>oN g51 (oN g51 (oN g51 (oN g51 (oV (zg e g51 e) (hJ50 h 5))))))))))))))))))
  ·refine rn (ze h e (fun _ h=>?_) (fun _ h=>xn (eL6 _ _ (zw (zq (ws (om e (om e (zy h fun q59 h=>oV (zcZ e e q59) (an e (ss (om e (oV (z7 e e) (om e (jO 3 49 h (fun q60 h=>?_) fun J61 h hJ61=>oI h (fun g62 h=>?_) fun g62 h=>oG g62 (zo e) (oG g62 (zbc e e) (oV (zg e g62 e) (hJ61 h 3))))))))))))))))))
   ·refine wk (zr (ss (om e (om e (zy h fun q54 h=>oV (zcZ e e q54) (oV (z7 e e) (rn (jW 7 h (fun q55 h=>?_) fun J56 h hJ56=>ze h e (fun _ h=>?_) (fun _ h=>zJ (hJ56 h 0))))))))))
    ·exact zm (om e (zy h fun q58 h=>oV (zX e e q58) (oa e (rb (hL6 h () 16)))))
    exact zm (om e (oV (zqO e e) (om e (om e (zd h fun y57 hy57 h=>oV (zb4 y57 st9 e e hy57) (oV (zoe e e) (oV (zdL Tryz.underlying5 Tryz.underlying168 e) (oV (zqS e e) (oa e (zK (hJ56 h 9)))))))))))
   ·refine om e (jO 9 59 h (fun q63 h=>?_) fun J64 h hJ64=>oI h (fun g65 h=>?_) fun g65 h=>oG g65 (zo e) (oG g65 (zbc e e) (oG g65 (zo e) (jO 5 58 h (fun q66 h=>?_) fun J67 h hJ67=>oI h (fun g68 h=>?_) fun g68 h=>oN g68 (oN g68 (oN g68 (oN g68 (oG g65 (zg e g68 e) (hJ67 h 5)))))))))
    ·refine om e (jO 8 68 h (fun q70 h=>?_) fun J71 h hJ71=>oI h (fun g72 h=>?_) fun g72 h=>oG g72 (zo e) (oG g72 (zo e) (jO 5 67 h (fun q73 h=>?_) fun J74 h hJ74=>oI h (fun g75 h=>?_) fun g75 h=>oN g75 (oN g75 (oN g75 (oN g75 (oG g72 (zg e g75 e) (hJ74 h 5))))))))
     ·refine om e (jO 5 74 h (fun q77 h=>?_) fun J78 h hJ78=>oI h (fun g79 h=>?_) fun g79 h=>oG g79 (zo e) (oG g79 (zo e) (zd h fun y80 hy80 h=>oH g79 (tC (zf7 hy80) hT (s2 e e) k0 (zd h fun y81 hy81 h=>oH g79 (tC (ziv hy81) hT (s1 e) k0 (oV (zg e g79 e) (hJ78 h 5))))))))
      ·refine om e (jO 3 78 h (fun q82 h=>?_) fun J83 h hJ83=>oI h (fun g84 h=>?_) fun g84 h=>oG g84 (zo e) (oG g84 (zjO e e) (oV (zg e g84 e) (hJ83 h 3))))
       ·refine om e (jO 7 86 h (fun q85 h=>?_) fun J86 h hJ86=>oI h (fun g87 h=>?_) fun g87 h=>oG g87 (zo e) (oG g87 (zal e) (oG g87 (zo e) (jO 3 85 h (fun q88 h=>?_) fun J89 h hJ89=>oI h (fun g90 h=>?_) fun g90 h=>oN g90 (oN g90 (oG g87 (zg e g90 e) (hJ89 h 3)))))))
        ·refine rn (ze h e (fun _ h=>?_) (fun _ h=>wk (ws (om e (ar e (zf (r1 e) k0 (iS h ▸ ⟨e,e⟩)))))))
         exact ws (ar e (zz (zf (r1 e) k0 (iS h ▸ ⟨e,e⟩))))
        ·exact oN g87 (oN g87 (oN g87 (oU (oU (oN g87 (oV (zh e g87 e) (hJ86 h 7)))))))
        ·exact oV (zg e g87 e) (hJ86 h 5)
        exact oG g90 (zo e) (oG g90 (zmj e e) (oG g87 (zh e g90 e) (hJ89 h 3)))
       exact oN g84 (oN g84 (oV (zh e g84 e) (hJ83 h 3)))
      exact oN g79 (oN g79 (oN g79 (oN g79 (oV (zh e g79 e) (hJ78 h 5)))))
     ·exact oN g72 (oN g72 (oU (oU (oU (oU (oN g72 (oV (zh e g72 e) (hJ71 h 8))))))))
     ·exact oV (zg e g72 e) (hJ71 h 4)
     exact oG g75 (zo e) (oG g75 (zo e) (zd h fun y76 hy76 h=>oG g75 (zb4 y76 st9 e e hy76) (oG g75 (zb6 eq5 e e) (oG g72 (zh e g75 e) (hJ74 h 5)))))
    ·exact oN g65 (oN g65 (oN g65 (oU (oU (oU (oU (oN g65 (oV (zh e g65 e) (hJ64 h 9)))))))))
    ·exact oV (zg e g65 e) (hJ64 h 5)
    exact oG g68 (zo e) (oG g68 (zo e) (zd h fun y69 hy69 h=>oG g68 (zb4 y69 st9 e e hy69) (oG g68 (zb6 eq5 e e) (oG g65 (zh e g68 e) (hJ67 h 5)))))
   exact oN g62 (oN g62 (oV (zh e g62 e) (hJ61 h 3)))
  exact oG g51 (zo e) (oG g51 (zo e) (zd h fun y52 hy52 h=>oG g51 (zb4 y52 st9 e e hy52) (zd h fun y53 hy53 h=>oH g51 (tC (zfW hy53) hT (s1 e) k0 (oV (zh e g51 e) (hJ50 h 5))))))
 exact zm (om e (zy h fun q4 h=>oV (zX e e q4) (oa e (zK (hJ3 h 3)))))


theorem zrB {a_s a_i r} (h:zh8 a_s a_i=some r):Ctr Tryz.prog 108 [isv a_s,isv a_i] [] (Pt [isv r.1,isv r.2] []):=by
 unfold zh8 at h
 refine zi Tryz.func108 e fun w0 S0 hT=>ws (oa e (an e (ws (om e (zy h fun q1 h=>oV (zX e e q1) (an e (ws (om e (an e (zE (zr (lO 1 h e fun L3 q2 Q58 h hL3 eL3 rL3=>ss (om e (om e (oV (zeN st9 e) (oV (z7 e e) (om e (jO 17 31 h (fun q31 h=>?_) fun J32 h hJ32=>oI h (fun g33 h=>?_) fun g33 h=>oN g33 (oN g33 (oN g33 (oN g33 (oN g33 (oU (oU ?_))))))))))))))))))))))))
 ·refine rn (ze h e (fun _ h=>?_) (fun _ h=>xn (eL3 _ _ (zw (zq (ss (om e (om e (zy h fun q45 h=>oV (zcZ e e q45) (zag h fun q46 h=>oV (zuM e e q46) (oV (zaC e e) (om e (jO 5 44 h (fun q47 h=>?_) fun J48 h hJ48=>oI h (fun g49 h=>?_) fun g49 h=>oG g49 (zo e) (oG g49 (zo e) (zd h fun y50 hy50 h=>oH g49 (tC (zf7 hy50) hT (s2 e e) k0 (oG g49 (zgX eq5 e e) (oV (zg e g49 e) (hJ48 h 5)))))))))))))))))))
  ·exact wk (zr (zm (om e (zy h fun q44 h=>oV (zX e e q44) (oa e (rb (hL3 h 10)))))))
  ·refine om e (jO 6 51 h (fun q51 h=>?_) fun J52 h hJ52=>oI h (fun g53 h=>?_) fun g53 h=>oG g53 (zo e) (oG g53 (zo e) (zy h fun q54 h=>oG g53 (zX e e q54) (zd h fun y55 hy55 h=>oH g53 (tC (zf7 hy55) hT (s2 e e) k0 (oG g53 (zgX eq5 e e) (oV (zg e g53 e) (hJ52 h 6))))))))
   ·refine rn (ze h e (fun _ h=>?_) (fun _ h=>wk (zE (zH (.v 0 (.v 1 (.v 2 (.v 3 (.v 4 (.v 5 (.v 6 (.v 7 .nil)))))))) moOrd (by kernel_rfl) (rm e e (zy h fun q56 h=>zj e (zX e e q56) (rm e e (rm e e (rm e e (zad h fun q57 h=>zj e (zlT st9 e (.inr ⟨_,e,e⟩) (.inr ⟨_,e,e⟩) q57.1 q57.2.1 q57.2.2) (zj e (zaj e) (zj e (zaj e) (z6 (zq (zaQ (zf (r2 e e) k0 (iS h ▸ ⟨e,e⟩)))))))))))))))))
    exact ws (oa e (ar e (zz (zf (r2 e e) k0 (iS h ▸ ⟨e,e⟩)))))
   exact oN g53 (oN g53 (oN g53 (oN g53 (oN g53 (oV (zh e g53 e) (hJ52 h 6))))))
  exact oN g49 (oN g49 (oN g49 (oN g49 (oV (zh e g49 e) (hJ48 h 5)))))
 ·refine oG g33 (zo e) (oG g33 (zo e) (zd h fun y34 hy34 h=>oG g33 (zb4 y34 st9 e e hy34) (zd h fun y35 hy35 h=>oH g33 (tC (zfW hy35) hT (s1 e) k0 (oG g33 (zo e) (jO 11 30 h (fun q36 h=>?_) fun J37 h hJ37=>oI h (fun g38 h=>?_) fun g38 h=>oG g38 (zo e) (oG g38 (zo e) (zd h fun y39 hy39 h=>oG g38 (zb4 y39 st9 e e hy39) (oG g38 (zmo e e) (oG g38 (zo e) (jO 5 29 h (fun q40 h=>?_) fun J41 h hJ41=>oI h (fun g42 h=>?_) fun g42 h=>oN g42 (oN g42 (oN g42 (oN g42 (oG g38 (zg e g42 e) (hJ41 h 5))))))))))))))))
  ·exact oV (zh e g33 e) (hJ32 h 7)
  ·exact oN g38 (oN g38 (oN g38 (oN g38 (oN g38 (oU (oU (oU (oU (oN g38 (oG g33 (zh e g38 e) (hJ37 h 11)))))))))))
  ·exact oG g33 (zg e g38 e) (hJ37 h 7)
  exact oG g42 (zo e) (oG g42 (zo e) (zd h fun y43 hy43 h=>oG g42 (zb4 y43 st9 e e hy43) (oG g42 (zmq e e) (oG g38 (zh e g42 e) (hJ41 h 5)))))
 exact oU (oU (oU (oU (oU (oU (oU (oU (oN g33 (oV (zg e g33 e) (hJ32 h 17))))))))))


theorem zos {a_s a_i r} (h:zeE a_s a_i=some r):Ctr Tryz.prog 109 [isv a_s,isv a_i] [] (Pt [isv r.1,isv r.2] []):=by
 unfold zeE at h
 refine zi Tryz.func109 e fun w0 S0 hT=>ws (oa e (an e (ws (an e (ss (om e (zy h fun q1 h=>oV (zX e e q1) (an e (zr (lP h Unit () (fun q2 g2=>[(1,isv q2.1),(6,isv q2.2)]) (fun q2 g2=>[]) (zB (j:=1) e hI (zB (j:=6) e hI zan)) k0 fun L3 q2 g2 Q30 h hL3 eL3 rL3=>ss (om e (om e (oV (zeN st9 e) (oV (z7 e e) (rn (ze h e (fun _ h=>?_) (fun _ h=>xn (eL3 _ _ (zw (zq (ws (oa e (ar e (zf (r2 e e) k0 (iS h ▸ ⟨e,e⟩)))))))))))))))))))))))))
 refine wk (zE (jw h Unit (fun q17 g17=>[(1,isv q17.1),(6,isv q17.2)]) (fun q17 g17=>[]) k0 (fun q17 g17 h=>?_) fun J18 h hJ18=>zr (ss (om e (om e (zd h fun y19 hy19 h=>oV (zb4 y19 st9 e e hy19) (oV (zgX eq5 e e) (rn (ze h e (fun _ h=>?_) (fun _ h=>wk (ss (om e (om e (zy h fun q23 h=>oV (zX e e q23) (zd h fun y24 hy24 h=>oT (tC (zf7 hy24) hT (s2 e e) k0 (oV (zgX eq5 e e) (rn (ze h e (fun _ h=>?_) (fun _ h=>wk (ws (om e (zag h fun q27 h=>oV (zuq e e q27) (an e (zm ?_)))))))))))))))))))))))))
 ·exact zm (om e (zy h fun q29 h=>oV (zX e e q29) (oa e (zK (hL3 h () 11)))))
 ·exact ws (om e (om e (om e (om e (zy h fun q20 h=>oV (zX e e q20) (zad h fun q21 h=>oV (zlT st9 e (.inr ⟨_,e,e⟩) (.inr ⟨_,e,e⟩) q21.1 q21.2.1 q21.2.2) (zag h fun q22 h=>oV (zuq e e q22) (an e (xn (zw (hJ18 h () 12)))))))))))
 ·refine ss (om e (zd h fun y25 hy25 h=>oT (tC (zks hy25) hT (s1 e) k0 (oV (zal e) (rn (ze h e (fun _ h=>?_) (fun _ h=>wk (ws (om e (zy h fun q26 h=>oV (zX e e q26) (om e (oa e (ar e (zz (bn (rL3 _ (bn (zf (r2 e e) k0 (iS h ▸ ⟨e,e⟩)))))))))))))))))))
  exact ws (oa e (ar e (zz (zz (bn (rL3 _ (bn (zf (r2 e e) k0 (iS h ▸ ⟨e,e⟩)))))))))
 exact om e (zy h fun q28 h=>oV (zX e e q28) (oa e (rb (hJ18 h () 15))))


theorem zp4 {a_s a_i r} (h:zg6 a_s a_i=some r):Ctr Tryz.prog 110 [isv a_s,isv a_i] [] (Pt [isv r] []):=by
 unfold zg6 at h
 refine zi Tryz.func110 e fun w0 S0 hT=>ws (an e (ws (om e (om e (zad h fun q1 h=>oV (zlT st9 e (.inr ⟨_,e,e⟩) (.inl ⟨e,e⟩) q1.1 q1.2.1 q1.2.2) (an e (ws (oT (zN (l:=([(Str.mk [58,58,61]),(Str.mk [46,46,46]),(Str.mk [46,46]),(Str.mk [91,91]),(Str.mk [93,93]),(Str.mk [123]),(Str.mk [125]),(Str.mk [91]),(Str.mk [93]),(Str.mk [40]),(Str.mk [41]),(Str.mk [44]),(Str.mk [58])]:(List Str))) el27 (.cons e hI (.cons e hI (.cons e hI (.cons e hI (.cons e hI (.cons e hI (.cons e hI (.cons e hI (.cons e hI (.cons e hI (.cons e hI (.cons e hI (.cons e hI .nil))))))))))))) e e (an e (ss (an e (zr (lO 7 h e fun L4 q3 Q19 h hL4 eL4 rL4=>ss (om e (om e (oV (zlN (l:=([(Str.mk [58,58,61]),(Str.mk [46,46,46]),(Str.mk [46,46]),(Str.mk [91,91]),(Str.mk [93,93]),(Str.mk [123]),(Str.mk [125]),(Str.mk [91]),(Str.mk [93]),(Str.mk [40]),(Str.mk [41]),(Str.mk [44]),(Str.mk [58])]:(List Str))) e zG sl27) (oV (z7 e e) (rn (ze h e (fun _ h=>?_) (fun _ h=>xn (eL4 _ _ (zw (zq (ws (ar e (zf (r1 e) k0 (iS h ▸ ⟨e,e⟩))))))))))))))))))))))))))))
 refine wk (zE (zr (ws (om e (om e (zd h fun y12 hy12 h=>oV (zk7 (l:=([(Str.mk [58,58,61]),(Str.mk [46,46,46]),(Str.mk [46,46]),(Str.mk [91,91]),(Str.mk [93,93]),(Str.mk [123]),(Str.mk [125]),(Str.mk [91]),(Str.mk [93]),(Str.mk [40]),(Str.mk [41]),(Str.mk [44]),(Str.mk [58])]:(List Str))) e zG e sl27 hy12) (oV (za ty9 e) (oV (zeN st9 e) (an e (zE (zH (.v 0 (.v 1 (.v 2 (.v 3 (.v 4 (.v 5 (.v 6 (.v 7 (.v 8 (.v 9 (.v 10 (.v 11 (.v 12 (.v 13 .nil)))))))))))))) moOrd (by kernel_rfl) (rm e e (zj e (zeN st9 e) (rm e e (zj e (zbF e e) (rm e e (jD 9 37 h (fun q13 h=>?_) fun J14 h hJ14=>rJ h (fun g15 h=>?_) fun g15 h=>rP e g15 (rP e g15 (rP e g15 (rP e g15 (rP e g15 (rP e g15 (rP e g15 (rP e g15 (zj e (zg e g15 e) (hJ14 h 9))))))))))))))))))))))))))
 ·refine z6 (zq (ze h e (fun _ h=>?_) (fun _ h=>zJ (zx (zq (zm (om e (zy h fun q18 h=>oV (zX e e q18) (oa e (zK (hL4 h 20)))))))))))
  exact ws (om e (ar e (bn (rL4 _ (bn (zf (r1 e) k0 (iS h ▸ ⟨e,e⟩)))))))
 exact rG e g15 (zo e) (rG e g15 (zo e) (zad h fun q16 h=>rG e g15 (zlT st9 e (.inl ⟨e,e⟩) (.inr ⟨_,e,e⟩) q16.1 q16.2.1 q16.2.2) (rG e g15 (zo e) (rG e g15 (zo e) (zd h fun y17 hy17 h=>rG e g15 (zk7 (l:=([(Str.mk [58,58,61]),(Str.mk [46,46,46]),(Str.mk [46,46]),(Str.mk [91,91]),(Str.mk [93,93]),(Str.mk [123]),(Str.mk [125]),(Str.mk [91]),(Str.mk [93]),(Str.mk [40]),(Str.mk [41]),(Str.mk [44]),(Str.mk [58])]:(List Str))) e zG e sl27 hy17) (rG e g15 (za ty9 e) (rG e g15 (zb6 eq9 e e) (zj e (zh e g15 e) (hJ14 h 9)))))))))


theorem zrU {a_s a_i r} (h:zh9 a_s a_i=some r):Ctr Tryz.prog 72 [isv a_s,isv a_i] [] (Pt [isv r.1,isv r.2] []):=by
 unfold zh9 at h
 refine zi Tryz.func72 e fun w0 S0 hT=>ws (oT (zC _ ze109 fun b1=>an e (ws (om e (oV (zaa (z:=(GTok.mk (0:Int) (Str.mk []) a_i)) e bu109 ze109 (.cons GTok.f2 znS e hI .nil)) (oT (zC _ ze109 fun b2=>oT (tS ty109 e e p0 ⟨0,⟨[]⟩,a_i⟩ (rn (ws (om e (om e (zd h fun y3 hy3 h=>oV (zb4 y3 st9 e e hy3) (an e (ws (an e (zE (jw h Unit (fun q4 g4=>[(8,isv q4.1)]) (fun q4 g4=>[boxE b2 (q4.2:GTok)]) k1 (fun q4 g4 h=>?_) fun J5 h hJ5=>zr (ws (om e (zd h fun y6 hy6 h=>oT (tC (ziv hy6) hT (s1 e) k0 (an e (ze h e (fun _ h=>?_) (fun _ h=>ws (om e (zd h fun y12 hy12 h=>?_)))))))))))))))))))))))))))
 ·exact ws (oT (tL ty109 e p0 q4.2 (om e (oT (tS ty109 e e p1 q4.2 (ar e (zf (.cell e .here ty109 (.tmp e .nil)) k0 (iS h ▸ ⟨e,e⟩))))))))
 ·refine ws (om e (om e (zd h fun y7 hy7 h=>oT (tC (zqp hy7) hT (s2 e e) k0 (an e (ss (om e (oV (z7 e e) (rn (ze h e (fun _ h=>?_) (fun _ h=>wk (zE (zH (.v 0 (.v 1 (.v 2 (.v 3 (.v 4 (.t 5 (.v 6 (.t 7 .nil)))))))) moOrd (by kernel_rfl) (rm e e (rm e e (rm e e (zad h fun q8 h=>zj e (zlT st9 e (.inr ⟨_,e,e⟩) (.inr ⟨_,e,e⟩) q8.1 q8.2.1 q8.2.2) (zj e (zV e GTok.f0 zcs) (rT e (tS ty3 e e p0 ⟨2,⟨[]⟩,a_i⟩ (zj e (zV e GTok.f1 zdN) (rT e (tS ty9 e e p0 ⟨2,⟨((a_s.b.take (y7).toNat).drop (a_i).toNat)⟩,a_i⟩ (z6 (zq (ss (om e (oV (zmq e e) (rn (jw h Unit (fun q9 g9=>[]) (fun q9 g9=>[boxE b2 (q9:GTok)]) k1 (fun q9 g9 h=>?_) fun J10 h hJ10=>?_))))))))))))))))))))))))))))))
  ·exact ws (oT (tL ty109 e p0 ⟨0,⟨[]⟩,a_i⟩ (oT (tS ty109 e e p1 ⟨0,⟨[]⟩,a_i⟩ (ar e (zz (bn (zf (.cell e .here ty109 (.tmp e .nil)) k0 (iS h ▸ ⟨e,e⟩)))))))))
  ·refine ws (oV (zV e GTok.f1 zdN) (oT (tL ty9 e p0 q9.text (zd h fun y11 hy11 h=>oT (tC (zpF hy11) hT (s1 e) k0 (rn (ze h e (fun _ h=>?_) (fun _ h=>zJ (zx (hJ5 h () 20))))))))))
   exact zm (oV (zV e GTok.f0 zcs) (oT (tS ty3 e e p0 ({ q9 with kind:=5 }) (rb (hJ5 h () 21)))))
  refine ze h e (fun _ h=>?_) (fun _ h=>zJ (hJ10 h () 0))
  exact zm (oV (zV e GTok.f0 zcs) (oT (tS ty3 e e p0 ⟨1,⟨((a_s.b.take (y7).toNat).drop (a_i).toNat)⟩,a_i⟩ (zK (hJ10 h () 1)))))
 refine oT (tC (zfW hy12) hT (s1 e) k0 (om e (jO 10 66 h (fun q13 h=>?_) fun J14 h hJ14=>oI h (fun g15 h=>?_) fun g15 h=>oG g15 (zo e) (oG g15 (zb6 eq5 e e) (oG g15 (zo e) (jO 6 65 h (fun q16 h=>?_) fun J17 h hJ17=>oI h (fun g18 h=>?_) fun g18 h=>oN g18 (oN g18 (oN g18 (oN g18 (oN g18 (oG g15 (zg e g18 e) (hJ17 h 6))))))))))))
 ·refine an e (ze h e (fun _ h=>?_) (fun _ h=>ws (om e (oV (zb6 eq5 e e) (an e (ze h e (fun _ h=>?_) (fun _ h=>ws (om e (oV (zb6 eq5 e e) (an e (ze h e (fun _ h=>?_) (fun _ h=>ws (om e (om e (zd h fun y26 hy26 h=>oT (tC (zp4 hy26) hT (s2 e e) k0 (an e (ws (om e (oV (zbc e e) (rn (ze h e (fun _ h=>?_) (fun _ h=>zJ (zx (hJ5 h () 20)))))))))))))))))))))))))
  ·refine ws (om e (om e (zd h fun y22 hy22 h=>oT (tC (zn0 hy22) hT (s2 e e) k0 (an e (ss (om e (oV (z7 e e) (rn (ze h e (fun _ h=>?_) (fun _ h=>wk (zH (.v 0 (.v 1 (.v 2 (.v 3 (.v 4 (.t 5 (.v 6 (.t 7 .nil)))))))) moOrd (by kernel_rfl) (rm e e (rm e e (rm e e (zad h fun q23 h=>zj e (zlT st9 e (.inr ⟨_,e,e⟩) (.inr ⟨_,e,e⟩) q23.1 q23.2.1 q23.2.2) (zj e (zV e GTok.f0 zcs) (rT e (tS ty3 e e p0 ⟨3,⟨[]⟩,a_i⟩ (zj e (zV e GTok.f1 zdN) (rT e (tS ty9 e e p0 ⟨3,⟨((a_s.b.take (y22).toNat).drop (a_i).toNat)⟩,a_i⟩ (z6 (zx (hJ5 h () 20)))))))))))))))))))))))))
   exact ws (oT (tL ty109 e p0 ⟨0,⟨[]⟩,a_i⟩ (oT (tS ty109 e e p1 ⟨0,⟨[]⟩,a_i⟩ (ar e (zz (bn (zf (.cell e .here ty109 (.tmp e .nil)) k0 (iS h ▸ ⟨e,e⟩)))))))))
  ·exact ws (oV (zV e GTok.f0 zcs) (oT (tS ty3 e e p0 ⟨4,⟨[]⟩,a_i⟩ (rn (zm (om e (om e (zd h fun y24 hy24 h=>oT (tC (zrB hy24) hT (s2 e e) k0 (om e (oV (zA e e) (oV (zA e e) (oa e (oV (zV e GTok.f1 zdN) (oT (tS ty9 e e p0 ⟨4,y24.2,a_i⟩ (rb (hJ5 h () 20))))))))))))))))))
  ·exact ws (oV (zV e GTok.f0 zcs) (oT (tS ty3 e e p0 ⟨7,⟨[]⟩,a_i⟩ (rn (zm (om e (om e (zd h fun y25 hy25 h=>oT (tC (zos hy25) hT (s2 e e) k0 (om e (oV (zA e e) (oV (zA e e) (oa e (oV (zV e GTok.f1 zdN) (oT (tS ty9 e e p0 ⟨7,y25.2,a_i⟩ (rb (hJ5 h () 23))))))))))))))))))
  exact zH (.v 0 (.v 1 (.v 2 (.v 3 (.v 4 (.v 5 (.v 6 (.v 7 (.v 8 (.v 9 (.t 10 (.v 11 (.t 12 (.v 13 .nil)))))))))))))) moOrd (by kernel_rfl) (rm e e (rm e e (rm e e (rm e e (zy h fun q27 h=>zj e (zX e e q27) (zad h fun q28 h=>zj e (zlT st9 e (.inr ⟨_,e,e⟩) (.inr ⟨_,e,e⟩) q28.1 q28.2.1 q28.2.2) (rm e e (rm e e (zy h fun q29 h=>zj e (zX e e q29) (zj e (zV e GTok.f0 zcs) (rT e (tS ty3 e e p0 ⟨6,⟨[]⟩,a_i⟩ (zj e (zV e GTok.f1 zdN) (rT e (tS ty9 e e p0 ⟨6,⟨((a_s.b.take ((a_i + y26)).toNat).drop (a_i).toNat)⟩,a_i⟩ (zj e (zaj e) (z6 (zx (hJ5 h () 32)))))))))))))))))))
 ·exact oN g15 (oN g15 (oN g15 (oU (oU (oU (oU (oU (oN g15 (oV (zh e g15 e) (hJ14 h 10))))))))))
 ·exact oV (zg e g15 e) (hJ14 h 5)
 exact oG g18 (zo e) (oG g18 (zo e) (zy h fun q19 h=>oG g18 (zX e e q19) (zd h fun y20 hy20 h=>oH g18 (tC (zf7 hy20) hT (s2 e e) k0 (zd h fun y21 hy21 h=>oH g18 (tC (zfW hy21) hT (s1 e) k0 (oG g15 (zh e g18 e) (hJ17 h 6))))))))


theorem zoi {zbM r} (h:zd2 zbM=some r):Ctr Tryz.prog 45 [isv zbM] [] (Pt [isv r.1,isv r.2.1,isv r.2.2] []):=by
 unfold zd2 at h
 refine zi Tryz.func45 e fun w0 S0 hT=>ws (oa e (oa e (an e (ss (om e (oV (zeN st9 e) (oV (zbc e e) (rn (ze h e (fun _ h=>?_) (fun _ h=>wk (ws (an e (ws (an e (zr (zhO (zau) (lP h Tok none (fun q1 g1=>[(5,appv g1 q1.1),(6,isv q1.2)]) (fun q1 g1=>[tokE g1]) (zB (j:=5) e zbI (zB (j:=6) e hI zan)) k1 fun L2 q1 g1 Q22 h hL2 eL2 rL2=>zr (ws (om e (om e (zd h fun y12 hy12 h=>oT (tC (zoF hy12) hT (s2 e e) k0 (an e (ss (om e (om e (oV (zeN st9 e) ?_)))))))))))))))))))))))))))
 ·exact ws (oa e (oa e (ar e (zz (zf (.as e (zcU (α:=GTok)) (.tmp e (.tmp e .nil))) k0 (iS h ▸ ⟨e,e⟩))))))
 refine oV (zbF e e) (rn (ze h e (fun _ h=>?_) (fun _ h=>wk (ws (om e (om e (zd h fun y16 hy16 h=>oT (tC (zrU hy16) hT (s2 e e) k0 (om e (oV (zA e e) (oV (zA e e) (oT (zC _ ze109 fun b17=>oT (tS ty109 e e p0 y16.1 (zI (z8 7 .here e) (an e (ss (om e (oV (z7 e e) (rn (ze h e (fun _ h=>?_) (fun _ h=>wk (ws (om e (oV (za ty109 e) (oT (zN (l:=([y16.1]:(List GTok))) el99 (.cons e hI .nil) e e (zag h fun q20 h=>oT (za7 (l:=q1.1) (m:=([y16.1]:(List GTok))) zqB e hI e zG .here q20 fun t19=>an e (zm ?_))))))))))))))))))))))))))))))
 ·exact ws (om e (om e (oV (zeN st9 e) (oV (zaa (z:=(GTok.mk (0:Int) (Str.mk []) (zbM.b.length:Int))) e bu109 ze109 (.cons GTok.f2 znS e hI .nil)) (oT (zN (l:=([(GTok.mk (0:Int) (Str.mk []) (zbM.b.length:Int))]:(List GTok))) el99 (.cons e hI .nil) e e (zag h fun q15 h=>oT (za7 (l:=q1.1) (m:=([(GTok.mk (0:Int) (Str.mk []) (zbM.b.length:Int))]:(List GTok))) zqB e hI e zG .here q15 fun t14=>oa e (oa e (ar e (zz (zbm (rL2 _ (zbm (zf (.as e zG (.tmp e (.tmp e .nil))) k0 (iS h ▸ ⟨e,e⟩))))))))))))))))
 ·exact ws (om e (oa e (oa e (ar e (zz (zbm (rL2 _ (zbm (zf (.as e (zcU (α:=GTok)) (.tmp e (.tmp e .nil))) k0 (iS h ▸ ⟨e,e⟩))))))))))
 exact om e (oa e (rb (hL2 h t19 28)))


theorem zaU {a_x zW t_a_x1 t_a_x2 zT r} (h:zax a_x=some r):Ctr Tryz.prog 49 [ptrv zW (Fld.id GParOT)] [boxE zW (GParO a_x t_a_x1 t_a_x2 zT),tokE t_a_x1,tokE t_a_x2,vecE zT a_x.m.nodes] (Pt2 (fun _ _=>[isv r.1]) fun u1 u2=>[boxE zW (GParO r.2 u1 u2 zT),tokE u1,tokE u2,vecE zT r.2.m.nodes]):=by
 unfold zax at h
 exact zi Tryz.func49 e fun w0 S0 hT=>ws (oT (zC _ ze109 fun b4=>rn (zE (zdH 0 (.there .here) e (fun o5 hn6=>zH (.v 0 (.v 1 (.v 2 (.v 3 (.v 4 (.v 5 (.v 6 (.v 7 (.v 8 (.v 9 (.t 10 .nil))))))))))) moOrd (by kernel_rfl) (rm e e (zj e (zbA e) (zj e (zhl e zjx zmc) (zj e (vP ty99 e m0 a_x.l) (rm e e (zj e (zbA e) (zj e (zhl e zhL zk2) (zj e (vP ty3 e m0 a_x.at_) (zd h fun y7 hy7 h=>zj e (vX e e sl99 hy7) (zj e (za ty109 e) (rT e (tS ty109 e e p0 y7 (z6 (zaZ 0 hn6 e (zq (zaQ (zf (.cell e (.there .here) ty109 .nil) (a0 (a1 (a1 (a1 k0)))) (iS h ▸ ⟨t_a_x1,t_a_x2,e,e⟩)))))))))))))))))))))))


theorem zbg {a_x a_e a_t zW t_a_x1 t_a_x2 zT r} (h:zaI a_x a_e a_t=some r):Ctr Tryz.prog 50 [ptrv zW (Fld.id GParOT),isv a_e,isv a_t] [boxE zW (GParO a_x t_a_x1 t_a_x2 zT),tokE t_a_x1,tokE t_a_x2,vecE zT a_x.m.nodes] (Pt2 (fun _ _=>[]) fun u1 u2=>[boxE zW (GParO r u1 u2 zT),tokE u1,tokE u2,vecE zT r.m.nodes]):=by
 unfold zaI at h
 refine zi Tryz.func50 e fun w0 S0 hT=>ws (oT (tB e (rn (ws (om e (oV (zs e) (oV (zV e zbB zcD) (oT (tL ty38 e p0 a_x.e (oV (zD e e) (rn (ze h e (fun _ h=>?_) (fun _ h=>zJ (zaJ .nil k4 (iS h ▸ ⟨t_a_x1,t_a_x2,e,e⟩)))))))))))))))
 exact zH (.v 0 (.v 1 (.v 2 (.v 3 (.v 4 (.v 5 (.v 6 (.t 7 (.v 8 (.v 9 (.t 10 .nil))))))))))) moOrd (by kernel_rfl) (rm e e (rm e e (rm e e (zj e (vI e GTok.f2 znS a_t.at_) (zj e (za ty3 e) (zj e (zs e) (zj e (zV e zbB zcD) (rT e (tS ty38 e e p0 (GParO {a_x with e:=a_e} t_a_x1 t_a_x2 zT) (zj e (zs e) (zj e (zV e znt zqD) (rT e (tS ty3 e e p0 (GParO {a_x with e:=a_e,p:=a_t.at_} t_a_x1 t_a_x2 zT) (z6 (zaJ .nil k4 (iS h ▸ ⟨t_a_x1,t_a_x2,e,e⟩))))))))))))))))


theorem zbS {a_x zW t_a_x1 t_a_x2 zT r} (h:zba a_x=some r):Ctr Tryz.prog 73 [ptrv zW (Fld.id GParOT)] [boxE zW (GParO a_x t_a_x1 t_a_x2 zT),tokE t_a_x1,tokE t_a_x2,vecE zT a_x.m.nodes] (Pt2 (fun _ _=>[isv r.1]) fun u1 u2=>[boxE zW (GParO r.2 u1 u2 zT),tokE u1,tokE u2,vecE zT r.2.m.nodes]):=by
 unfold zba at h
 refine zi Tryz.func73 e fun w0 S0 hT=>ws (oT (zC _ ze109 fun b4=>rn (zE (zdH 0 (.there .here) e (fun o5 hn6=>zH (.v 0 (.v 1 (.v 2 (.v 3 (.v 4 (.v 5 (.v 6 (.v 7 (.v 8 (.v 9 (.t 10 (.t 11 .nil)))))))))))) moOrd (by kernel_rfl) (rm e e (zj e (zbA e) (zj e (zhl e zjx zmc) (zj e (vP ty99 e m0 a_x.l) (rm e e (zj e (zbA e) (zj e (zhl e zhL zk2) (zj e (vP ty3 e m0 a_x.at_) (zd h fun y7 hy7 h=>zj e (vX e e sl99 hy7) (zj e (za ty109 e) (rT e (zC _ ze109 fun b8=>rT e (tS ty109 e e p0 y7 (zbG (z8 3 .here e) (z6 (zaZ 0 hn6 e (zq (zE (zE (zdH 0 .here e (fun o9 hn10=>zH (.v 0 (.v 1 (.v 2 (.v 3 (.v 4 (.v 5 (.v 6 (.v 7 (.v 8 (.v 9 (.v 10 .nil))))))))))) moOrd (by kernel_rfl) (rm e e (zj e (zbA e) ?_))))))))))))))))))))))))))))
 refine zj e (zhl e zhL zk2) (zj e (vP ty3 e m0 a_x.at_) (zy h fun q11 h=>zj e (zX e e q11) (rm e e (zj e (zbA e) (zj e (zhl e zjx zmc) (zj e (vP ty99 e m0 a_x.l) (zj e (vN e sl99) (zj e (z7 e e) (z6 (zaZ 0 hn10 e (zq (jw h (Tok × Tok) (fun q12 g12=>[]) (fun q12 g12=>[boxE zW (GParO q12 g12.1 g12.2 zT),tokE g12.1,tokE g12.2,vecE zT q12.m.nodes]) (a0 (a1 (a1 (a1 k0)))) (fun q12 g12 h=>?_) fun J13 h hJ13=>ze h e (fun _ h=>?_) (fun _ h=>zJ (hJ13 h (t_a_x1,t_a_x2) 0))))))))))))))
 ·exact ws (oV (za ty109 e) (oT (tS ty109 e e p4 y7 (rn (zaQ (zf (.cell e .here ty109 .nil) (a1 (a1 (a1 (a1 k0)))) (iS h ▸ ⟨g12.1,g12.2,e,e⟩)))))))
 exact zm (om e (oV (zs e) (oV (zV e zhL zk2) (oT (tL ty3 e p0 a_x.at_ (zy h fun q14 h=>oV (zX e e q14) (oV (zs e) (oV (zV e zhL zk2) (oT (tS ty3 e e p0 (GParO {a_x with at_:=(a_x.at_ + 1)} t_a_x1 t_a_x2 zT) (zK (hJ13 h (t_a_x1,t_a_x2) 7))))))))))))


theorem zcT {a_x a_k zW t_a_x1 t_a_x2 zT r} (h:za9 a_x a_k=some r):Ctr Tryz.prog 46 [ptrv zW (Fld.id GParOT),isv a_k] [boxE zW (GParO a_x t_a_x1 t_a_x2 zT),tokE t_a_x1,tokE t_a_x2,vecE zT a_x.m.nodes] (Pt2 (fun _ _=>[isv r.1]) fun u1 u2=>[boxE zW (GParO r.2 u1 u2 zT),tokE u1,tokE u2,vecE zT r.2.m.nodes]):=by
 unfold za9 at h
 refine zi Tryz.func46 e fun w0 S0 hT=>ws (an e (ws (om e (zd h fun y4 hy4 h=>oT (tC2 (zaU hy4) hT (s1 e) k4 (fun t5 t6=>oT (zC _ ze109 fun b7=>oT (tS ty109 e e p0 y4.1 (zI (z8 5 .here e) (rn (ss (om e (oV (zs e) (oV (zV e zbB zcD) (oT (tL ty38 e p0 y4.2.e (oV (zaC e e) (om e (jO 5 18 h (fun q8 h=>?_) fun J9 h hJ9=>oI h (fun g10 h=>?_) fun g10 h=>oG g10 (vI e GTok.f0 zcs y4.1.kind) (oG g10 (za ty3 e) (oG g10 (zo e) (oG g10 (zaC e e) (oV (zg e g10 e) (hJ9 h 5))))))))))))))))))))))))
 ·refine rn (ze h e (fun _ h=>?_) (fun _ h=>wk (ws (om e (zd h fun y14 hy14 h=>oT (tC2 (zbS hy14) hT (s1 e) k4 (fun t15 t16=>oV (zjy GTok.f1 e zdN e) (ar e (zf (r1 e) k4 (iS h ▸ ⟨t15,t16,e,e⟩))))))))))
  exact ws (om e (oV (za ty109 e) (zd h fun y11 hy11 h=>oT (tC2 (zbg hy11) hT (s3 e e e) k4 (fun t12 t13=>rn (ws (ar e (zz (zf (r1 e) k4 (iS h ▸ ⟨t12,t13,e,e⟩))))))))))
 exact oN g10 (oN g10 (oN g10 (oN g10 (oV (zh e g10 e) (hJ9 h 5)))))


theorem zQ {a_x a_s zW t_a_x1 t_a_x2 zT r} (h:zO a_x a_s=some r):Ctr Tryz.prog 48 [ptrv zW (Fld.id GParOT),isv a_s] [boxE zW (GParO a_x t_a_x1 t_a_x2 zT),tokE t_a_x1,tokE t_a_x2,vecE zT a_x.m.nodes] (Pt2 (fun _ _=>[isv r.1]) fun u1 u2=>[boxE zW (GParO r.2 u1 u2 zT),tokE u1,tokE u2,vecE zT r.2.m.nodes]):=by
 unfold zO at h
 refine zi Tryz.func48 e fun w0 S0 hT=>ws (an e (ws (om e (zd h fun y4 hy4 h=>oT (tC2 (zaU hy4) hT (s1 e) k4 (fun t5 t6=>oT (zC _ ze109 fun b7=>oT (tS ty109 e e p0 y4.1 (zI (z8 5 .here e) (rn (ss (om e (oV (zs e) (oV (zV e zbB zcD) (oT (tL ty38 e p0 y4.2.e (oV (zD e e) (om e (jO 9 22 h (fun q8 h=>?_) fun J9 h hJ9=>oI h (fun g10 h=>?_) fun g10 h=>oN g10 (oN g10 (oN g10 (oN g10 (oU (oU (oU (oN g10 (oV (zg e g10 e) (hJ9 h 9))))))))))))))))))))))))))))
 ·refine om e (jO 5 28 h (fun q14 h=>?_) fun J15 h hJ15=>oI h (fun g16 h=>?_) fun g16 h=>oN g16 (oN g16 (oN g16 (oN g16 (oV (zg e g16 e) (hJ15 h 5))))))
  ·refine rn (ze h e (fun _ h=>?_) (fun _ h=>wk (ws (ar e (zf (r1 e) k4 (iS h ▸ ⟨t5,t6,e,e⟩))))))
   exact ws (om e (zd h fun y17 hy17 h=>oT (tC2 (zbS hy17) hT (s1 e) k4 (fun t18 t19=>rn (ws (ar e (zz (zf (r1 e) k4 (iS h ▸ ⟨t18,t19,e,e⟩)))))))))
  exact oG g16 (vI e GTok.f1 zdN y4.1.text) (oG g16 (za ty9 e) (oG g16 (zo e) (oG g16 (zb6 eq9 e e) (oV (zh e g16 e) (hJ15 h 5)))))
 refine oG g10 (vI e GTok.f0 zcs y4.1.kind) (oG g10 (za ty3 e) (oG g10 (zD e e) (oG g10 (zo e) (jO 4 21 h (fun q11 h=>?_) fun J12 h hJ12=>oI h (fun g13 h=>?_) fun g13 h=>oG g13 (vI e GTok.f0 zcs y4.1.kind) (oG g13 (za ty3 e) (oG g13 (zD e e) (oG g10 (zg e g13 e) (hJ12 h 4))))))))
 ·exact oV (zh e g10 e) (hJ9 h 6)
 exact oN g13 (oN g13 (oN g13 (oG g10 (zh e g13 e) (hJ12 h 4))))


theorem zac {a_x a_s zW t_a_x1 t_a_x2 zT r} (h:zU a_x a_s=some r):Ctr Tryz.prog 47 [ptrv zW (Fld.id GParOT),isv a_s] [boxE zW (GParO a_x t_a_x1 t_a_x2 zT),tokE t_a_x1,tokE t_a_x2,vecE zT a_x.m.nodes] (Pt2 (fun _ _=>[]) fun u1 u2=>[boxE zW (GParO r u1 u2 zT),tokE u1,tokE u2,vecE zT r.m.nodes]):=by
 unfold zU at h
 refine zi Tryz.func47 e fun w0 S0 hT=>ws (om e (oV (zs e) (oV (zV e zbB zcD) (oT (tL ty38 e p0 a_x.e (oV (zD e e) (om e (jo 5 h (Tok × Tok) (fun q4 g4=>[(14,isv q4.1)]) (fun q4 g4=>[boxE zW (GParO q4.2 g4.1 g4.2 zT),tokE g4.1,tokE g4.2,vecE zT q4.2.m.nodes]) k4 (fun q4 g4 h=>?_) fun J5 h hJ5=>oI h (fun g6 h=>?_) fun g6 h=>oN g6 (oN g6 (oN g6 (oN g6 (oV (zg e g6 e) (hJ5 h (t_a_x1,t_a_x2) 5)))))))))))))
 ·refine rn (ze h e (fun _ h=>?_) (fun _ h=>zJ (zaJ .nil k4 (iS h ▸ ⟨g4.1,g4.2,e,e⟩))))
  exact zm (om e (om e (zd h fun y10 hy10 h=>oT (tC2 (zaU hy10) hT (s1 e) k4 (fun t11 t12=>zd h fun y13 hy13 h=>oT (tC2 (zbg hy13) hT (s3 e e e) k4 (fun t14 t15=>zK (zaJ .nil k4 (iS h ▸ ⟨t14,t15,e,e⟩)))))))))
 exact oG g6 (zo e) (oG g6 (zo e) (zd h fun y7 hy7 h=>oH g6 (tC2 (zQ hy7) hT (s2 e e) k4 (fun t8 t9=>oG g6 (zal e) (oV (zh e g6 e) (hJ5 h (t8,t9) 5))))))


theorem zox {a_t r} (h:zgY a_t=some r):Ctr Tryz.prog 74 [isv a_t] [] (Pt [isv r] []):=by
 unfold zgY at h
 refine zi Tryz.func74 e fun w0 S0 hT=>ws (oT (tB e (an e (ws (oT (zN (l:=([(Str.mk [91]),(Str.mk [66,79,79,76,69,65,78]),(Str.mk [78,85,76,76]),(Str.mk [85,84,70,56,83,116,114,105,110,103]),(Str.mk [73,78,84,69,71,69,82]),(Str.mk [79,67,84,69,84]),(Str.mk [69,78,85,77,69,82,65,84,69,68]),(Str.mk [83,69,84]),(Str.mk [67,72,79,73,67,69]),(Str.mk [83,69,81,85,69,78,67,69])]:(List Str))) el27 (.cons e hI (.cons e hI (.cons e hI (.cons e hI (.cons e hI (.cons e hI (.cons e hI (.cons e hI (.cons e hI (.cons e hI .nil)))))))))) e e (an e (ss (an e (zr (lO 4 h e fun L3 q2 Q20 h hL3 eL3 rL3=>ss (om e (om e (oV (zlN (l:=([(Str.mk [91]),(Str.mk [66,79,79,76,69,65,78]),(Str.mk [78,85,76,76]),(Str.mk [85,84,70,56,83,116,114,105,110,103]),(Str.mk [73,78,84,69,71,69,82]),(Str.mk [79,67,84,69,84]),(Str.mk [69,78,85,77,69,82,65,84,69,68]),(Str.mk [83,69,84]),(Str.mk [67,72,79,73,67,69]),(Str.mk [83,69,81,85,69,78,67,69])]:(List Str))) e zG sl27) (oV (z7 e e) (rn (ze h e (fun _ h=>?_) (fun _ h=>xn (eL3 _ _ (zw (zq (ws (oV (vI e GTok.f0 zcs a_t.kind) (oV (za ty3 e) (oV (zD e e) (ar e (zf (r1 e) k0 (iS h ▸ ⟨e,e⟩))))))))))))))))))))))))))))
 refine wk (zE (zr (zE (zH (.v 0 (.v 1 (.v 2 (.v 3 (.v 4 (.v 5 (.v 6 (.v 7 (.v 8 (.v 9 (.v 10 (.v 11 (.v 12 (.v 13 (.v 14 (.v 15 (.v 16 .nil))))))))))))))))) moOrd (by kernel_rfl) (rm e e (rm e e (zd h fun y12 hy12 h=>zj e (zk7 (l:=([(Str.mk [91]),(Str.mk [66,79,79,76,69,65,78]),(Str.mk [78,85,76,76]),(Str.mk [85,84,70,56,83,116,114,105,110,103]),(Str.mk [73,78,84,69,71,69,82]),(Str.mk [79,67,84,69,84]),(Str.mk [69,78,85,77,69,82,65,84,69,68]),(Str.mk [83,69,84]),(Str.mk [67,72,79,73,67,69]),(Str.mk [83,69,81,85,69,78,67,69])]:(List Str))) e zG e sl27 hy12) (zj e (za ty9 e) (zj e (vI e GTok.f1 zdN a_t.text) (zj e (za ty9 e) (zj e (zb6 eq9 e e) (rm e e (jD 9 28 h (fun q13 h=>?_) fun J14 h hJ14=>rJ h (fun g15 h=>?_) fun g15 h=>rP e g15 (rP e g15 (rP e g15 (rP e g15 (rU e (rU e (rU e (rP e g15 (zj e (zg e g15 e) (hJ14 h 9))))))))))))))))))))))
 ·refine z6 (zq (ze h e (fun _ h=>?_) (fun _ h=>zJ (zx (zq (zm (om e (zy h fun q19 h=>oV (zX e e q19) (oa e (zK (hL3 h 17)))))))))))
  exact ws (ar e (bn (rL3 _ (bn (zf (r1 e) k0 (iS h ▸ ⟨e,e⟩))))))
 refine rG e g15 (vI e GTok.f0 zcs a_t.kind) (rG e g15 (za ty3 e) (rG e g15 (zD e e) (rG e g15 (zo e) (jD 4 27 h (fun q16 h=>?_) fun J17 h hJ17=>rJ h (fun g18 h=>?_) fun g18 h=>rG e g18 (vI e GTok.f0 zcs a_t.kind) (rG e g18 (za ty3 e) (rG e g18 (zD e e) (rG e g15 (zg e g18 e) (hJ17 h 4))))))))
 ·exact zj e (zh e g15 e) (hJ14 h 6)
 exact rP e g18 (rP e g18 (rP e g18 (rG e g15 (zh e g18 e) (hJ17 h 4))))


theorem zl3 {a_s r} (h:zgu a_s=some r):Ctr Tryz.prog 111 [isv a_s] [] (Pt [isv r] []):=by
 unfold zgu at h
 refine zi Tryz.func111 e fun w0 S0 hT=>ws (an e (ws (om e (zd h fun y1 hy1 h=>oV (zb4 y1 st9 e e hy1) (oV (zb6 eq5 e e) (an e (ss (om e (rn (jW 0 h (fun q2 h=>?_) fun J3 h hJ3=>ze h e (fun _ h=>?_) (fun _ h=>zJ (hJ3 h 0))))))))))))
 ·refine ws (an e (ss (an e (zr (lP h Unit () (fun q5 g5=>[(4,isv q5.1),(5,isv q5.2)]) (fun q5 g5=>[]) (zB (j:=4) e hI (zB (j:=5) e hI zan)) k0 fun L6 q5 g5 Q19 h hL6 eL6 rL6=>ss (om e (om e (oV (zeN st9 e) (oV (z7 e e) (rn (ze h e (fun _ h=>?_) (fun _ h=>xn (eL6 _ _ (zw (zq (ss (om e (rn (ze h e (fun _ h=>?_) (fun _ h=>wk (ws (om e (zy h fun q18 h=>oV (ziW Tryz.underlying168 Tryz.underlying2 e q18) (ar e (zf (r1 e) k0 (iS h ▸ ⟨e,e⟩))))))))))))))))))))))))))
  ·exact wk (zE (zr (zm (om e (oV (zqO e e) (om e (om e (zd h fun y13 hy13 h=>oV (zb4 y13 st9 e e hy13) (oV (zoe e e) (oV (zdL Tryz.underlying5 Tryz.underlying168 e) (oV (zqS e e) (oa e (rb (zq (zm (om e (zy h fun q14 h=>oV (zX e e q14) (oa e (zK (hL6 h () 18))))))))))))))))))))
  exact ws (om e (oV (zub e e) (zy h fun q15 h=>oV (ziW Tryz.underlying168 Tryz.underlying2 e q15) (zy h fun q16 h=>oV (zu2 e q16) (zy h fun q17 h=>oV (zcZ e e q17) (ar e (zz (zf (r1 e) k0 (iS h ▸ ⟨e,e⟩)))))))))
 exact zm (om e (zad h fun q4 h=>oV (zlT st9 e (.inr ⟨_,e,e⟩) (.inl ⟨e,e⟩) q4.1 q4.2.1 q4.2.2) (oa e (zK (hJ3 h 3)))))


theorem zc4 {a_x zW t_a_x1 t_a_x2 zT r} (h:zby a_x=some r):Ctr Tryz.prog 75 [ptrv zW (Fld.id GParOT)] [boxE zW (GParO a_x t_a_x1 t_a_x2 zT),tokE t_a_x1,tokE t_a_x2,vecE zT a_x.m.nodes] (Pt2 (fun _ _=>[isv r.1]) fun u1 u2=>[boxE zW (GParO r.2 u1 u2 zT),tokE u1,tokE u2,vecE zT r.2.m.nodes]):=by
 unfold zby at h
 refine zi Tryz.func75 e fun w0 S0 hT=>ws (an e (ws (om e (zd h fun y4 hy4 h=>oT (tC2 (zcT hy4) hT (s2 e e) k4 (fun t5 t6=>an e (ss (om e (oV (zb6 eq9 e e) (rn (ze h e (fun _ h=>?_) (fun _ h=>wk (ws (om e (zd h fun y7 hy7 h=>oT (tC (zl3 hy7) hT (s1 e) k0 (ar e (zf (r1 e) k4 (iS h ▸ ⟨t5,t6,e,e⟩)))))))))))))))))))
 exact ws (ar e (zz (zf (r1 e) k4 (iS h ▸ ⟨t5,t6,e,e⟩))))


theorem zgh {a_x zW t_a_x1 t_a_x2 zT r} (h:zck a_x=some r):Ctr Tryz.prog 113 [ptrv zW (Fld.id GParOT)] [boxE zW (GParO a_x t_a_x1 t_a_x2 zT),tokE t_a_x1,tokE t_a_x2,vecE zT a_x.m.nodes] (Pt2 (fun _ _=>[isv r.1]) fun u1 u2=>[boxE zW (GParO r.2 u1 u2 zT),tokE u1,tokE u2,vecE zT r.2.m.nodes]):=by
 unfold zck at h
 refine zi Tryz.func113 e fun w0 S0 hT=>ws (oT (zC _ ze78 fun b4=>rn (ws (oV (zaa (z:=(GCon.mk true false false false (0:Int) (0:Int))) e bu78 ze78 (.cons GCon.f0 znO e hI .nil)) (oT (zC _ ze78 fun b5=>oT (tS ty78 e e p0 ⟨true,false,false,false,0,0⟩ (rn (ss (om e (zd h fun y6 hy6 h=>oT (tC2 (zQ hy6) hT (s2 e e) (a2 (a2 (a2 (a2 k0)))) (fun t7 t8=>oV (zal e) (rn (jw h (Tok × Tok) (fun q9 g9=>[]) (fun q9 g9=>[boxE zW (GParO q9.1 g9.1 g9.2 zT),tokE g9.1,tokE g9.2,vecE zT q9.1.m.nodes,boxE b5 (q9.2:GCon)]) (a0 (a3 k3)) (fun q9 g9 h=>?_) fun J10 h hJ10=>ze h e (fun _ h=>?_) (fun _ h=>zJ (hJ10 h (t7,t8) 0)))))))))))))))))
 ·refine zE (jw h (Tok × Tok) (fun q14 g14=>[]) (fun q14 g14=>[boxE zW (GParO q14.1 g14.1 g14.2 zT),tokE g14.1,tokE g14.2,vecE zT q14.1.m.nodes,boxE b5 (q14.2:GCon)]) (a0 (a3 k3)) (fun q14 g14 h=>?_) fun J15 h hJ15=>zr (ws (om e (zd h fun y16 hy16 h=>oT (tC2 (zQ hy16) hT (s2 e e) k4 (fun t17 t18=>an e (ze h e (fun _ h=>?_) (fun _ h=>ws (oV (zV e GCon.f1 zlB) (oT (tL ty4 e p4 q9.2.hasLow (an e (ze h e (fun _ h=>?_) (fun _ h=>zJ (zx (hJ15 h (t17,t18) 6))))))))))))))))
  ·refine ss (om e (zd h fun y25 hy25 h=>oT (tC2 (zQ hy25) hT (s2 e e) k4 (fun t26 t27=>rn (jw h (Tok × Tok) (fun q28 g28=>[]) (fun q28 g28=>[boxE zW (GParO q28.1 g28.1 g28.2 zT),tokE g28.1,tokE g28.2,vecE zT q28.1.m.nodes,boxE b5 (q28.2:GCon)]) (a0 (a3 k3)) (fun q28 g28 h=>?_) fun J29 h hJ29=>ze h e (fun _ h=>?_) (fun _ h=>zJ (hJ29 h (t26,t27) 0)))))))
   ·exact ws (oT (tL ty78 e p4 q28.2 (oT (tS ty78 e e (.there p4) q28.2 (rn (zaQ (zf (.cell e .here ty78 .nil) (a1 (a1 (a1 (a1 k0)))) (iS h ▸ ⟨g28.1,g28.2,e,e⟩))))))))
   exact ws (om e (zd h fun y30 hy30 h=>oT (tC2 (zac hy30) hT (s2 e e) k4 (fun t31 t32=>rn (zm (oV (zV e GCon.f3 zkp) (oT (tS ty4 e e p4 ({ q14.2 with more:=true }) (zK (hJ29 h (t31,t32) 3))))))))))
  ·refine ws (om e (zd h fun y19 hy19 h=>oT (tC2 (zQ hy19) hT (s2 e e) k4 (fun t20 t21=>oV (zal e) (rn (ze h e (fun _ h=>?_) (fun _ h=>zJ (zx (hJ15 h (t20,t21) 6)))))))))
   exact zm (om e (zd h fun y22 hy22 h=>oT (tC2 (zc4 hy22) hT (s1 e) k4 (fun t23 t24=>oV (zV e GCon.f2 zls) (oT (tS ty4 e e p4 ({ q9.2 with hasHigh:=true }) (oV (zV e GCon.f5 zkr) (oT (tS ty2 e e p0 ({ { q9.2 with hasHigh:=true } with high:=y22.1 }) (rb (hJ15 h (t23,t24) 10)))))))))))
  exact zm (oV (zV e GCon.f4 zkB) (oT (tL ty2 e p4 q9.2.low (oV (zV e GCon.f2 zls) (oT (tS ty4 e e p4 ({ q9.2 with hasHigh:=true }) (oV (zV e GCon.f5 zkr) (oT (tS ty2 e e p0 ({ { q9.2 with hasHigh:=true } with high:=q9.2.low }) (rb (hJ15 h (t17,t18) 10)))))))))))
 exact zm (om e (zd h fun y11 hy11 h=>oT (tC2 (zc4 hy11) hT (s1 e) k4 (fun t12 t13=>oV (zV e GCon.f1 zlB) (oT (tS ty4 e e p4 ⟨true,true,false,false,0,0⟩ (oV (zV e GCon.f4 zkB) (oT (tS ty2 e e p0 ⟨true,true,false,false,y11.1,0⟩ (zK (hJ10 h (t12,t13) 4)))))))))))


theorem zfi {a_x zW t_a_x1 t_a_x2 zT r} (h:zcn a_x=some r):Ctr Tryz.prog 112 [ptrv zW (Fld.id GParOT)] [boxE zW (GParO a_x t_a_x1 t_a_x2 zT),tokE t_a_x1,tokE t_a_x2,vecE zT a_x.m.nodes] (Pt2 (fun _ _=>[isv r.1]) fun u1 u2=>[boxE zW (GParO r.2 u1 u2 zT),tokE u1,tokE u2,vecE zT r.2.m.nodes]):=by
 unfold zcn at h
 refine zi Tryz.func112 e fun w0 S0 hT=>ws (oT (zC _ ze78 fun b4=>rn (ss (om e (zd h fun y5 hy5 h=>oT (tC2 (zQ hy5) hT (s2 e e) (a1 (a1 (a1 (a1 k0)))) (fun t6 t7=>oV (zal e) (rn (ze h e (fun _ h=>?_) (fun _ h=>wk (ws (om e (zd h fun y8 hy8 h=>oT (tC2 (zac hy8) hT (s2 e e) k4 (fun t9 t10=>rn (ws (om e (zd h fun y11 hy11 h=>oT (tC2 (zac hy11) hT (s2 e e) k4 (fun t12 t13=>rn (ws (om e (zd h fun y14 hy14 h=>oT (tC2 (zgh hy14) hT (s1 e) k4 (fun t15 t16=>oT (zC _ ze78 fun b17=>oT (tS ty78 e e p0 y14.1 (zI (z8 3 .here e) (rn ?_)))))))))))))))))))))))))))))
 ·exact ws (oV (zaa (z:=(GCon.mk false false false false (0:Int) (0:Int))) e bu78 ze78 .nil) (oT (tS ty78 e e p4 ⟨false,false,false,false,0,0⟩ (rn (zaQ (zz (zf (.cell e .here ty78 .nil) (a1 (a1 (a1 (a1 k0)))) (iS h ▸ ⟨t6,t7,e,e⟩))))))))
 exact ws (om e (zd h fun y18 hy18 h=>oT (tC2 (zac hy18) hT (s2 e e) k4 (fun t19 t20=>rn (ws (om e (zd h fun y21 hy21 h=>oT (tC2 (zac hy21) hT (s2 e e) k4 (fun t22 t23=>rn (ws (oV (za ty78 e) (oT (tS ty78 e e p4 y14.1 (rn (zaQ (zf (.cell e .here ty78 .nil) (a1 (a1 (a1 (a1 k0)))) (iS h ▸ ⟨t22,t23,e,e⟩)))))))))))))))))


theorem zkz {a_x a_n_ zW t_a_x1 t_a_x2 zT zb9 t_a_n_4 t_a_n_5 r} (h:zde a_x a_n_=some r):Ctr Tryz.prog 114 [ptrv zW (Fld.id GParOT),ptrv zb9 (Fld.id GNodeOT)] [boxE zW (GParO a_x t_a_x1 t_a_x2 zT),tokE t_a_x1,tokE t_a_x2,vecE zT a_x.m.nodes,boxE zb9 (GNodeO a_n_ t_a_n_4 t_a_n_5),tokE t_a_n_4,tokE t_a_n_5] (Pt4 (fun _ _ _ _=>[]) fun u1 u2 u3 u4=>[boxE zW (GParO r.1 u1 u2 zT),tokE u1,tokE u2,vecE zT r.1.m.nodes,boxE zb9 (GNodeO r.2 u3 u4),tokE u3,tokE u4]):=by
 unfold zde at h
 refine zi Tryz.func114 e fun w0 S0 hT=>zE (jw h (Tok × Tok × Tok × Tok) (fun q6 g6=>[]) (fun q6 g6=>[boxE zW (GParO q6.1 g6.1 g6.2.1 zT),tokE g6.1,tokE g6.2.1,vecE zT q6.1.m.nodes,boxE zb9 (GNodeO q6.2 g6.2.2.1 g6.2.2.2),tokE g6.2.2.1,tokE g6.2.2.2]) (a0 (a3 k5)) (fun q6 g6 h=>?_) fun J7 h hJ7=>zr (lP h (Tok × Tok × Tok × Tok) (t_a_x1,t_a_x2,t_a_n_4,t_a_n_5) (fun q8 g8=>[]) (fun q8 g8=>[boxE zW (GParO q8.1 g8.1 g8.2.1 zT),tokE g8.1,tokE g8.2.1,vecE zT q8.1.m.nodes,boxE zb9 (GNodeO q8.2 g8.2.2.1 g8.2.2.2),tokE g8.2.2.1,tokE g8.2.2.2]) zan k7 fun L9 q8 g8 Q82 h hL9 eL9 rL9=>ss (om e (oV (zs e) (oV (zV e zbB zcD) (oT (tL ty38 e p0 q8.1.e (oV (zD e e) (rn (ze h e (fun _ h=>?_) (fun _ h=>xn (eL9 _ _ (zw (hJ7 h (g8.1,g8.2.1,g8.2.2.1,g8.2.2.2) 5))))))))))))))
 ·refine ws (om e (oV (zs e) (oV (zV e zfN zgm) (oT (tL ty4 e p4 q6.2.more (oV (zal e) (rn (ze h e (fun _ h=>?_) (fun _ h=>zJ (zaJ .nil k7 (iS h ▸ ⟨g6.1,g6.2.1,g6.2.2.1,g6.2.2.2,e,e⟩)))))))))))
  exact zm (om e (om e (oV (zs e) (oV (zV e zgs zfS) (oT (zaz (R:=appv g6.2.2.1 q6.2.items) ty79 e p4 isvT1 (oV (zlN (l:=q6.2.items) e zG sl79) (oV (zs e) (oV (zV e zjR zg8) (oT (tS ty3 e e p4 (GNodeO {q6.2 with root:=(q6.2.items.length:Int)} g6.2.2.1 g6.2.2.2) (zK (zaJ .nil (a1 (a1 (a1 (a1 k3)))) (iS h ▸ ⟨g6.1,g6.2.1,g6.2.2.1,g6.2.2.2,e,e⟩))))))))))))))
 refine wk (zr (ss (om e (oV (zs e) (oV (zV e zgs zfS) (oT (zaz (R:=appv g8.2.2.1 q8.2.items) ty79 e p4 isvT1 (oV (zlN (l:=q8.2.items) e zG sl79) (oV (zbc e e) (om e (jO 6 22 h (fun q46 h=>?_) fun J47 h hJ47=>oI h (fun g48 h=>?_) fun g48 h=>oN g48 (oN g48 (oN g48 (oN g48 (oN g48 (oV (zg e g48 e) (hJ47 h 6)))))))))))))))))
 ·refine om e (jo 3 h (Tok × Tok) (fun q49 g49=>[(26,isv q49.1)]) (fun q49 g49=>[boxE zW (GParO q49.2 g49.1 g49.2 zT),tokE g49.1,tokE g49.2,vecE zT q49.2.m.nodes]) k4 (fun q49 g49 h=>?_) fun J50 h hJ50=>oI h (fun g51 h=>?_) fun g51 h=>oN g51 (oN g51 (oV (zg e g51 e) (hJ50 h (g8.1,g8.2.1) 3))))
  ·refine rn (jw h (Tok × Tok × Tok × Tok) (fun q55 g55=>[]) (fun q55 g55=>[boxE zW (GParO q55.1 g55.1 g55.2.1 zT),tokE g55.1,tokE g55.2.1,vecE zT q55.1.m.nodes,boxE zb9 (GNodeO q55.2 g55.2.2.1 g55.2.2.2),tokE g55.2.2.1,tokE g55.2.2.2]) (a0 (a3 k5)) (fun q55 g55 h=>?_) fun J56 h hJ56=>ze h e (fun _ h=>?_) (fun _ h=>ws (om e (zd h fun y57 hy57 h=>oT (tC2 (zcT hy57) hT (s2 e e) k4 (fun t58 t59=>oV (zaa (z:=(GItem.mk y57.1 (0:Int) false)) e bu124 ze124 (.cons GItem.f0 zmk e hI .nil)) (oT (zC _ ze124 fun b60=>oT (tS ty124 e e p0 ⟨y57.1,0,false⟩ (rn (ss (om e (zd h fun y61 hy61 h=>oT (tC2 (zQ hy61) hT (s2 e e) (a1 (a1 (a1 (a1 k0)))) (fun t62 t63=>rn (jw h (Tok × Tok) (fun q64 g64=>[]) (fun q64 g64=>[boxE zW (GParO q64.1 g64.1 g64.2 zT),tokE g64.1,tokE g64.2,vecE zT q64.1.m.nodes,boxE b60 (q64.2:GItem)]) (a0 (a3 k3)) (fun q64 g64 h=>?_) fun J65 h hJ65=>ze h e (fun _ h=>?_) (fun _ h=>zJ (hJ65 h (t62,t63) 0))))))))))))))))))
   ·refine ws (om e (zd h fun y79 hy79 h=>oT (tC2 (zQ hy79) hT (s2 e e) k4 (fun t80 t81=>oV (zal e) (rn (ze h e (fun _ h=>?_) (fun _ h=>zJ (zx (hL9 h (t80,t81,g55.2.2.1,g55.2.2.2) 18)))))))))
    exact zmC (zji e (eL9 _ _ (zw (hJ7 h (t80,t81,g55.2.2.1,g55.2.2.2) 18))))
   ·exact zm (om e (om e (om e (oV (zs e) (oV (zV e zgs zfS) (oT (zaz (R:=appv g8.2.2.1 q8.2.items) ty79 e p4 isvT1 (oV (zlN (l:=q8.2.items) e zG sl79) (oV (zs e) (oV (zV e zfN zgm) (oT (tS ty4 e e p4 (GNodeO {q8.2 with more:=true} g8.2.2.1 g8.2.2.2) (oV (zs e) (oV (zV e zjR zg8) (oT (tS ty3 e e p0 (GNodeO {q8.2 with root:=(q8.2.items.length:Int),more:=true} g8.2.2.1 g8.2.2.2) (zK (hJ56 h (g49.1,g49.2,g8.2.2.1,g8.2.2.2) 11))))))))))))))))))
   ·refine zdH 4 (.there (.there (.there (.there .here)))) e (fun o72 hn73=>zH (.v 0 (.v 1 (.v 2 (.v 3 (.v 5 (.alt 4 (.t 6 (.t 7 (.v 8 (.v 9 (.t 10 .nil))))) (.t 6 (.t 4 (.t 7 (.v 8 (.v 9 (.t 10 .nil)))))))))))) moOrd (by kernel_rfl) (rm e e (rm e e (zj e (zs e) (zj e (zV e zgs zfS) (zj e (vP ty124 e m0 q64.2) (zag h fun q76 h=>zdu ?_ (rT e (zN (l:=([q64.2]:(List GItem))) el79 (.cons e hI .nil) e e (rT e (zaz (R:=appv g8.2.2.1 q8.2.items) ty79 e p4 isvT1 (rT e (za7 (l:=q8.2.items) (m:=([q64.2]:(List GItem))) zmd e hI e zG (.there (.there (.there (.there (.there .here))))) q76 fun t78=>zj e (zs e) (zj e (zV e zgs zfS) (rT e (tR ty79 e e isvT2 (.there p4) (GNodeO {q8.2 with items:=(q8.2.items ++ ([q64.2]:(List GItem)))} t78 g8.2.2.2) e (z6 (zaZ 4 hn73 e (hJ56 h (g64.1,g64.2,t78,g8.2.2.2) 18)))))))))))))))))))
    exact rT e (zaz (R:=appv g8.2.2.1 q8.2.items) ty79 e p4 isvT1 (rT e (zN (l:=([q64.2]:(List GItem))) el79 (.cons e hI .nil) e e (rT e (za7 (l:=q8.2.items) (m:=([q64.2]:(List GItem))) zmd e hI e zG (.there (.there (.there (.there (.there .here))))) q76 fun t75=>zj e (zs e) (zj e (zV e zgs zfS) (rT e (tR ty79 e e isvT2 (.there p4) (GNodeO {q8.2 with items:=(q8.2.items ++ ([q64.2]:(List GItem)))} t75 g8.2.2.2) e (z6 (zaZ 4 hn73 e (hJ56 h (g64.1,g64.2,t75,g8.2.2.2) 18)))))))))))
   exact ws (om e (zd h fun y66 hy66 h=>oT (tC2 (zc4 hy66) hT (s1 e) k4 (fun t67 t68=>oV (zV e GItem.f2 zjF) (oT (tS ty4 e e p4 ⟨y57.1,0,true⟩ (oV (zV e GItem.f1 zc3) (oT (tS ty2 e e p0 ⟨y57.1,y66.1,true⟩ (rn (zm (om e (zd h fun y69 hy69 h=>oT (tC2 (zac hy69) hT (s2 e e) (a1 (a1 (a1 (a1 k0)))) (fun t70 t71=>zK (hJ65 h (t70,t71) 6))))))))))))))))
  exact oG g51 (zo e) (zd h fun y52 hy52 h=>oH g51 (tC2 (zQ hy52) hT (s2 e e) k4 (fun t53 t54=>oV (zh e g51 e) (hJ50 h (t53,t54) 3))))
 exact oG g48 (zo e) (oG g48 (zs e) (oG g48 (zV e zfN zgm) (oH g48 (tL ty4 e p4 q8.2.more (oG g48 (zal e) (oV (zh e g48 e) (hJ47 h 6)))))))


theorem zq1 {a_s r} (h:zlf a_s=some r):Ctr Tryz.prog 157 [isv a_s] [] (Pt [isv r] []):=by
 unfold zlf at h
 refine zi Tryz.func157 e fun w0 S0 hT=>ws (an e (ws (an e (ss (an e (zr (zhO (zau) (lP h Tok none (fun q1 g1=>[(3,appv g1 q1.1),(4,isv q1.2)]) (fun q1 g1=>[tokE g1]) (zB (j:=3) e zbI (zB (j:=4) e hI zan)) k1 fun L2 q1 g1 Q60 h hL2 eL2 rL2=>ss (om e (zy h fun q31 h=>oV (zX e e q31) (om e (oV (zeN st9 e) (oV (z7 e e) (rn (ze h e (fun _ h=>?_) (fun _ h=>xn (eL2 _ _ (zw (zq (ws (om e (ar e (zf (.as e zG .nil) k0 (iS h ▸ ⟨e,e⟩))))))))))))))))))))))))
 refine wk (zE (zr (ws (an e (ss (om e (an e (zr (lP h Unit () (fun q32 g32=>[(5,isv q32.1),(6,isv q32.2)]) (fun q32 g32=>[]) (zB (j:=5) e hI (zB (j:=6) e hI zan)) k0 fun L33 q32 g32 Q58 h hL33 eL33 rL33=>ss (om e (om e (zy h fun q46 h=>oV (zX e e q46) (oV (z7 e e) (rn (ze h e (fun _ h=>?_) (fun _ h=>xn (eL33 _ _ (zw (zq (zm (om e (om e (oT (zN (l:=([q32.1]:(List UInt8))) el22 (.cons e hI .nil) e e (zag h fun q56 h=>oT (za7 (l:=q1.1) (m:=([q32.1]:(List UInt8))) zkR e hI e zG .here q56 fun t55=>oa e (rb ?_)))))))))))))))))))))))))))
 ·refine wk (zE (zr (ws (om e (om e (zd h fun y47 hy47 h=>oV (zb4 y47 st9 e e hy47) (oV (zoe e e) (an e (ss (om e (om e (zd h fun y48 hy48 h=>oV (zb4 y48 st9 e e hy48) (oV (zmo e e) (rn (jW 7 h (fun q49 h=>?_) fun J50 h hJ50=>ze h e (fun _ h=>?_) (fun _ h=>zJ (hJ50 h 0)))))))))))))))))
  ·exact zm (om e (zag h fun q52 h=>oV (zuN e e q52) (om e (oV (zu6 e e) (oa e (rb (zq (zm (om e (zy h fun q53 h=>oV (zX e e q53) (oa e (zK (hL33 h () 24)))))))))))))
  exact zm (om e (om e (zd h fun y51 hy51 h=>oV (zb4 y51 st9 e e hy51) (oV (zoe e e) (oV (zuH e e) (oa e (zK (hJ50 h 6))))))))
 exact zq (zm (om e (zy h fun q57 h=>oV (zX e e q57) (oa e (zK (hL2 h t55 24))))))


theorem zkq {a_x zW t_a_x1 t_a_x2 zT r} (h:zc9 a_x=some r):Ctr Tryz.prog 150 [ptrv zW (Fld.id GParOT)] [boxE zW (GParO a_x t_a_x1 t_a_x2 zT),tokE t_a_x1,tokE t_a_x2,vecE zT a_x.m.nodes] (Pt2 (fun _ _=>[isv r.1]) fun u1 u2=>[boxE zW (GParO r.2 u1 u2 zT),tokE u1,tokE u2,vecE zT r.2.m.nodes]):=by
 unfold zc9 at h
 refine zi Tryz.func150 e fun w0 S0 hT=>ws (oT (zC _ ze26 fun b4=>rn (ws (om e (zd h fun y5 hy5 h=>oT (tC2 (zaU hy5) hT (s1 e) (a1 (a1 (a1 (a1 k0)))) (fun t6 t7=>oT (zC _ ze109 fun b8=>oT (tS ty109 e e p0 y5.1 (zI (z8 3 .here e) (rn (zE (jw h (Tok × Tok) (fun q9 g9=>[]) (fun q9 g9=>[boxE zW (GParO q9 g9.1 g9.2 zT),tokE g9.1,tokE g9.2,vecE zT q9.m.nodes]) k4 (fun q9 g9 h=>?_) fun J10 h hJ10=>zr (ws (om e (oV (zs e) (oV (zV e zbB zcD) (oT (tL ty38 e p0 y5.2.e (oV (zaC e e) (an e (ze h e (fun _ h=>?_) (fun _ h=>ws (om e (zd h fun y11 hy11 h=>oT (tC2 (zQ hy11) hT (s2 e e) k4 (fun t12 t13=>an e (ze h e (fun _ h=>?_) (fun _ h=>ws ?_)))))))))))))))))))))))))))))
 ·exact ws (oV (zaa (z:=(Val.mk (0:Int) (0:Int) ([]:(List UInt8)) ([]:(List Val)) (0:Int) ([]:(List Raw)))) e bu26 ze26 .nil) (oT (tS ty26 e e p4 ⟨0,0,[],[],0,[]⟩ (rn (zaQ (zf (.cell e .here ty26 .nil) (a1 (a1 (a1 (a1 k0)))) (iS h ▸ ⟨g9.1,g9.2,e,e⟩)))))))
 ·exact zJ (zx (hJ10 h (t6,t7) 6))
 ·exact ws (oV (zaa (z:=(Val.mk (1:Int) (1:Int) ([]:(List UInt8)) ([]:(List Val)) (0:Int) ([]:(List Raw)))) e bu26 ze26 (.cons Val.f0 zbu e hI (.cons Val.f1 zaT e hI .nil))) (oT (tS ty26 e e p4 ⟨1,1,[],[],0,[]⟩ (rn (zaQ (bn (zf (.cell e .here ty26 .nil) (a1 (a1 (a1 (a1 k0)))) (iS h ▸ ⟨t12,t13,e,e⟩))))))))
 refine om e (zd h fun y14 hy14 h=>oT (tC2 (zQ hy14) hT (s2 e e) k4 (fun t15 t16=>an e (ze h e (fun _ h=>?_) (fun _ h=>ws (om e (zd h fun y17 hy17 h=>oT (tC2 (zQ hy17) hT (s2 e e) k4 (fun t18 t19=>an e (ze h e (fun _ h=>?_) (fun _ h=>ws (oV (vI e GTok.f0 zcs y5.1.kind) (oV (za ty3 e) (oV (zD e e) (an e (ze h e (fun _ h=>?_) (fun _ h=>ws (oV (vI e GTok.f0 zcs y5.1.kind) (oV (za ty3 e) (oV (zD e e) (an e (ze h e (fun _ h=>?_) (fun _ h=>ws (oV (vI e GTok.f0 zcs y5.1.kind) (oV (za ty3 e) (oV (zD e e) (an e (ze h e (fun _ h=>?_) (fun _ h=>ws ?_)))))))))))))))))))))))))))))
 ·exact ws (oV (zaa (z:=(Val.mk (1:Int) (0:Int) ([]:(List UInt8)) ([]:(List Val)) (0:Int) ([]:(List Raw)))) e bu26 ze26 (.cons Val.f0 zbu e hI .nil)) (oT (tS ty26 e e p4 ⟨1,0,[],[],0,[]⟩ (rn (zaQ (bn (zf (.cell e .here ty26 .nil) (a1 (a1 (a1 (a1 k0)))) (iS h ▸ ⟨t15,t16,e,e⟩))))))))
 ·exact ws (oV (zaa (z:=(Val.mk (4:Int) (0:Int) ([]:(List UInt8)) ([]:(List Val)) (0:Int) ([]:(List Raw)))) e bu26 ze26 (.cons Val.f0 zbu e hI .nil)) (oT (tS ty26 e e p4 ⟨4,0,[],[],0,[]⟩ (rn (zaQ (bn (zf (.cell e .here ty26 .nil) (a1 (a1 (a1 (a1 k0)))) (iS h ▸ ⟨t18,t19,e,e⟩))))))))
 ·exact ws (om e (zd h fun y20 hy20 h=>oT (tC2 (zbS hy20) hT (s1 e) k4 (fun t21 t22=>oV (zjy GTok.f1 e zdN e) (zd h fun y23 hy23 h=>oT (tC (zl3 hy23) hT (s1 e) k0 (oV (zaa (z:=(Val.mk (2:Int) y23 ([]:(List UInt8)) ([]:(List Val)) (0:Int) ([]:(List Raw)))) e bu26 ze26 (.cons Val.f0 zbu e hI (.cons Val.f1 zaT e hI .nil))) (oT (tS ty26 e e p4 ⟨2,y23,[],[],0,[]⟩ (rn (zaQ (bn (zf (.cell e .here ty26 .nil) (a1 (a1 (a1 (a1 k0)))) (iS h ▸ ⟨t21,t22,e,e⟩))))))))))))))
 ·exact ws (om e (zd h fun y24 hy24 h=>oT (tC2 (zbS hy24) hT (s1 e) k4 (fun t25 t26=>oV (zjy GTok.f1 e zdN e) (zag h fun q27 h=>oT (zu1 Tryz.underlying9 Tryz.underlying22 Tryz.underlying5 e q27 (oV (zaa (z:=(Val.mk (3:Int) (0:Int) y24.1.text.b ([]:(List Val)) (0:Int) ([]:(List Raw)))) e bu26 ze26 (.cons Val.f0 zbu e hI (.cons Val.f2 zbs e hI .nil))) (oT (tS ty26 e e p4 ⟨3,0,y24.1.text.b,[],0,[]⟩ (rn (zaQ (bn (zf (.cell e .here ty26 .nil) (a1 (a1 (a1 (a1 k0)))) (iS h ▸ ⟨t25,t26,e,e⟩))))))))))))))
 ·exact ws (om e (zd h fun y28 hy28 h=>oT (tC2 (zbS hy28) hT (s1 e) k4 (fun t29 t30=>oV (zjy GTok.f1 e zdN e) (zd h fun y31 hy31 h=>oT (tC (zq1 hy31) hT (s1 e) k0 (oV (zaa (z:=(Val.mk (5:Int) (0:Int) y31 ([]:(List Val)) (0:Int) ([]:(List Raw)))) e bu26 ze26 (.cons Val.f0 zbu e hI (.cons Val.f2 zbs e hI .nil))) (oT (tS ty26 e e p4 ⟨5,0,y31,[],0,[]⟩ (rn (zaQ (bn (zf (.cell e .here ty26 .nil) (a1 (a1 (a1 (a1 k0)))) (iS h ▸ ⟨t29,t30,e,e⟩))))))))))))))
 refine oV (vI e GTok.f0 zcs y5.1.kind) (oV (za ty3 e) (oV (zD e e) (an e (ze h e (fun _ h=>?_) (fun _ h=>zm (om e (oV (za ty109 e) (zd h fun y36 hy36 h=>oT (tC2 (zbg hy36) hT (s3 e e e) k4 (fun t37 t38=>rb (hJ10 h (t37,t38) 34)))))))))))
 exact ws (om e (zd h fun y32 hy32 h=>oT (tC2 (zbS hy32) hT (s1 e) k4 (fun t33 t34=>oV (zjy GTok.f1 e zdN e) (zag h fun q35 h=>oT (zu1 Tryz.underlying9 Tryz.underlying22 Tryz.underlying5 e q35 (oV (zaa (z:=(Val.mk (6:Int) (0:Int) y32.1.text.b ([]:(List Val)) (0:Int) ([]:(List Raw)))) e bu26 ze26 (.cons Val.f0 zbu e hI (.cons Val.f2 zbs e hI .nil))) (oT (tS ty26 e e p4 ⟨6,0,y32.1.text.b,[],0,[]⟩ (rn (zaQ (bn (zf (.cell e .here ty26 .nil) (a1 (a1 (a1 (a1 k0)))) (iS h ▸ ⟨t33,t34,e,e⟩))))))))))))))

end Go.Proofs.Q


namespace Go.Proofs.Q
open Go.Sy
set_option maxRecDepth 4000
def zb3 (f':GPar→GNode→Int→Int→Option (GPar × GNode)):Prop :=
 ∀ {a_x a_n_ zL zdI zW t_a_x1 t_a_x2 zT zb9 t_a_n_4 t_a_n_5 r},f' a_x a_n_ zL zdI=some r→Ctr Tryz.prog 137 [ptrv zW (Fld.id GParOT),ptrv zb9 (Fld.id GNodeOT),isv zL,isv zdI] [boxE zW (GParO a_x t_a_x1 t_a_x2 zT),tokE t_a_x1,tokE t_a_x2,vecE zT a_x.m.nodes,boxE zb9 (GNodeO a_n_ t_a_n_4 t_a_n_5),tokE t_a_n_4,tokE t_a_n_5] (Pt5 (fun _ _ _ _ _=>[]) fun u1 u2 u3 u4 u5=>[boxE zW (GParO r.1 u1 u2 u3),tokE u1,tokE u2,vecE u3 r.1.m.nodes,boxE zb9 (GNodeO r.2 u4 u5),tokE u4,tokE u5])
def zb2 (f':GPar→Int→Option (Int × GPar)):Prop :=
 ∀ {a_x zL zW t_a_x1 t_a_x2 zT r},f' a_x zL=some r→Ctr Tryz.prog 51 [ptrv zW (Fld.id GParOT),isv zL] [boxE zW (GParO a_x t_a_x1 t_a_x2 zT),tokE t_a_x1,tokE t_a_x2,vecE zT a_x.m.nodes] (Pt3 (fun _ _ _=>[isv r.1]) fun u1 u2 u3=>[boxE zW (GParO r.2 u1 u2 u3),tokE u1,tokE u2,vecE u3 r.2.m.nodes])
def zci (f':GPar→GNode→Int→Option (GPar × GNode)):Prop :=
 ∀ {a_x a_n_ zL zW t_a_x1 t_a_x2 zT zb9 t_a_n_4 t_a_n_5 r},f' a_x a_n_ zL=some r→Ctr Tryz.prog 76 [ptrv zW (Fld.id GParOT),ptrv zb9 (Fld.id GNodeOT),isv zL] [boxE zW (GParO a_x t_a_x1 t_a_x2 zT),tokE t_a_x1,tokE t_a_x2,vecE zT a_x.m.nodes,boxE zb9 (GNodeO a_n_ t_a_n_4 t_a_n_5),tokE t_a_n_4,tokE t_a_n_5] (Pt5 (fun _ _ _ _ _=>[]) fun u1 u2 u3 u4 u5=>[boxE zW (GParO r.1 u1 u2 u3),tokE u1,tokE u2,vecE u3 r.1.m.nodes,boxE zb9 (GNodeO r.2 u4 u5),tokE u4,tokE u5])
def zbU (f':GPar→GNode→Int→Option (GPar × GNode)):Prop :=
 ∀ {a_x a_n_ zL zW t_a_x1 t_a_x2 zT zb9 t_a_n_4 t_a_n_5 r},f' a_x a_n_ zL=some r→Ctr Tryz.prog 115 [ptrv zW (Fld.id GParOT),ptrv zb9 (Fld.id GNodeOT),isv zL] [boxE zW (GParO a_x t_a_x1 t_a_x2 zT),tokE t_a_x1,tokE t_a_x2,vecE zT a_x.m.nodes,boxE zb9 (GNodeO a_n_ t_a_n_4 t_a_n_5),tokE t_a_n_4,tokE t_a_n_5] (Pt5 (fun _ _ _ _ _=>[]) fun u1 u2 u3 u4 u5=>[boxE zW (GParO r.1 u1 u2 u3),tokE u1,tokE u2,vecE u3 r.1.m.nodes,boxE zb9 (GNodeO r.2 u4 u5),tokE u4,tokE u5])
theorem zjU {zar zaB zay zak} (zcw:zb3 zar) (zc8:zb2 zaB) (zdM:zci zay) (zbV:zbU zak):zb3 (zcB zar zaB zay zak):=by
 intro a_x a_n_ zL zdI zW t_a_x1 t_a_x2 zT zb9 t_a_n_4 t_a_n_5 r h
 unfold zcB at h
 refine zi Tryz.func137 e fun w0 S0 hT=>ws (om e (zd h fun y6 hy6 h=>oT (tC2 (zcT hy6) hT (s2 e e) k4 (fun t7 t8=>om e (oV (zaa (z:=(GFld.mk y6.1 (0:Int) false false (Val.mk (0:Int) (0:Int) ([]:(List UInt8)) ([]:(List Val)) (0:Int) ([]:(List Raw))) zdI)) e bu88 ze88 (.cons GFld.f0 zms e hI (.cons GFld.f5 zgf e hI .nil))) (oT (zC _ ze88 fun b9=>oT (tS ty88 e e p0 ⟨y6.1,0,false,false,⟨0,0,[],[],0,[]⟩,zdI⟩ (rn (ws (om e (om e (zy h fun q10 h=>oV (zX e e q10) (zd h fun y11 hy11 h=>oT (tC3 (zc8 hy11) hT (s2 e e) (a1 (a1 (a1 (a1 k0)))) (fun t12 t13 v14=>oV (zV e GFld.f1 zcf) (oT (tS ty3 e e p4 ⟨y6.1,y11.1,false,false,⟨0,0,[],[],0,[]⟩,zdI⟩ (rn (zE (jw h (Tok × Tok) (fun q15 g15=>[]) (fun q15 g15=>[boxE b9 (q15.1:GFld),boxE zW (GParO q15.2 g15.1 g15.2 v14),tokE g15.1,tokE g15.2,vecE v14 q15.2.m.nodes]) k5 (fun q15 g15 h=>?_) fun J16 h hJ16=>zr (ws (om e (oV (zs e) (oV (zV e zcL zbY) (oT (tL ty3 e (.there p4) a_n_.kind (oV (zD e e) (an e ?_)))))))))))))))))))))))))))))
 ·refine zdH 8 .here e (fun o26 hn27=>zH (.v 0 (.v 1 (.v 2 (.v 3 (.v 5 (.alt 4 (.t 6 (.t 7 (.v 8 (.v 9 (.t 10 .nil))))) (.t 6 (.t 4 (.t 7 (.v 8 (.v 9 (.t 10 .nil)))))))))))) moOrd (by kernel_rfl) (rm e e (rm e e (zj e (zs e) (zj e (zV e zhN zeb) (zj e (vP ty88 e m0 q15.1) (zag h fun q30 h=>zdu ?_ (rT e (zN (l:=([q15.1]:(List GFld))) el80 (.cons e hI .nil) e e (rT e (zaz (R:=appv t_a_n_5 a_n_.fields) ty80 e p4 isvT1 (rT e (za7 (l:=a_n_.fields) (m:=([q15.1]:(List GFld))) zop e hI e zG (.there (.there (.there (.there (.there (.there .here)))))) q30 fun t32=>zj e (zs e) (zj e (zV e zhN zeb) (rT e (tR ty80 e e isvT2 (.there p4) (GNodeO {a_n_ with fields:=(a_n_.fields ++ ([q15.1]:(List GFld)))} t_a_n_4 t32) e (z6 (zaZ 8 hn27 e (zaJ .nil (a3 (a3 (a3 (a3 (a1 (a2 (a1 k0))))))) (iS h ▸ ⟨g15.1,g15.2,v14,t_a_n_4,t32,e,e⟩))))))))))))))))))))
  exact rT e (zaz (R:=appv t_a_n_5 a_n_.fields) ty80 e p4 isvT1 (rT e (zN (l:=([q15.1]:(List GFld))) el80 (.cons e hI .nil) e e (rT e (za7 (l:=a_n_.fields) (m:=([q15.1]:(List GFld))) zop e hI e zG (.there (.there (.there (.there (.there (.there .here)))))) q30 fun t29=>zj e (zs e) (zj e (zV e zhN zeb) (rT e (tR ty80 e e isvT2 (.there p4) (GNodeO {a_n_ with fields:=(a_n_.fields ++ ([q15.1]:(List GFld)))} t_a_n_4 t29) e (z6 (zaZ 8 hn27 e (zaJ .nil (a3 (a3 (a3 (a3 (a1 (a2 (a1 k0))))))) (iS h ▸ ⟨g15.1,g15.2,v14,t_a_n_4,t29,e,e⟩))))))))))))
 refine ze h e (fun _ h=>?_) (fun _ h=>ws (om e (zd h fun y17 hy17 h=>oT (tC2 (zQ hy17) hT (s2 e e) (a1 (a1 (a1 (a1 k0)))) (fun t18 t19=>an e (ze h e (fun _ h=>?_) (fun _ h=>ws (om e (zd h fun y20 hy20 h=>oT (tC2 (zQ hy20) hT (s2 e e) k4 (fun t21 t22=>an e (ze h e (fun _ h=>?_) (fun _ h=>zJ (zx (hJ16 h (t21,t22) 12)))))))))))))))
 ·exact zJ (zx (hJ16 h (t12,t13) 6))
 ·exact zm (oV (zV e GFld.f2 zjf) (oT (tS ty4 e e p4 ⟨y6.1,y11.1,true,false,⟨0,0,[],[],0,[]⟩,zdI⟩ (rb (hJ16 h (t18,t19) 10)))))
 exact zm (om e (zd h fun y23 hy23 h=>oT (tC2 (zkq hy23) hT (s1 e) k4 (fun t24 t25=>oV (zV e GFld.f3 zgF) (oT (tS ty4 e e p4 ⟨y6.1,y11.1,false,true,⟨0,0,[],[],0,[]⟩,zdI⟩ (oV (zV e GFld.f4 zki) (oT (tS ty26 e e p0 ⟨y6.1,y11.1,false,true,y23.1,zdI⟩ (rb (hJ16 h (t24,t25) 16)))))))))))

theorem zk8 {zar zaB zay zak} (zcw:zb3 zar) (zc8:zb2 zaB) (zdM:zci zay) (zbV:zbU zak):zb2 (zdg zar zaB zay zak):=by
 intro a_x zL zW t_a_x1 t_a_x2 zT r h
 unfold zdg at h
 refine zi Tryz.func51 e fun w0 S0 hT=>ws (an e (ss (om e (oV (zs e) (oV (zV e zbB zcD) (oT (tL ty38 e p0 a_x.e (oV (zaC e e) (rn (ze h e (fun _ h=>?_) (fun _ h=>wk (ss (om e (zd h fun y4 hy4 h=>oT (tC2 (zaU hy4) hT (s1 e) k4 (fun t5 t6=>zd h fun y7 hy7 h=>oT (tC (zox hy7) hT (s1 e) k0 (oV (zal e) (rn (ze h e (fun _ h=>?_) (fun _ h=>wk (ss (om e (oV (zbc e e) (om e (jO 8 32 h (fun q14 h=>?_) fun J15 h hJ15=>oI h (fun g16 h=>?_) fun g16 h=>oG g16 (zo e) (oG g16 (zs e) ?_)))))))))))))))))))))))))))
 ·exact ws (ar e (zz (zf (r1 e) k4 (iS h ▸ ⟨t_a_x1,t_a_x2,zT,e,e⟩))))
 ·exact ws (om e (om e (zd h fun y8 hy8 h=>oT (tC2 (zaU hy8) hT (s1 e) k4 (fun t9 t10=>zd h fun y11 hy11 h=>oT (tC2 (zbg hy11) hT (s3 e e e) k4 (fun t12 t13=>rn (ws (ar e (zz (zf (r1 e) k4 (iS h ▸ ⟨t12,t13,zT,e,e⟩))))))))))))
 ·refine rn (ze h e (fun _ h=>?_) (fun _ h=>wk (ws (om e (oV (zs e) (oV (zV e zcj zdO) (oV (zV e ziP zia) (oT (zaz (R:=vecv zT (y4.2.m.nodes.length)) ty68 e p0 isvV1 (oV (zjm sl68 e) (an e (ws (om e (om e (oV (zs e) (oV (zV e zcj zdO) (oV (zV e ziP zia) (oT (zaz (R:=vecv zT (y4.2.m.nodes.length)) ty68 e p0 isvV1 (oV (zaa (z:=(GNode.mk (0:Int) (Str.mk []) (GMark.mk false (0:Int) (0:Int)) (GCon.mk false false false false (0:Int) (0:Int)) ([]:(List GItem)) ([]:(List GFld)) (0:Int) false (0:Int))) e bu146 ze146 .nil) (oT (zN (l:=([(GNode.mk (0:Int) (Str.mk []) (GMark.mk false (0:Int) (0:Int)) (GCon.mk false false false false (0:Int) (0:Int)) ([]:(List GItem)) ([]:(List GFld)) (0:Int) false (0:Int))]:(List GNode))) el68 (.cons e hI .nil) e e (zag h fun q25 h=>oT (zjA (m:=([(GNode.mk (0:Int) (Str.mk []) (GMark.mk false (0:Int) (0:Int)) (GCon.mk false false false false (0:Int) (0:Int)) ([]:(List GItem)) ([]:(List GFld)) (0:Int) false (0:Int))]:(List GNode))) ztC e e zG (.there (.there (.there .here))) (by first | rfl | simp) q25 fun v24=>oV (zs e) (oV (zV e zcj zdO) (oV (zV e ziP zia) (oT (tR ty68 e e isvV2 p1 (GParO {y4.2 with m:={y4.2.m with nodes:=(y4.2.m.nodes ++ ([⟨0,⟨[]⟩,⟨false,0,0⟩,⟨false,false,false,false,0,0⟩,[],[],0,false,0⟩]:(List GNode)))}} t5 t6 v24) e (rn (ws (oV (zaa (z:=(((0:Int),(Str.mk []),(GMark.mk false (0:Int) (0:Int)),(GCon.mk false false false false (0:Int) (0:Int)),(TList.mk none ([]:(List GItem))),(TList.mk none ([]:(List GFld))),(0:Int),false,(0:Int)):GNodeOT)) e bu146 zqE .nil) (oT (zC _ zqE fun b26=>?_)))))))))))))))))))))))))))))))))
  ·exact ws (om e (om e (zd h fun y17 hy17 h=>oT (tC2 (zaU hy17) hT (s1 e) k4 (fun t18 t19=>zd h fun y20 hy20 h=>oT (tC2 (zbg hy20) hT (s3 e e e) k4 (fun t21 t22=>rn (ws (ar e (zz (zf (r1 e) k4 (iS h ▸ ⟨t21,t22,zT,e,e⟩))))))))))))
  refine zI (zau) (zI (zau) (zI (zau) (zI (zau) (oT (tS ty146 e e p4 (0,⟨[]⟩,⟨false,0,0⟩,⟨false,false,false,false,0,0⟩,⟨none,[]⟩,⟨none,[]⟩,0,false,0) (rn (ss (om e (zd h fun y31 hy31 h=>oT (tC2 (zQ hy31) hT (s2 e e) (.cons (.there p4) (.cons (.there (.there p4)) (.cons (.there (.there p4)) (.cons (.there p4) k0)))) (fun t32 t33=>rn (jw h (Tok × Tok × Tok × Tok) (fun q34 g34=>[]) (fun q34 g34=>[boxE zW (GParO q34.1 g34.1 g34.2.1 v24),tokE g34.1,tokE g34.2.1,vecE v24 q34.1.m.nodes,boxE b26 (GNodeO q34.2 g34.2.2.1 g34.2.2.2),tokE g34.2.2.1,tokE g34.2.2.2]) (a0 (a3 k5)) (fun q34 g34 h=>?_) fun J35 h hJ35=>ze h e (fun _ h=>?_) (fun _ h=>zJ (hJ35 h (t32,t33,none,none) 0))))))))))))))
  ·refine ws (om e (om e (zd h fun y63 hy63 h=>oT (tC5 (zdM hy63) hT (s3 e e e) k7 (fun t64 t65 v66 t67 t68=>rn (ss (om e (oV (zs e) (oV (zV e zbB zcD) (oT (tL ty38 e p0 y63.1.e (oV (zaC e e) (rn (ze h e (fun _ h=>?_) (fun _ h=>wk (zE (zdH 6 (.there (.there (.there (.there .here)))) e (fun o69 hn70=>zdH 0 .here e (fun o71 hn72=>zH (.v 0 (.v 1 (.v 2 (.v 3 (.v 4 (.v 5 (.v 6 (.v 7 (.t 8 .nil))))))))) moOrd (by kernel_rfl) (rm e e (zj e (zbA e) (zj e (zhl e zcj zdO) (zj e (zhl e ziP zia) (zj e (zqx (R:=vecv v66 (y63.1.m.nodes.length)) ty68 e m0 isvV1) (rm e e (zj e (vP ty146 e m1 (GNodeO y63.2 t67 t68)) (zbG (zaA (R':=isv y63.2) 105 e (Cv.isv e fun S=>(fun cs h=>GNode.cv (x:=y63.2) cs (((Cv.pair Cv.id (Cv.pair Cv.id (Cv.pair Cv.id (Cv.pair Cv.id (Cv.pair Cv.tl (Cv.pair Cv.tl (Cv.pair Cv.id (Cv.pair Cv.id Cv.id)))))))):Cv S (GNodeO y63.2 t67 t68) (GNode.to y63.2)) cs h)))) (zad h fun q73 h=>zj e (zco (α:=GNode) sl68 e e q73.1 q73.2) (zd h fun y74 hy74 h=>?_)))))))))))))))))))))))))))))
   ·exact ws (ar e (zz (zf (r1 e) k4 (iS h ▸ ⟨t64,t65,v66,e,e⟩))))
   exact rT e (zfc ty146 e e (.there (.there .here)) hy74 (z6 (zaZ 0 hn72 e (ztI (zjG (y:=(GParO {y63.1 with m:={y63.1.m with nodes:=(y63.1.m.nodes.set (((y4.2.m.nodes.length:Nat):Int).toNat) y63.2)}} t64 t65 v66)) .here (fun S=>(Cv.pair Cv.id (Cv.pair Cv.id (Cv.pair (Cv.pair Cv.id (Cv.pair Cv.id (Cv.pair Cv.id (Cv.pair Cv.id (Cv.vhe (by first | rfl | simp)))))) (Cv.pair Cv.id Cv.id)))))) (zaZ 6 hn70 e (zq (ws (om e (ar e (zf (r1 e) (a1 (a2 (a2 (a1 k0)))) (iS h ▸ ⟨t64,t65,v66,e,e⟩)))))))))))
  refine ws (om e (zd h fun y36 hy36 h=>oT (tC2 (zaU hy36) hT (s1 e) k4 (fun t37 t38=>oT (zC _ ze109 fun b39=>oT (tS ty109 e e p0 y36.1 (zI (z8 7 .here e) (rn (ws (om e (zd h fun y40 hy40 h=>oT (tC2 (zc4 hy40) hT (s1 e) k4 (fun t41 t42=>an e (ss (om e (oV (zs e) (oV (zV e zbB zcD) (oT (tL ty38 e p0 y40.2.e (oV (zD e e) (om e (jO 7 74 h (fun q43 h=>?_) fun J44 h hJ44=>oI h (fun g45 h=>?_) fun g45 h=>oN g45 (oN g45 (oN g45 (oU (oU (oN g45 (oV (zg e g45 e) (hJ44 h 7)))))))))))))))))))))))))))))
  ·refine rn (jw h (Tok × Tok) (fun q49 g49=>[]) (fun q49 g49=>[boxE zW (GParO q49 g49.1 g49.2 v24),tokE g49.1,tokE g49.2,vecE v24 q49.m.nodes]) k4 (fun q49 g49 h=>?_) fun J50 h hJ50=>ze h e (fun _ h=>?_) (fun _ h=>zJ (hJ50 h (t41,t42) 0)))
   ·refine ws (om e (zd h fun y54 hy54 h=>oT (tC2 (zac hy54) hT (s2 e e) k4 (fun t55 t56=>rn (ws (om e (oV (zaa (z:=(GMark.mk true y40.1 (0:Int))) e bu144 ze144 (.cons GMark.f0 zov e hI (.cons GMark.f1 zqL e hI .nil))) (oV (zV e zlE zg7) (oT (tS ty144 e e p4 (0,⟨[]⟩,⟨true,y40.1,0⟩,⟨false,false,false,false,0,0⟩,⟨none,[]⟩,⟨none,[]⟩,0,false,0) (rn (ws (om e (zd h fun y57 hy57 h=>oT (tC2 (zQ hy57) hT (s2 e e) (a1 (a1 (a1 (a1 k0)))) (fun t58 t59=>rn (ze h e (fun _ h=>?_) (fun _ h=>ws (om e (zd h fun y60 hy60 h=>oT (tC2 (zQ hy60) hT (s2 e e) k4 (fun t61 t62=>rn (ze h e (fun _ h=>?_) (fun _ h=>zJ (hJ35 h (t61,t62,none,none) 23)))))))))))))))))))))))))
    ·exact zm (oV (zV e zlE zg7) (oV (zV e GMark.f2 zmi) (oT (tS ty3 e e p4 (0,⟨[]⟩,⟨true,y40.1,1⟩,⟨false,false,false,false,0,0⟩,⟨none,[]⟩,⟨none,[]⟩,0,false,0) (zK (hJ35 h (t58,t59,none,none) 23))))))
    exact zm (oV (zV e zlE zg7) (oV (zV e GMark.f2 zmi) (oT (tS ty3 e e p4 (0,⟨[]⟩,⟨true,y40.1,2⟩,⟨false,false,false,false,0,0⟩,⟨none,[]⟩,⟨none,[]⟩,0,false,0) (zK (hJ35 h (t61,t62,none,none) 25))))))
   exact zm (om e (oV (za ty109 e) (zd h fun y51 hy51 h=>oT (tC2 (zbg hy51) hT (s3 e e e) k4 (fun t52 t53=>zK (hJ50 h (t52,t53) 3))))))
  refine oG g45 (zo e) (oG g45 (z7 e e) (oG g45 (zo e) (jO 3 73 h (fun q46 h=>?_) fun J47 h hJ47=>oI h (fun g48 h=>?_) fun g48 h=>oG g48 (zo e) (oG g48 (zbc e e) (oG g45 (zg e g48 e) (hJ47 h 3))))))
  ·exact oV (zh e g45 e) (hJ44 h 5)
  exact oN g48 (oN g48 (oG g45 (zh e g48 e) (hJ47 h 3)))
 ·exact oN g16 (oN g16 (oN g16 (oN g16 (oN g16 (oN g16 (oN g16 (oV (zh e g16 e) (hJ15 h 8))))))))
 exact oG g16 (zV e zcj zdO) (oG g16 (zV e ziP zia) (oH g16 (zaz (R:=vecv zT (y4.2.m.nodes.length)) ty68 e p0 isvV1 (oG g16 (zjm sl68 e) (oG g16 (zbF e e) (oV (zg e g16 e) (hJ15 h 8)))))))

theorem zkA {zar zaB zay zak} (zcw:zb3 zar) (zc8:zb2 zaB) (zdM:zci zay) (zbV:zbU zak):zci (zcR zar zaB zay zak):=by
 intro a_x a_n_ zL zW t_a_x1 t_a_x2 zT zb9 t_a_n_4 t_a_n_5 r h
 unfold zcR at h
 refine zi Tryz.func76 e fun w0 S0 hT=>ws (om e (zd h fun y6 hy6 h=>oT (tC2 (zaU hy6) hT (s1 e) k4 (fun t7 t8=>oT (zC _ ze109 fun b9=>oT (tS ty109 e e p0 y6.1 (zI (z8 6 .here e) (rn (zr (ws (om e (oV (zs e) (oV (zV e zbB zcD) (oT (tL ty38 e p0 y6.2.e (oV (zaC e e) (an e (ze h e (fun _ h=>?_) (fun _ h=>ws (om e (zd h fun y10 hy10 h=>oT (tC2 (zQ hy10) hT (s2 e e) k4 (fun t11 t12=>an e (ze h e (fun _ h=>?_) (fun _ h=>ws (om e (zd h fun y13 hy13 h=>oT (tC2 (zQ hy13) hT (s2 e e) k4 (fun t14 t15=>an e (ze h e (fun _ h=>?_) (fun _ h=>?_)))))))))))))))))))))))))))))))
 ·exact zJ (zx (zaJ .nil k7 (iS h ▸ ⟨t7,t8,zT,t_a_n_4,t_a_n_5,e,e⟩)))
 ·exact zm (om e (oV (zs e) (oV (zV e zcL zbY) (oT (tS ty3 e e p4 (GNodeO {a_n_ with kind:=1} t_a_n_4 t_a_n_5) (rb (zaJ .nil (a1 (a1 (a1 (a1 k3)))) (iS h ▸ ⟨t11,t12,zT,t_a_n_4,t_a_n_5,e,e⟩))))))))
 ·exact zm (om e (oV (zs e) (oV (zV e zcL zbY) (oT (tS ty3 e e p4 (GNodeO {a_n_ with kind:=4} t_a_n_4 t_a_n_5) (rb (zaJ .nil (a1 (a1 (a1 (a1 k3)))) (iS h ▸ ⟨t14,t15,zT,t_a_n_4,t_a_n_5,e,e⟩))))))))
 refine ws (om e (zd h fun y16 hy16 h=>oT (tC2 (zQ hy16) hT (s2 e e) k4 (fun t17 t18=>an e (ze h e (fun _ h=>?_) (fun _ h=>ws (om e (zd h fun y22 hy22 h=>oT (tC2 (zQ hy22) hT (s2 e e) k4 (fun t23 t24=>an e (ze h e (fun _ h=>?_) (fun _ h=>ws (om e (zd h fun y34 hy34 h=>oT (tC2 (zQ hy34) hT (s2 e e) k4 (fun t35 t36=>an e (ze h e (fun _ h=>?_) (fun _ h=>ws (om e (zd h fun y43 hy43 h=>oT (tC2 (zQ hy43) hT (s2 e e) k4 (fun t44 t45=>an e (ze h e (fun _ h=>?_) (fun _ h=>ws (om e (zd h fun y57 hy57 h=>oT (tC2 (zQ hy57) hT (s2 e e) k4 (fun t58 t59=>an e (ze h e (fun _ h=>?_) (fun _ h=>?_))))))))))))))))))))))))))))))
 ·exact ws (om e (oV (zs e) (oV (zV e zcL zbY) (oT (tS ty3 e e p4 (GNodeO {a_n_ with kind:=6} t_a_n_4 t_a_n_5) (rn (zm (om e (om e (zd h fun y19 hy19 h=>oT (tC2 (zfi hy19) hT (s1 e) (a1 (a1 (a1 (a1 k0)))) (fun t20 t21=>oV (zs e) (oV (zV e zjH zjL) (oT (tS ty78 e e p4 (GNodeO {a_n_ with kind:=6,con:=y19.1} t_a_n_4 t_a_n_5) (rb (zaJ .nil (a1 (a1 (a1 (a1 k3)))) (iS h ▸ ⟨t20,t21,zT,t_a_n_4,t_a_n_5,e,e⟩))))))))))))))))))
 ·refine ws (om e (oV (zs e) (oV (zV e zcL zbY) (oT (tS ty3 e e p4 (GNodeO {a_n_ with kind:=2} t_a_n_4 t_a_n_5) (rn (ws (om e (zd h fun y25 hy25 h=>oT (tC2 (zQ hy25) hT (s2 e e) (a1 (a1 (a1 (a1 k0)))) (fun t26 t27=>rn (ze h e (fun _ h=>?_) (fun _ h=>zJ (zx (zaJ .nil k7 (iS h ▸ ⟨t26,t27,zT,t_a_n_4,t_a_n_5,e,e⟩))))))))))))))))
  exact ws (om e (om e (zd h fun y28 hy28 h=>oT (tC2 (zgh hy28) hT (s1 e) k4 (fun t29 t30=>oV (zs e) (oV (zV e zjH zjL) (oT (tS ty78 e e p4 (GNodeO {a_n_ with kind:=2,con:=y28.1} t_a_n_4 t_a_n_5) (rn (zm (om e (zd h fun y31 hy31 h=>oT (tC2 (zac hy31) hT (s2 e e) (a1 (a1 (a1 (a1 k0)))) (fun t32 t33=>rb (zaJ .nil k7 (iS h ▸ ⟨t32,t33,zT,t_a_n_4,t_a_n_5,e,e⟩))))))))))))))))
 ·exact ws (om e (zd h fun y37 hy37 h=>oT (tC2 (zac hy37) hT (s2 e e) k4 (fun t38 t39=>rn (ws (om e (oV (zs e) (oV (zV e zcL zbY) (oT (tS ty3 e e p4 (GNodeO {a_n_ with kind:=5} t_a_n_4 t_a_n_5) (rn (zm (om e (om e (zd h fun y40 hy40 h=>oT (tC2 (zfi hy40) hT (s1 e) (a1 (a1 (a1 (a1 k0)))) (fun t41 t42=>oV (zs e) (oV (zV e zjH zjL) (oT (tS ty78 e e p4 (GNodeO {a_n_ with kind:=5,con:=y40.1} t_a_n_4 t_a_n_5) (rb (zaJ .nil (a1 (a1 (a1 (a1 k3)))) (iS h ▸ ⟨t41,t42,zT,t_a_n_4,t_a_n_5,e,e⟩)))))))))))))))))))))))
 ·exact ws (om e (oV (zs e) (oV (zV e zcL zbY) (oT (tS ty3 e e p4 (GNodeO {a_n_ with kind:=3} t_a_n_4 t_a_n_5) (rn (ws (om e (zd h fun y46 hy46 h=>oT (tC2 (zac hy46) hT (s2 e e) (a1 (a1 (a1 (a1 k0)))) (fun t47 t48=>rn (ws (om e (om e (zd h fun y49 hy49 h=>oT (tC4 (zkz hy49) hT (s2 e e) k7 (fun t50 t51 t52 t53=>rn (zm (om e (zd h fun y54 hy54 h=>oT (tC2 (zac hy54) hT (s2 e e) k4 (fun t55 t56=>rb (zaJ .nil k7 (iS h ▸ ⟨t55,t56,zT,t52,t53,e,e⟩))))))))))))))))))))))))
 ·exact ws (om e (oV (zs e) (oV (zV e zcL zbY) (oT (tS ty3 e e p4 (GNodeO {a_n_ with kind:=8} t_a_n_4 t_a_n_5) (rn (ws (om e (zd h fun y60 hy60 h=>oT (tC2 (zac hy60) hT (s2 e e) (a1 (a1 (a1 (a1 k0)))) (fun t61 t62=>rn (zm (om e (om e (om e (zd h fun y63 hy63 h=>oT (tC5 (zbV hy63) hT (s3 e e e) k7 (fun t64 t65 v66 t67 t68=>rb (zaJ .nil k7 (iS h ▸ ⟨t64,t65,v66,t67,t68,e,e⟩))))))))))))))))))))
 refine ws (om e (zd h fun y69 hy69 h=>oT (tC2 (zQ hy69) hT (s2 e e) k4 (fun t70 t71=>an e (ze h e (fun _ h=>?_) (fun _ h=>ws (om e (zd h fun y81 hy81 h=>oT (tC2 (zQ hy81) hT (s2 e e) k4 (fun t82 t83=>an e (ze h e (fun _ h=>?_) (fun _ h=>ws (oV (vI e GTok.f0 zcs y6.1.kind) (oV (za ty3 e) (oV (zD e e) (an e (ze h e (fun _ h=>?_) (fun _ h=>zm (om e (oV (za ty109 e) (zd h fun y107 hy107 h=>oT (tC2 (zbg hy107) hT (s3 e e e) k4 (fun t108 t109=>rb (zaJ .nil k7 (iS h ▸ ⟨t108,t109,zT,t_a_n_4,t_a_n_5,e,e⟩)))))))))))))))))))))))))
 ·exact ws (om e (oV (zs e) (oV (zV e zcL zbY) (oT (tS ty3 e e p4 (GNodeO {a_n_ with kind:=9} t_a_n_4 t_a_n_5) (rn (ws (om e (zd h fun y72 hy72 h=>oT (tC2 (zac hy72) hT (s2 e e) (a1 (a1 (a1 (a1 k0)))) (fun t73 t74=>rn (zm (om e (om e (om e (zd h fun y75 hy75 h=>oT (tC5 (zbV hy75) hT (s3 e e e) k7 (fun t76 t77 v78 t79 t80=>rb (zaJ .nil k7 (iS h ▸ ⟨t76,t77,v78,t79,t80,e,e⟩))))))))))))))))))))
 ·refine ss (om e (zd h fun y84 hy84 h=>oT (tC2 (zQ hy84) hT (s2 e e) k4 (fun t85 t86=>rn (ze h e (fun _ h=>?_) (fun _ h=>wk (ws (om e (oV (zs e) (oV (zV e zcL zbY) (oT (tS ty3 e e p4 (GNodeO {a_n_ with kind:=10} t_a_n_4 t_a_n_5) (rn (ws (om e (om e (zd h fun y93 hy93 h=>oT (tC2 (zfi hy93) hT (s1 e) (a1 (a1 (a1 (a1 k0)))) (fun t94 t95=>oV (zs e) (oV (zV e zjH zjL) (oT (tS ty78 e e p4 (GNodeO {a_n_ with kind:=10,con:=y93.1} t_a_n_4 t_a_n_5) (rn (ws (om e (zd h fun y96 hy96 h=>oT (tC2 (zac hy96) hT (s2 e e) (a1 (a1 (a1 (a1 k0)))) (fun t97 t98=>rn (zm (om e (om e ?_)))))))))))))))))))))))))))))))
  ·exact ws (om e (oV (zs e) (oV (zV e zcL zbY) (oT (tS ty3 e e p4 (GNodeO {a_n_ with kind:=7} t_a_n_4 t_a_n_5) (rn (ws (om e (om e (om e (zd h fun y87 hy87 h=>oT (tC5 (zbV hy87) hT (s3 e e e) (a1 (a1 (a1 (a1 k3)))) (fun t88 t89 v90 t91 t92=>rn (zaQ (zz (zbm (zf .nil k7 (iS h ▸ ⟨t88,t89,v90,t91,t92,e,e⟩))))))))))))))))))
  exact om e (zy h fun q99 h=>oV (zX e e q99) (zd h fun y100 hy100 h=>oT (tC3 (zc8 hy100) hT (s2 e e) k4 (fun t101 t102 v103=>oV (zs e) (oV (zV e zrW znU) (oT (tS ty3 e e p4 (GNodeO {a_n_ with kind:=10,con:=y93.1,of:=y100.1} t_a_n_4 t_a_n_5) (rb (zaJ .nil (a1 (a1 (a1 (a1 k3)))) (iS h ▸ ⟨t101,t102,v103,t_a_n_4,t_a_n_5,e,e⟩))))))))))
 exact zE (zH (.v 0 (.v 1 (.v 2 (.v 3 (.v 4 (.v 5 (.t 6 (.v 7 (.v 8 (.t 9 .nil)))))))))) moOrd (by kernel_rfl) (rm e e (rm e e (zj e (vI e GTok.f1 zdN y6.1.text) (zj e (za ty9 e) (zj e (zs e) (zj e (zV e zcL zbY) (rT e (tS ty3 e e p4 (GNodeO {a_n_ with kind:=11} t_a_n_4 t_a_n_5) (zj e (zs e) (zj e (zV e zrw zoy) (rT e (tS ty9 e e p0 (GNodeO {a_n_ with kind:=11,name:=y6.1.text} t_a_n_4 t_a_n_5) (z6 (zq (zm (om e (zd h fun y104 hy104 h=>oT (tC2 (zbS hy104) hT (s1 e) (a1 (a1 (a1 (a1 k0)))) (fun t105 t106=>rb (zaJ .nil k7 (iS h ▸ ⟨t105,t106,zT,t_a_n_4,t_a_n_5,e,e⟩))))))))))))))))))))))

theorem zjb {zar zaB zay zak} (zcw:zb3 zar) (zc8:zb2 zaB) (zdM:zci zay) (zbV:zbU zak):zbU (zcp zar zaB zay zak):=by
 intro a_x a_n_ zL zW t_a_x1 t_a_x2 zT zb9 t_a_n_4 t_a_n_5 r h
 unfold zcp at h
 refine zi Tryz.func115 e fun w0 S0 hT=>ss (om e (zd h fun y6 hy6 h=>oT (tC2 (zQ hy6) hT (s2 e e) k4 (fun t7 t8=>rn (ze h e (fun _ h=>?_) (fun _ h=>wk (ws (an e (zE (jw h (Tok × Tok × Vt × Tok × Tok) (fun q9 g9=>[(6,anyv)]) (fun q9 g9=>[boxE zW (GParO q9.1 g9.1 g9.2.1 g9.2.2.1),tokE g9.1,tokE g9.2.1,vecE g9.2.2.1 (q9.1.m.nodes:List GNode),boxE zb9 (GNodeO q9.2 g9.2.2.2.1 g9.2.2.2.2),tokE g9.2.2.2.1,tokE g9.2.2.2.2]) (a0 (a3 k5)) (fun q9 g9 h=>?_) fun J10 h hJ10=>zr (lP h (Tok × Tok × Vt × Tok × Tok) (t7,t8,zT,t_a_n_4,t_a_n_5) (fun q11 g11=>[(6,isv q11.1)]) (fun q11 g11=>[boxE zW (GParO q11.2.1 g11.1 g11.2.1 g11.2.2.1),tokE g11.1,tokE g11.2.1,vecE g11.2.2.1 (q11.2.1.m.nodes:List GNode),boxE zb9 (GNodeO q11.2.2 g11.2.2.2.1 g11.2.2.2.2),tokE g11.2.2.2.1,tokE g11.2.2.2.2]) (zB (j:=6) e hI zan) k7 fun L12 q11 g11 Q113 h hL12 eL12 rL12=>ss (om e (oV (zs e) (oV (zV e zbB zcD) (oT (tL ty38 e p0 q11.2.1.e (oV (zD e e) (rn (ze h e (fun _ h=>?_) (fun _ h=>xn (eL12 _ _ (zw (hJ10 h (g11.1,g11.2.1,g11.2.2.1,g11.2.2.2.1,g11.2.2.2.2) 6)))))))))))))))))))))))
 ·exact zaQ (zz (zf .nil k7 (iS h ▸ ⟨t7,t8,zT,t_a_n_4,t_a_n_5,e,e⟩)))
 ·refine ws (om e (zd h fun y114 hy114 h=>oT (tC2 (zac hy114) hT (s2 e e) k4 (fun t115 t116=>rn (ws (om e (oV (zs e) (oV (zV e zfN zgm) (oT (tL ty4 e p4 q9.2.more (oV (zal e) (rn (ze h e (fun _ h=>?_) (fun _ h=>zJ (zaJ .nil k7 (iS h ▸ ⟨t115,t116,g9.2.2.1,g9.2.2.2.1,g9.2.2.2.2,e,e⟩))))))))))))))))
  exact zm (om e (om e (oV (zs e) (oV (zV e zhN zeb) (oT (zaz (R:=appv g9.2.2.2.2 q9.2.fields) ty80 e p4 isvT1 (oV (zlN (l:=q9.2.fields) e zG sl80) (oV (zs e) (oV (zV e zjR zg8) (oT (tS ty3 e e p4 (GNodeO {q9.2 with root:=(q9.2.fields.length:Int)} g9.2.2.2.1 g9.2.2.2.2) (zK (zaJ .nil (a1 (a1 (a1 (a1 k3)))) (iS h ▸ ⟨t115,t116,g9.2.2.1,g9.2.2.2.1,g9.2.2.2.2,e,e⟩))))))))))))))
 refine wk (zr (zE (jw h (Tok × Tok × Vt × Tok × Tok) (fun q63 g63=>[(6,isv q63.1)]) (fun q63 g63=>[boxE zW (GParO q63.2.1 g63.1 g63.2.1 g63.2.2.1),tokE g63.1,tokE g63.2.1,vecE g63.2.2.1 (q63.2.1.m.nodes:List GNode),boxE zb9 (GNodeO q63.2.2 g63.2.2.2.1 g63.2.2.2.2),tokE g63.2.2.2.1,tokE g63.2.2.2.2]) (a0 (a3 k5)) (fun q63 g63 h=>?_) fun J64 h hJ64=>zr (ws (om e (oV (zs e) (oV (zV e zfN zgm) (oT (tL ty4 e p4 q11.2.2.more (oV (zal e) (om e (jo 3 h (Tok × Tok) (fun q65 g65=>[(27,isv q65.1)]) (fun q65 g65=>[boxE zW (GParO q65.2 g65.1 g65.2 g11.2.2.1),tokE g65.1,tokE g65.2,vecE g11.2.2.1 (q65.2.m.nodes:List GNode)]) k4 (fun q65 g65 h=>?_) fun J66 h hJ66=>oI h (fun g67 h=>?_) fun g67 h=>oN g67 (oN g67 (oV (zg e g67 e) (hJ66 h (g11.1,g11.2.1) 3)))))))))))))))
 ·refine ws (om e (zd h fun y110 hy110 h=>oT (tC2 (zQ hy110) hT (s2 e e) k4 (fun t111 t112=>oV (zal e) (rn (ze h e (fun _ h=>?_) (fun _ h=>zJ (zx (hL12 h (t111,t112,g63.2.2.1,g63.2.2.2.1,g63.2.2.2.2) 10)))))))))
  exact zmC (zji e (eL12 _ _ (zw (hJ10 h (t111,t112,g63.2.2.1,g63.2.2.2.1,g63.2.2.2.2) 10))))
 ·refine an e (ze h e (fun _ h=>?_) (fun _ h=>ws (om e (oV (zs e) (oV (zV e zfN zgm) (oT (tL ty4 e p4 q11.2.2.more (om e (jo 3 h (Tok × Tok) (fun q71 g71=>[(47,isv q71.1)]) (fun q71 g71=>[boxE zW (GParO q71.2 g71.1 g71.2 g11.2.2.1),tokE g71.1,tokE g71.2,vecE g11.2.2.1 (q71.2.m.nodes:List GNode)]) k4 (fun q71 g71 h=>?_) fun J72 h hJ72=>oI h (fun g73 h=>?_) fun g73 h=>oN g73 (oN g73 (oV (zg e g73 e) (hJ72 h (g65.1,g65.2) 3))))))))))))
  ·exact zm (om e (om e (om e (oV (zs e) (oV (zV e zhN zeb) (oT (zaz (R:=appv g11.2.2.2.2 q11.2.2.fields) ty80 e p4 isvT1 (oV (zlN (l:=q11.2.2.fields) e zG sl80) (oV (zs e) (oV (zV e zfN zgm) (oT (tS ty4 e e p4 (GNodeO {q11.2.2 with more:=true} g11.2.2.2.1 g11.2.2.2.2) (oV (zs e) (oV (zV e zjR zg8) (oT (tS ty3 e e p0 (GNodeO {q11.2.2 with root:=(q11.2.2.fields.length:Int),more:=true} g11.2.2.2.1 g11.2.2.2.2) (rb (hJ64 h (g65.1,g65.2,g11.2.2.1,g11.2.2.2.1,g11.2.2.2.2) 19))))))))))))))))))
  ·refine an e (ze h e (fun _ h=>?_) (fun _ h=>zm (om e (om e (om e (zd h fun y104 hy104 h=>oT (tC5 (zcw hy104) hT (s4 e e e e) k7 (fun t105 t106 v107 t108 t109=>rb (hJ64 h (t105,t106,v107,t108,t109) 19)))))))))
   refine ws (om e (zy h fun q77 h=>oV (zX e e q77) (an e (zE (jw h (Tok × Tok × Vt × Tok × Tok) (fun q78 g78=>[]) (fun q78 g78=>[boxE zW (GParO q78.1 g78.1 g78.2.1 g78.2.2.1),tokE g78.1,tokE g78.2.1,vecE g78.2.2.1 (q78.1.m.nodes:List GNode),boxE zb9 (GNodeO q78.2 g78.2.2.2.1 g78.2.2.2.2),tokE g78.2.2.2.1,tokE g78.2.2.2.2]) (a0 (a3 k5)) (fun q78 g78 h=>?_) fun J79 h hJ79=>zr (lP h (Tok × Tok × Vt × Tok × Tok) (g71.1,g71.2,g11.2.2.1,g11.2.2.2.1,g11.2.2.2.2) (fun q80 g80=>[]) (fun q80 g80=>[boxE zW (GParO q80.1 g80.1 g80.2.1 g80.2.2.1),tokE g80.1,tokE g80.2.1,vecE g80.2.2.1 (q80.1.m.nodes:List GNode),boxE zb9 (GNodeO q80.2 g80.2.2.2.1 g80.2.2.2.2),tokE g80.2.2.2.1,tokE g80.2.2.2.2]) zan k7 fun L81 q80 g80 Q100 h hL81 eL81 rL81=>ss (om e (oV (zs e) (oV (zV e zbB zcD) (oT (tL ty38 e p0 q80.1.e (oV (zD e e) (rn (ze h e (fun _ h=>?_) (fun _ h=>xn (eL81 _ _ (zw (hJ79 h (g80.1,g80.2.1,g80.2.2.1,g80.2.2.2.1,g80.2.2.2.2) 5))))))))))))))))))
   ·exact zm (om e (zd h fun y101 hy101 h=>oT (tC2 (zac hy101) hT (s2 e e) k4 (fun t102 t103=>rb (hJ64 h (t102,t103,g78.2.2.1,g78.2.2.2.1,g78.2.2.2.2) 20)))))
   refine wk (zr (ws (om e (om e (om e (om e (zd h fun y91 hy91 h=>oT (tC5 (zcw hy91) hT (s4 e e e e) k7 (fun t92 t93 v94 t95 t96=>rn (ws (om e (zd h fun y97 hy97 h=>oT (tC2 (zQ hy97) hT (s2 e e) k4 (fun t98 t99=>oV (zal e) (rn (ze h e (fun _ h=>?_) (fun _ h=>zJ (zx (hL81 h (t98,t99,v94,t95,t96) 13)))))))))))))))))))
   exact zmC (zji e (eL81 _ _ (zw (hJ79 h (t98,t99,v94,t95,t96) 13))))
  exact oG g73 (zo e) (zd h fun y74 hy74 h=>oH g73 (tC2 (zQ hy74) hT (s2 e e) k4 (fun t75 t76=>oV (zh e g73 e) (hJ72 h (t75,t76) 3))))
 exact oG g67 (zo e) (zd h fun y68 hy68 h=>oH g67 (tC2 (zQ hy68) hT (s2 e e) k4 (fun t69 t70=>oV (zh e g67 e) (hJ66 h (t69,t70) 3))))

theorem zfb:∀ n,zb3 (zcu n)∧zb2 (zbC n)∧zci (zcK n)∧zbU (zcm n)
  | 0=>⟨fun h=>(by cases h),fun h=>(by cases h),fun h=>(by cases h),fun h=>(by cases h)⟩
  | n + 1=>by
    obtain ⟨h0,h1,h2,h3⟩:=zfb n
    exact ⟨zjU h0 h1 h2 h3,zk8 h0 h1 h2 h3,zkA h0 h1 h2 h3,zjb h0 h1 h2 h3⟩
theorem zlw (n:Nat):zb2 (zbC n):=(zfb n).2.1
theorem zpB {zbM r} (h:zfH zbM=some r):Ctr Tryz.prog 26 [isv zbM] [] (Pt [isv r.1,isv r.2.1,isv r.2.2] []):=by
 unfold zfH at h
 refine zi Tryz.func26 e fun w0 S0 hT=>ws (oT (zC _ ze70 fun b1=>oa e (an e (ws (om e (zd h fun y2 hy2 h=>oT (tC (zoi hy2) hT (s1 e) k0 (om e (oV (zA e e) (oV (zA e e) (oV (zA e e) (oa e (oa e (an e (ss (om e (oV (zaC e e) (rn (ze h e (fun _ h=>?_) (fun _ h=>wk (ws (om e (oV (zaa (z:=((y2.1,(0:Int),((Str.mk []),(0:Int),(TList.mk none ([]:(List Str))),(TList.mk none ([]:(List Int))),(Vh.mk none 0)),(0:Int),(0:Int)):GParOT)) e bu104 zt5 (.cons zjx zmc e hI .nil)) (oT (zlL (y:=((y2.1,(0:Int),((Str.mk []),(0:Int),(TList.mk none ([]:(List Str))),(TList.mk none ([]:(List Int))),(Vh.mk none 0)),(0:Int),(0:Int)):GParOT)) e hI fun b3=>zI (zau) (zI (zau) (zI (zee (α:=GNode)) (an e ?_))))))))))))))))))))))))))))
 ·exact ws (oV (zaa (z:=(GMod.mk (Str.mk []) (0:Int) ([]:(List Str)) ([]:(List Int)) ([]:(List GNode)))) e bu70 ze70 .nil) (om e (om e (oT (tS ty70 e e p0 ⟨⟨[]⟩,0,[],[],[]⟩ (oa e (ar e (zz (zf (.cell e .here ty70 (.tmp e (.tmp e .nil))) k0 (iS h ▸ ⟨e,e⟩))))))))))
 refine ws (om e (om e (zd h fun y7 hy7 h=>oT (tC2 (zcT hy7) hT (s2 e e) (a3 (a2 (a1 k1))) (fun t8 t9=>oV (zs e) (oV (zV e zcj zdO) (oV (zV e zsw zso) (oT (tS ty9 e e p0 (GParO {y7.2 with m:={y7.2.m with name:=y7.1}} t8 t9 none) (rn (ws (om e (zd h fun y10 hy10 h=>oT (tC2 (zac hy10) hT (s2 e e) k4 (fun t11 t12=>rn (zE (jw h (Tok × Tok) (fun q13 g13=>[]) (fun q13 g13=>[boxE b3 (GParO q13 g13.1 g13.2 none),tokE g13.1,tokE g13.2,vecE none q13.m.nodes]) k4 (fun q13 g13 h=>?_) fun J14 h hJ14=>zr (ws (om e (zd h fun y15 hy15 h=>oT (tC2 (zQ hy15) hT (s2 e e) k4 (fun t16 t17=>an e (ze h e (fun _ h=>?_) (fun _ h=>ws (om e (zd h fun y21 hy21 h=>oT (tC2 (zQ hy21) hT (s2 e e) k4 (fun t22 t23=>an e (ze h e (fun _ h=>?_) (fun _ h=>?_))))))))))))))))))))))))))))))
 ·refine ws (om e (zd h fun y33 hy33 h=>oT (tC2 (zac hy33) hT (s2 e e) k4 (fun t34 t35=>rn (ws (om e (zd h fun y36 hy36 h=>oT (tC2 (zac hy36) hT (s2 e e) k4 (fun t37 t38=>rn (zE (zr (lP h (Tok × Tok × Vt) (t37,t38,none) (fun q39 g39=>[]) (fun q39 g39=>[boxE b3 (GParO q39 g39.1 g39.2.1 g39.2.2),tokE g39.1,tokE g39.2.1,vecE g39.2.2 (q39.m.nodes:List GNode)]) zan k4 fun L40 q39 g39 Q141 h hL40 eL40 rL40=>ss (om e (oV (zs e) (oV (zV e zbB zcD) (oT (tL ty38 e p0 q39.e (oV (zD e e) (om e (jo 4 h (Tok × Tok) (fun q91 g91=>[(70,isv q91.1)]) (fun q91 g91=>[boxE b3 (GParO q91.2 g91.1 g91.2 g39.2.2),tokE g91.1,tokE g91.2,vecE g39.2.2 (q91.2.m.nodes:List GNode)]) k4 (fun q91 g91 h=>?_) fun J92 h hJ92=>oI h (fun g93 h=>?_) fun g93 h=>oN g93 (oN g93 (oN g93 (oV (zg e g93 e) (hJ92 h (g39.1,g39.2.1) 4))))))))))))))))))))))))
  ·refine rn (ze h e (fun _ h=>?_) (fun _ h=>xn (eL40 _ _ (zw (zq (ss (om e (oV (zs e) (oV (zV e zbB zcD) (oT (tL ty38 e p0 q91.2.e (oV (zD e e) (om e (jo 5 h (Tok × Tok) (fun q125 g125=>[(130,isv q125.1)]) (fun q125 g125=>[boxE b3 (GParO q125.2 g125.1 g125.2 g39.2.2),tokE g125.1,tokE g125.2,vecE g39.2.2 (q125.2.m.nodes:List GNode)]) k4 (fun q125 g125 h=>?_) fun J126 h hJ126=>oI h (fun g127 h=>?_) fun g127 h=>oN g127 (oN g127 (oN g127 (oN g127 (oV (zg e g127 e) (hJ126 h (g91.1,g91.2) 5)))))))))))))))))))
   ·refine wk (zr (ws (om e (zd h fun y97 hy97 h=>oT (tC2 (zaU hy97) hT (s1 e) k4 (fun t98 t99=>oT (zC _ ze109 fun b100=>oT (tS ty109 e e p0 y97.1 (zI (z8 9 .here e) (rn (ws (om e (zd h fun y101 hy101 h=>oT (tC2 (zcT hy101) hT (s2 e e) k4 (fun t102 t103=>an e (ss (om e (oV (zs e) (oV (zV e zbB zcD) (oT (tL ty38 e p0 y101.2.e (oV (zD e e) (om e (jO 8 88 h (fun q104 h=>?_) fun J105 h hJ105=>oI h (fun g106 h=>?_) fun g106 h=>oN g106 (oN g106 (oN g106 (oN g106 (oN g106 (oN g106 ?_)))))))))))))))))))))))))))))
    ·refine rn (jw h (Tok × Tok) (fun q107 g107=>[]) (fun q107 g107=>[boxE b3 (GParO q107 g107.1 g107.2 g39.2.2),tokE g107.1,tokE g107.2,vecE g39.2.2 (q107.m.nodes:List GNode)]) k4 (fun q107 g107 h=>?_) fun J108 h hJ108=>ze h e (fun _ h=>?_) (fun _ h=>zJ (hJ108 h (t102,t103) 0)))
     ·refine ws (om e (zd h fun y112 hy112 h=>oT (tC2 (zac hy112) hT (s2 e e) k4 (fun t113 t114=>rn (ws (om e (zd h fun y115 hy115 h=>oT (tC3 (zlw fuel hy115) hT (s2 e e) k4 (fun t116 t117 v118=>an e (ws (om e (om e (oV (zs e) (oV (zV e zcj zdO) (oV (zV e zmI zfq) (oT (zaz (R:=appv t116 y115.2.m.names) ty27 e p0 isvT1 (om e (oT (zN (l:=([y101.1]:(List Str))) el27 (.cons e hI .nil) e e (zag h fun q121 h=>oT (za7 (l:=y115.2.m.names) (m:=([y101.1]:(List Str))) zol e hI e zG (.there .here) q121 fun t120=>oV (zs e) (oV (zV e zcj zdO) (oV (zV e zmI zfq) (oT (tR ty27 e e isvT2 p1 (GParO {y115.2 with m:={y115.2.m with names:=(y115.2.m.names ++ ([y101.1]:(List Str)))}} t120 t117 v118) e (rn (zm (om e (om e (oV (zs e) ?_)))))))))))))))))))))))))))))))
      exact oV (zV e zcj zdO) (oV (zV e zoK zmM) (oT (zaz (R:=appv t117 y115.2.m.types) ty28 e p0 isvT1 (om e (oT (zN (l:=([y115.1]:(List Int))) el28 (.cons e hI .nil) e e (zag h fun q124 h=>oT (za7 (l:=y115.2.m.types) (m:=([y115.1]:(List Int))) zeA e hI e zG (.there (.there .here)) q124 fun t123=>oV (zs e) (oV (zV e zcj zdO) (oV (zV e zoK zmM) (oT (tR ty28 e e isvT2 p1 (GParO {y115.2 with m:={y115.2.m with names:=(y115.2.m.names ++ ([y101.1]:(List Str))),types:=(y115.2.m.types ++ ([y115.1]:(List Int)))}} t120 t123 v118) e (rb (hL40 h (t120,t123,v118) 50))))))))))))))
     exact zm (om e (oV (za ty109 e) (zd h fun y109 hy109 h=>oT (tC2 (zbg hy109) hT (s3 e e e) k4 (fun t110 t111=>zK (hJ108 h (t110,t111) 3))))))
    ·exact oG g106 (zo e) (oG g106 (zs e) (oG g106 (zV e zcj zdO) (oG g106 (zV e zmI zfq) (oH g106 (zaz (R:=appv t102 y101.2.m.names) ty27 e p0 isvT1 (oG g106 (zlN (l:=y101.2.m.names) e zG sl27) (oG g106 (zbF e e) (oV (zh e g106 e) (hJ105 h 8)))))))))
    exact oN g106 (oV (zg e g106 e) (hJ105 h 8))
   ·refine rn (jw h (Tok × Tok) (fun q131 g131=>[]) (fun q131 g131=>[boxE b3 (GParO q131 g131.1 g131.2 g39.2.2),tokE g131.1,tokE g131.2,vecE g39.2.2 (q131.m.nodes:List GNode)]) k4 (fun q131 g131 h=>?_) fun J132 h hJ132=>ze h e (fun _ h=>?_) (fun _ h=>zJ (hJ132 h (g125.1,g125.2) 0)))
    ·refine ss (om e (oV (zs e) (oV (zV e zbB zcD) (oT (tL ty38 e p0 q131.e (oV (zaC e e) (rn (ze h e (fun _ h=>?_) (fun _ h=>wk (ws (om e (oV (zs e) (oV (zV e zcj zdO) (zI (ztp (y:=((q131.l,q131.at_,(q131.m.name,q131.m.tagging,(TList.mk g131.1 q131.m.names),(TList.mk g131.2 q131.m.types),q131.m.nodes),q131.e,q131.p):((List GTok) × Int × (Str × Int × (TList Str) × (TList Int) × (List GNode)) × Int × Int))) (.there (.there (.there .here))) .here (fun S hv=>(Cv.pair Cv.id (Cv.pair Cv.id (Cv.pair (Cv.pair Cv.id (Cv.pair Cv.id (Cv.pair Cv.id (Cv.pair Cv.id (Cv.vh hv (by first | rfl | simp)))))) (Cv.pair Cv.id Cv.id)))))) (zI (zaA (R':=ptrv b3 ((Fld.id (((List GTok) × Int × (Str × Int × (TList Str) × (TList Int) × (List GNode)) × Int × Int))).comp zrs)) 151 e hI) (oT (zaz (y:=((q131.l,q131.at_,(q131.m.name,q131.m.tagging,(TList.mk g131.1 q131.m.names),(TList.mk g131.2 q131.m.types),q131.m.nodes),q131.e,q131.p):((List GTok) × Int × (Str × Int × (TList Str) × (TList Int) × (List GNode)) × Int × Int))) (R:=isv (((q131.m.name,q131.m.tagging,(TList.mk g131.1 q131.m.names),(TList.mk g131.2 q131.m.types),q131.m.nodes)):((Str × Int × (TList Str) × (TList Int) × (List GNode))))) ty70 e .here (by exact hI) (zI (zaA (R':=isv q131.m) 152 e (Cv.isv e fun S=>(fun cs h=>GMod.cv (x:=q131.m) cs (((Cv.pair Cv.id (Cv.pair Cv.id (Cv.pair Cv.tl (Cv.pair Cv.tl Cv.id)))):Cv S ((q131.m.name,q131.m.tagging,(TList.mk g131.1 q131.m.names),(TList.mk g131.2 q131.m.types),q131.m.nodes):(Str × Int × (TList Str) × (TList Int) × (List GNode))) (GMod.to q131.m)) cs h)))) (oT (tS ty70 e e p3 q131.m (oa e (ar e (zf (.cell e .here ty70 (.tmp e (.tmp e .nil))) k0 (iS h ▸ ⟨e,e⟩))))))))))))))))))))))))
     exact zE (zdH 8 .here e (fun o139 hn140=>zH (.v 0 (.v 1 (.v 2 (.v 3 (.v 4 (.v 5 (.v 6 (.v 7 (.v 8 (.t 9 (.v 10 (.v 11 .nil)))))))))))) moOrd (by kernel_rfl) (zj e (zaa (z:=(GMod.mk (Str.mk []) (0:Int) ([]:(List Str)) ([]:(List Int)) ([]:(List GNode)))) e bu70 ze70 .nil) (rm e e (zj e (zbA e) (zj e (zhl e znt zqD) (zj e (vP ty3 e m0 q131.p) (rm e e (zj e (zbA e) (zj e (zhl e zbB zcD) (zj e (vP ty38 e m0 q131.e) (rT e (tS ty70 e e p3 ⟨⟨[]⟩,0,[],[],[]⟩ (zj e (zaj e) (zj e (zaj e) (z6 (zaZ 8 hn140 e (zq (zaQ (zz (zf (.cell e (.there .here) ty70 (.tmp e (.tmp e .nil))) k0 (iS h ▸ ⟨e,e⟩))))))))))))))))))))))
    exact zm (om e (om e (zd h fun y133 hy133 h=>oT (tC2 (zaU hy133) hT (s1 e) k4 (fun t134 t135=>zd h fun y136 hy136 h=>oT (tC2 (zbg hy136) hT (s3 e e e) k4 (fun t137 t138=>zK (hJ132 h (t137,t138) 4))))))))
   exact oG g127 (zo e) (zd h fun y128 hy128 h=>oH g127 (tC2 (zaU hy128) hT (s1 e) k4 (fun t129 t130=>oG g127 (zjy GTok.f0 e zcs e) (oG g127 (zaC e e) (oV (zh e g127 e) (hJ126 h (t129,t130) 5))))))
  exact oG g93 (zo e) (zd h fun y94 hy94 h=>oH g93 (tC2 (zQ hy94) hT (s2 e e) k4 (fun t95 t96=>oG g93 (zal e) (oV (zh e g93 e) (hJ92 h (t95,t96) 4)))))
 ·exact zm (om e (zd h fun y18 hy18 h=>oT (tC2 (zac hy18) hT (s2 e e) k4 (fun t19 t20=>rb (hJ14 h (t19,t20) 5)))))
 ·exact ws (om e (oV (zs e) (oV (zV e zcj zdO) (oV (zV e zoO znX) (oT (tS ty3 e e p0 (GParO {y21.2 with m:={y21.2.m with tagging:=1}} t22 t23 none) (rn (zm (om e (zd h fun y24 hy24 h=>oT (tC2 (zac hy24) hT (s2 e e) k4 (fun t25 t26=>rb (hJ14 h (t25,t26) 12)))))))))))))
 refine ws (om e (zd h fun y27 hy27 h=>oT (tC2 (zQ hy27) hT (s2 e e) k4 (fun t28 t29=>an e (ze h e (fun _ h=>?_) (fun _ h=>zJ (zx (hJ14 h (t28,t29) 9))))))))
 exact ws (om e (oV (zs e) (oV (zV e zcj zdO) (oV (zV e zoO znX) (oT (tS ty3 e e p0 (GParO {y27.2 with m:={y27.2.m with tagging:=2}} t28 t29 none) (rn (zm (om e (zd h fun y30 hy30 h=>oT (tC2 (zac hy30) hT (s2 e e) k4 (fun t31 t32=>rb (hJ14 h (t31,t32) 15)))))))))))))

end Go.Proofs.Q


namespace Go.Proofs.Q
open Go.Sy
set_option maxRecDepth 4000
theorem zic {a_m zif r} (h:zhJ a_m zif=some r):Ctr Tryz.prog 81 [isv a_m,isv zif] [] (Pt [isv r] []):=by
 unfold zhJ at h
 refine zi Tryz.func81 e fun w0 S0 hT=>ws (oT (tB e (an e (ss (an e (zr (lO 5 h e fun L2 q1 Q7 h hL2 eL2 rL2=>ss (om e (oV (vI e GMod.f2 zfq a_m.names) (oV (za ty27 e) (oV (vN e sl27) (oV (z7 e e) (rn (ze h e (fun _ h=>?_) (fun _ h=>xn (eL2 _ _ (zw (zq (ws (ar e (zf (r1 e) k0 (iS h ▸ ⟨e,e⟩))))))))))))))))))))))
 refine wk (zE (zr (ws (oV (vI e GMod.f2 zfq a_m.names) (oV (za ty27 e) (om e (zd h fun y5 hy5 h=>oV (vX e e sl27 hy5) (oV (za ty9 e) (om e (oV (zb6 eq9 e e) (rn (ze h e (fun _ h=>?_) (fun _ h=>zJ (zx (zq (zm (om e (zy h fun q6 h=>oV (zX e e q6) (oa e (zK (hL2 h 16)))))))))))))))))))))
 exact ws (om e (ar e (bn (rL2 _ (bn (zf (r1 e) k0 (iS h ▸ ⟨e,e⟩)))))))


theorem ziq {a_l a_x r} (h:zf0 a_l a_x=some r):Ctr Tryz.prog 80 [isv a_l,isv a_x] [] (Pt [isv r] []):=by
 unfold zf0 at h
 refine zi Tryz.func80 e fun w0 S0 hT=>ws (an e (ss (an e (zr (lO 5 h e fun L2 q1 Q7 h hL2 eL2 rL2=>ss (om e (om e (oV (vN e sl28) (oV (z7 e e) (rn (ze h e (fun _ h=>?_) (fun _ h=>xn (eL2 _ _ (zw (zq (ws (ar e (zf (r1 e) k0 (iS h ▸ ⟨e,e⟩)))))))))))))))))))
 refine wk (zE (zr (ws (om e (om e (zd h fun y5 hy5 h=>oV (vX e e sl28 hy5) (oV (za ty3 e) (om e (oV (zD e e) (rn (ze h e (fun _ h=>?_) (fun _ h=>zJ (zx (zq (zm (om e (zy h fun q6 h=>oV (zX e e q6) (oa e (zK (hL2 h 14))))))))))))))))))))
 exact ws (ar e (bn (rL2 _ (bn (zf (r1 e) k0 (iS h ▸ ⟨e,e⟩))))))


def zir (f':GMod→Int→Int→(List Int)→Option ((List Int) × Bool)):Prop :=
 ∀ {a_m zkj zL a_l t_a_l r},f' a_m zkj zL a_l=some r→Ctr Tryz.prog 78 [isv a_m,isv zkj,isv zL,appv t_a_l a_l] [tokE t_a_l] (Pt1 (fun u1=>[appv u1 r.1,isv r.2]) fun u1=>[tokE u1])
theorem zpb {zh0} (zna:zir zh0):zir (zeH zh0):=by
 intro a_m zkj zL a_l t_a_l r h
 unfold zeH at h
 refine zi Tryz.func78 e fun w0 S0 hT=>ws (oT (tB e (oa e (an e (ss (om e (oV (z7 e e) (om e (jO 6 24 h (fun q1 h=>?_) fun J2 h hJ2=>oI h (fun g3 h=>?_) fun g3 h=>oG g3 (zo e) (oG g3 (vI e GMod.f4 zia a_m.nodes) (oG g3 (za ty68 e) (oG g3 (vN e sl68) (oG g3 (zbF e e) (oV (zg e g3 e) (hJ2 h 6)))))))))))))))
 ·refine om e (jO 3 28 h (fun q4 h=>?_) fun J5 h hJ5=>oI h (fun g6 h=>?_) fun g6 h=>oG g6 (zo e) (oG g6 (zbc e e) (oV (zg e g6 e) (hJ5 h 3))))
  ·refine rn (ze h e (fun _ h=>?_) (fun _ h=>wk (ws (oV (vI e GMod.f4 zia a_m.nodes) (oV (za ty68 e) (om e (zd h fun y7 hy7 h=>oV (vX e e sl68 hy7) (oV (za ty146 e) (oT (zC _ ze146 fun b8=>oT (tS ty146 e e p0 y7 (zI (z8 10 .here e) (rn (ss (oV (vI e GNode.f0 zbY y7.kind) (oV (za ty3 e) (oV (zD e e) (rn (ze h e (fun _ h=>?_) (fun _ h=>wk (ws (an e (ss (an e (zr (lP h Tok t_a_l (fun q16 g16=>[(3,appv g16 q16.1),(12,isv q16.2.1),(13,isv q16.2.2)]) (fun q16 g16=>[tokE g16]) (zB (j:=3) e hI (zB (j:=12) e hI (zB (j:=13) e hI zan))) k1 fun L17 q16 g16 Q44 h hL17 eL17 rL17=>ss (om e (oV (vI e GNode.f5 zeb y7.fields) ?_))))))))))))))))))))))))))))
   ·exact ws (om e (oa e (ar e (zz (zf (r2 e e) k1 (iS h ▸ ⟨t_a_l,e,e⟩))))))
   ·refine ws (oV (za ty70 e) (oV (vI e GNode.f1 zoy y7.name) (oV (za ty9 e) (zd h fun y9 hy9 h=>oT (tC (zic hy9) hT (s2 e e) k0 (an e (ss (om e (oV (z7 e e) (rn (ze h e (fun _ h=>?_) (fun _ h=>wk (ss (om e (om e (zd h fun y10 hy10 h=>oT (tC (ziq hy10) hT (.cons e zG (.same e .nil)) k0 (oV (zal e) (rn (jw h Tok (fun q11 g11=>[(3,appv g11 q11)]) (fun q11 g11=>[tokE g11]) k1 (fun q11 g11 h=>?_) fun J12 h hJ12=>ze h e (fun _ h=>?_) (fun _ h=>zJ (hJ12 h t_a_l 0))))))))))))))))))))))
    ·exact ws (om e (oa e (ar e (zz (zz (zf (r2 e e) k1 (iS h ▸ ⟨t_a_l,e,e⟩)))))))
    ·exact ws (om e (oa e (ar e (zz (zf (r2 e e) k1 (iS h ▸ ⟨g11,e,e⟩))))))
    exact zm (om e (om e (oT (zN (l:=([y9]:(List Int))) el28 (.cons e hI .nil) e e (zag h fun q15 h=>oT (za7 (l:=a_l) (m:=([y9]:(List Int))) zeA e hI e zG .here q15 fun t14=>oa e (zK (hJ12 h t14 5))))))))
   refine oV (za ty80 e) (oV (vN e sl80) (oV (z7 e e) (rn (ze h e (fun _ h=>?_) (fun _ h=>xn (eL17 _ _ (zw (zq (ss (oV (vI e GNode.f0 zbY y7.kind) (oV (za ty3 e) (oV (zD e e) (rn (jw h Tok (fun q36 g36=>[(3,appv g36 q36.1),(12,isv q36.2)]) (fun q36 g36=>[tokE g36]) k1 (fun q36 g36 h=>?_) fun J37 h hJ37=>ze h e (fun _ h=>?_) (fun _ h=>zJ (hJ37 h g16 0))))))))))))))))
   ·refine wk (zE (zr (ws (an e (zE (zH (.v 0 (.v 1 (.v 2 (.v 3 (.v 4 (.v 5 (.v 6 (.v 7 (.v 8 (.v 9 (.t 10 (.v 11 (.v 12 (.v 13 (.v 14 (.v 15 .nil)))))))))))))))) moOrd (by kernel_rfl) (zj e (za ty70 e) (zj e (vI e GNode.f5 zeb y7.fields) (zj e (za ty80 e) (rm e e (zd h fun y28 hy28 h=>zj e (vX e e sl80 hy28) (zj e (vI e GFld.f1 zcf y28.ty) (zj e (za ty3 e) (rm e e (zy h fun q29 h=>zj e (zX e e q29) (rm e e (zd h fun y30 hy30 h=>rT e (tC1 (zna hy30) hT (s4 e e e e) k1 (fun t31=>rm e e (zj e (zA e e) (zj e (zA e e) (zj e (zaj e) (zj e (zaj e) (z6 (zq (zm (om e ?_)))))))))))))))))))))))))))
    refine om e (jO 2 78 h (fun q32 h=>?_) fun J33 h hJ33=>oI h (fun g34 h=>?_) fun g34 h=>oG g34 (zo e) (oV (zg e g34 e) (hJ33 h 2)))
    ·exact oa e (rb (zq (zm (om e (zy h fun q35 h=>oV (zX e e q35) (oa e (zK (hL17 h t31 32))))))))
    exact oN g34 (oV (zh e g34 e) (hJ33 h 2))
   ·exact ws (om e (om e (oa e (ar e (zf (r2 e e) k1 (iS h ▸ ⟨g36,e,e⟩))))))
   refine ws (an e (ws (oV (za ty70 e) (oV (vI e GNode.f8 znU y7.of) (oV (za ty3 e) (om e (zy h fun q38 h=>oV (zX e e q38) (om e (zd h fun y39 hy39 h=>oT (tC1 (zna hy39) hT (s4 e e e e) k1 (fun t40=>om e (oV (zA e e) (oV (zA e e) (oa e (an e (zm (om e (om e (jO 2 95 h (fun q41 h=>?_) fun J42 h hJ42=>oI h (fun g43 h=>?_) fun g43 h=>oG g43 (zo e) (oV (zg e g43 e) (hJ42 h 2)))))))))))))))))))))
   ·exact oa e (zK (hJ37 h t40 17))
   exact oN g43 (oV (zh e g43 e) (hJ42 h 2))
  exact oN g6 (oN g6 (oV (zh e g6 e) (hJ5 h 3)))
 exact oN g3 (oN g3 (oN g3 (oN g3 (oN g3 (oV (zh e g3 e) (hJ2 h 6))))))

theorem ziU:∀ n,zir (zg0 n)
  | 0=>fun h=>(by cases h)
  | n + 1=>zpb (ziU n)
theorem zqm (n:Nat):zir (zg0 n):=(ziU n)

theorem zo7 {zkX zgp a_to r} (h:zhD zkX zgp a_to=some r):Ctr Tryz.prog 79 [isv zkX,isv zgp,isv a_to] [] (Pt [isv r] []):=by
 unfold zhD at h
 refine zi Tryz.func79 e fun w0 S0 hT=>ws (an e (ws (oT (zN (l:=([]:(List Int))) el28 .nil e e (an e (ws (om e (om e (zd h fun y2 hy2 h=>oV (vX e e sl125 hy2) (oV (za ty28 e) (zag h fun q4 h=>oT (zlv (m:=y2) zeA e e hI q4 fun t3=>an e (zE (zr (zhO (zau) (lP h (Tok × Tok) (none,t3) (fun q5 g5=>[(7,appv g5.1 q5.1),(8,appv g5.2 q5.2)]) (fun q5 g5=>[tokE g5.1,tokE g5.2]) (zB (j:=7) e hI (zB (j:=8) e hI zan)) k2 fun L6 q5 g5 Q27 h hL6 eL6 rL6=>ss (om e (oV (zlN (l:=q5.2) e zG sl28) (oV (zbc e e) (rn (ze h e (fun _ h=>?_) (fun _ h=>xn (eL6 _ _ (zw (zq (ws ?_))))))))))))))))))))))))))
 ·refine wk (zr (ws (om e (zd h fun y17 hy17 h=>oV (zk7 (l:=q5.2) e zG e sl28 hy17) (oV (za ty3 e) (an e (ws (om e (zad h fun q18 h=>oT (zu0 e sl28 e q18.1 q18.2 (.there .here) fun t19=>an e (ss (om e (om e (oV (zD e e) (rn (ze h e (fun _ h=>?_) (fun _ h=>wk (ws (om e (om e (zd h fun y20 hy20 h=>oT (tC (ziq hy20) hT (.cons e zG (.same e .nil)) k0 (oV (zal e) (rn (ze h e (fun _ h=>?_) (fun _ h=>zJ (zx ?_)))))))))))))))))))))))))))
  ·exact ws (ar e (zz (zbm (rL6 _ (bn (zf (r1 e) k0 (iS h ▸ ⟨e,e⟩)))))))
  ·exact ws (om e (om e (oT (zN (l:=([y17]:(List Int))) el28 (.cons e hI .nil) e e (zag h fun q23 h=>oT (za7 (l:=q5.1) (m:=([y17]:(List Int))) zeA e hI e zG (.there .here) q23 fun t22=>an e (zm (om e (om e (om e (zd h fun y24 hy24 h=>oV (vX e e sl125 hy24) (oV (za ty28 e) (zag h fun q26 h=>oT (za7 (l:=(q5.2.drop ((1:Int)).toNat)) (m:=y24) zeA e hI e hI (.there .here) q26 fun t25=>oa e (rb (hL6 h (t22,t25) 31))))))))))))))))
  exact hL6 h (g5.1,t19) 19
 exact ar e (zf (r1 e) k0 (iS h ▸ ⟨e,e⟩))


theorem zo0 {a_m r} (h:zhy a_m=some r):Ctr Tryz.prog 52 [isv a_m] [] (Pt [isv r.1,isv r.2.1,isv r.2.2] []):=by
 unfold zhy at h
 refine zi Tryz.func52 e fun w0 S0 hT=>ws (oT (tB e (oa e (oa e (an e (ws (an e (ws (an e (ss (an e (zr (lO 7 h e fun L2 q1 Q1603 h hL2 eL2 rL2=>ss (om e (oV (vI e GMod.f2 zfq a_m.names) (oV (za ty27 e) (oV (vN e sl27) (oV (z7 e e) (rn (ze h e (fun _ h=>?_) (fun _ h=>xn (eL2 _ _ (zw (zq (ss (an e (zr (zhO (zau) ?_))))))))))))))))))))))))))))
 ·refine wk (zE (zr (zE (zH (.v 0 (.v 1 (.v 2 (.v 3 (.v 4 (.v 5 (.v 6 (.v 7 (.v 8 (.t 9 .nil)))))))))) moOrd (by kernel_rfl) (zj e (vI e GMod.f2 zfq a_m.names) (zj e (za ty27 e) (rm e e (zad h fun q803 h=>zj e (zfz (l:=a_m.names) e hI sl27 (.inl ⟨e,e⟩) (.inr ⟨_,e,e⟩) q803.1 q803.2.1 q803.2.2) (zj e (vI e GMod.f2 zfq a_m.names) (zj e (za ty27 e) (rm e e (zd h fun y804 hy804 h=>zj e (vX e e sl27 hy804) (zj e (za ty9 e) (zd h fun y805 hy805 h=>rT e (tC (zj7 hy805) hT (s2 e e) k0 (z6 (zq (ze h e (fun _ h=>?_) (fun _ h=>zJ (zx (zq (zm (om e (zy h fun q806 h=>oV (zX e e q806) (oa e (zK ?_))))))))))))))))))))))))))
  ·exact ws (om e (oa e (oa e (ar e (bn (rL2 _ (bn (zf (.as e (zcU (α:=Int)) (.tmp e (.tmp e .nil))) k0 (iS h ▸ ⟨e,e⟩)))))))))
  exact hL2 h 19
 refine lP h Tok none (fun q807 g807=>[(5,appv g807 q807.1),(6,isv q807.2.1),(8,isv q807.2.2)]) (fun q807 g807=>[tokE g807]) (zB (j:=5) e zbI (zB (j:=6) e hI (zB (j:=8) e hI zan))) k1 fun L808 q807 g807 Q1602 h hL808 eL808 rL808=>ss (om e (oV (vI e GMod.f2 zfq a_m.names) (oV (za ty27 e) (oV (vN e sl27) (oV (z7 e e) (rn (ze h e (fun _ h=>?_) (fun _ h=>xn (eL808 _ _ (zw (zq (ss (om e (oV (zbF e e) (rn (ze h e (fun _ h=>?_) (fun _ h=>wk (ss (an e (zr (lO 11 h e fun L1351 q1350 Q1600 h hL1351 eL1351 rL1351=>ss (om e (oV (vI e GMod.f2 zfq a_m.names) (oV (za ty27 e) (oV (vN e sl27) (oV (z7 e e) (rn ?_)))))))))))))))))))))))))))
 ·refine wk (zE (jw h Tok (fun q1337 g1337=>[(5,appv g1337 q1337.1),(6,isv q1337.2)]) (fun q1337 g1337=>[tokE g1337]) k1 (fun q1337 g1337 h=>?_) fun J1338 h hJ1338=>zr (zE (zH (.v 0 (.v 1 (.v 2 (.v 3 (.v 4 (.v 5 (.t 6 (.v 7 (.v 8 (.v 9 (.v 10 (.v 11 .nil)))))))))))) moOrd (by kernel_rfl) (zj e (za ty70 e) (zj e (vI e GMod.f3 zmM a_m.types) (zj e (za ty28 e) (rm e e (zd h fun y1339 hy1339 h=>zj e (vX e e sl28 hy1339) (zj e (za ty3 e) (zbG (zau) (zd h fun y1341 hy1341 h=>rT e (tC1 (zqm fuel hy1341) hT (.same e (.same e (.same e (.cons e zbI .nil)))) k1 (fun t1342=>rm e e (zj e (zA e e) (zj e (zA e e) (zj e (zaj e) (zj e (zaj e) (z6 (zq (ws (om e (om e (oT (zN (l:=([y1341.1]:(List (List Int)))) el125 (.cons e zG .nil) e e (zag h fun q1345 h=>oT (za7 (l:=q807.1) (m:=([y1341.1]:(List (List Int)))) zlq e hI e zG (.there .here) q1345 fun t1344=>an e ?_)))))))))))))))))))))))))))
  ·exact zm (om e (zy h fun q1349 h=>oV (zX e e q1349) (oa e (zK (hL808 h g1337 13)))))
  refine ws (om e (om e (jO 3 59 h (fun q1346 h=>?_) fun J1347 h hJ1347=>oI h (fun g1348 h=>?_) fun g1348 h=>oN g1348 (oN g1348 (oV (zg e g1348 e) (hJ1347 h 3))))))
  ·refine rn (ze h e (fun _ h=>?_) (fun _ h=>zJ (zx (hJ1338 h t1344 20))))
   exact zm (om e (oa e (rb (hJ1338 h t1344 22))))
  exact oG g1348 (zo e) (oG g1348 (z7 e e) (oV (zh e g1348 e) (hJ1347 h 3)))
 ·exact ws (om e (oa e (oa e (ar e (zz (zf (.as e (zcU (α:=Int)) (.tmp e (.tmp e .nil))) k0 (iS h ▸ ⟨e,e⟩)))))))
 refine ze h e (fun _ h=>?_) (fun _ h=>xn (eL1351 _ _ (zw (zq (ws (an e (zE (zr (zhO (zau) (lP h Tok none (fun q1478 g1478=>[(12,appv g1478 q1478)]) (fun q1478 g1478=>[tokE g1478]) (zB (j:=12) e zbI zan) k1 fun L1479 q1478 g1478 Q1599 h hL1479 eL1479 rL1479=>ss (om e (oV (zlN (l:=q1478) e zG sl28) (oV (vI e GMod.f2 zfq a_m.names) (oV (za ty27 e) (oV (vN e sl27) (oV (z7 e e) (rn (ze h e (fun _ h=>?_) (fun _ h=>xn (eL1479 _ _ (zw (zq (ws (om e (oa e (oa e (ar e (zf (.as e zG (.tmp e (.tmp e .nil))) k0 (iS h ▸ ⟨e,e⟩)))))))))))))))))))))))))))))
 ·refine wk (zE (zr (ws (om e (om e (om e (zd h fun y1476 hy1476 h=>oT (tC (zo7 hy1476) hT (.cons e zG (.same e (.same e .nil))) k0 (rn (ze h e (fun _ h=>?_) (fun _ h=>zJ (zx (zq (zm (om e (zy h fun q1477 h=>oV (zX e e q1477) (oa e (zK (hL1351 h 13)))))))))))))))))))
  exact ws (om e (oa e (oa e (ar e (bn (rL1351 _ (bn (zf (.as e (zcU (α:=Int)) (.tmp e (.tmp e .nil))) k0 (iS h ▸ ⟨e,e⟩)))))))))
 refine wk (zr (ws (an e (zr (lO 13 h e fun L1540 q1539 Q1597 h hL1540 eL1540 rL1540=>ss (om e (oV (vI e GMod.f2 zfq a_m.names) (oV (za ty27 e) (oV (vN e sl27) (oV (z7 e e) (rn (ze h e (fun _ h=>?_) (fun _ h=>xn (eL1540 _ _ (zw (zx (hL1479 h g1478 14)))))))))))))))))
 refine wk (zE (zr (ws (om e (om e (zd h fun y1569 hy1569 h=>oT (tC (ziq hy1569) hT (.cons e zG (.same e .nil)) k0 (oV (zal e) (an e (ss (an e (zr (lP h Unit () (fun q1570 g1570=>[(14,isv q1570.1),(15,isv q1570.2)]) (fun q1570 g1570=>[]) (zB (j:=14) e hI (zB (j:=15) e hI zan)) k0 fun L1571 q1570 g1570 Q1596 h hL1571 eL1571 rL1571=>ss (om e (om e (om e (zd h fun y1584 hy1584 h=>oV (zk7 (l:=q807.1) e zG e sl125 hy1584) (oV (za ty28 e) (oV (vN e sl28) (oV (z7 e e) (rn (ze h e (fun _ h=>?_) (fun _ h=>xn (eL1571 _ _ (zw (zq (ws ?_)))))))))))))))))))))))))))
 ·refine wk (zE (zr (zm (om e (om e (jO 10 113 h (fun q1585 h=>?_) fun J1586 h hJ1586=>oI h (fun g1587 h=>?_) fun g1587 h=>oN g1587 (oN g1587 (oN g1587 (oN g1587 (oN g1587 (oN g1587 (oN g1587 (oN g1587 (oN g1587 (oV (zg e g1587 e) (hJ1586 h 10))))))))))))))))
  ·exact oa e (rb (zq (zm (om e (zy h fun q1591 h=>oV (zX e e q1591) (oa e (zK (hL1571 h () 16))))))))
  exact oG g1587 (zo e) (oG g1587 (zo e) (oG g1587 (zo e) (zd h fun y1588 hy1588 h=>oG g1587 (zk7 (l:=q807.1) e zG e sl125 hy1588) (oG g1587 (za ty28 e) (oG g1587 (zo e) (zd h fun y1589 hy1589 h=>oG g1587 (vX e e sl28 hy1589) (oG g1587 (za ty3 e) (zd h fun y1590 hy1590 h=>oH g1587 (tC (ziq hy1590) hT (.cons e zG (.same e .nil)) k0 (oV (zh e g1587 e) (hJ1586 h 10)))))))))))
 refine om e (rn (ze h e (fun _ h=>?_) (fun _ h=>zJ (zx (zq (zm (om e (zy h fun q1595 h=>oV (zX e e q1595) (oa e (zK (hL1540 h 25)))))))))))
 exact ws (om e (om e (oT (zN (l:=([q1539]:(List Int))) el28 (.cons e hI .nil) e e (zag h fun q1594 h=>oT (za7 (l:=q1478) (m:=([q1539]:(List Int))) zeA e hI e zG .here q1594 fun t1593=>an e (zmC (zji e (zqQ (eL1540 _ _ (zw (zx (hL1479 h t1593 35)))))))))))))

end Go.Proofs.Q


namespace Go.Proofs.Q
open Go.Sy
set_option maxRecDepth 4000
theorem zbw {a_x a_e zW zam r} (h:zaY a_x a_e=some r):Ctr Tryz.prog 116 [ptrv zW (Fld.id GMkOT),isv a_e] [boxE zW (GMkO a_x zam),vecE zam a_x.l] (Pt [] [boxE zW (GMkO r zam),vecE zam r.l]):=by
 unfold zaY at h
 refine zi Tryz.func116 e fun w0 S0 hT=>ws (om e (oV (zs e) (oV (zV e zcJ zeB) (oT (tL ty38 e p0 a_x.e (oV (zD e e) (rn (ze h e (fun _ h=>?_) (fun _ h=>zJ (zaJ .nil k2 (iS h ▸ ⟨e,e⟩)))))))))))
 exact zm (om e (om e (oV (zs e) (oV (zV e zcJ zeB) (oT (tS ty38 e e p0 (GMkO {a_x with e:=a_e} zam) (zK (zaJ .nil k2 (iS h ▸ ⟨e,e⟩)))))))))


theorem zl7 {zfI r} (h:zes zfI=some r):Ctr Tryz.prog 117 [isv zfI] [] (Pt [isv r] []):=by
 unfold zes at h
 refine zi Tryz.func117 e fun w0 S0 hT=>ws (oT (zC _ ze121 fun b1=>rn (ss (om e (rn (zr (ws (oV (zD e e) (an e (ze h e (fun _ h=>?_) (fun _ h=>ws (oV (zD e e) (an e (ze h e (fun _ h=>?_) (fun _ h=>ws (oV (zD e e) (an e (ze h e (fun _ h=>?_) (fun _ h=>ws (oV (zD e e) (an e (ze h e (fun _ h=>?_) (fun _ h=>ws (oV (zD e e) (an e (ze h e (fun _ h=>?_) (fun _ h=>ws (oV (zD e e) ?_))))))))))))))))))))))))))))
 ·exact ws (oV (zaa (z:=(Tag.mk (0:Int) (1:Int))) e bu121 ze121 (.cons Tag.f1 zcS e hI .nil)) (oT (tS ty121 e e p0 ⟨0,1⟩ (rn (zaQ (bn (zf (.cell e .here ty121 .nil) k0 (iS h ▸ ⟨e,e⟩))))))))
 ·exact ws (oV (zaa (z:=(Tag.mk (0:Int) (2:Int))) e bu121 ze121 (.cons Tag.f1 zcS e hI .nil)) (oT (tS ty121 e e p0 ⟨0,2⟩ (rn (zaQ (bn (zf (.cell e .here ty121 .nil) k0 (iS h ▸ ⟨e,e⟩))))))))
 ·exact ws (oV (zaa (z:=(Tag.mk (0:Int) (4:Int))) e bu121 ze121 (.cons Tag.f1 zcS e hI .nil)) (oT (tS ty121 e e p0 ⟨0,4⟩ (rn (zaQ (bn (zf (.cell e .here ty121 .nil) k0 (iS h ▸ ⟨e,e⟩))))))))
 ·exact ws (oV (zaa (z:=(Tag.mk (0:Int) (5:Int))) e bu121 ze121 (.cons Tag.f1 zcS e hI .nil)) (oT (tS ty121 e e p0 ⟨0,5⟩ (rn (zaQ (bn (zf (.cell e .here ty121 .nil) k0 (iS h ▸ ⟨e,e⟩))))))))
 ·exact ws (oV (zaa (z:=(Tag.mk (0:Int) (10:Int))) e bu121 ze121 (.cons Tag.f1 zcS e hI .nil)) (oT (tS ty121 e e p0 ⟨0,10⟩ (rn (zaQ (bn (zf (.cell e .here ty121 .nil) k0 (iS h ▸ ⟨e,e⟩))))))))
 refine an e (ze h e (fun _ h=>?_) (fun _ h=>ss (oV (zD e e) (an e (jW 22 h (fun q2 h=>?_) fun J3 h hJ3=>ze h e (fun _ h=>?_) (fun _ h=>zm (oV (zD e e) (oa e (zK (hJ3 h 2))))))))))
 ·exact ws (oV (zaa (z:=(Tag.mk (0:Int) (12:Int))) e bu121 ze121 (.cons Tag.f1 zcS e hI .nil)) (oT (tS ty121 e e p0 ⟨0,12⟩ (rn (zaQ (bn (zf (.cell e .here ty121 .nil) k0 (iS h ▸ ⟨e,e⟩))))))))
 ·refine ze h e (fun _ h=>?_) (fun _ h=>ws (oV (zD e e) (an e (ze h e (fun _ h=>?_) (fun _ h=>zJ (zx (zq (ws (oV (zaa (z:=(Tag.mk (0:Int) (0:Int))) e bu121 ze121 .nil) (oT (tS ty121 e e p0 ⟨0,0⟩ (rn (zaQ (zf (.cell e .here ty121 .nil) k0 (iS h ▸ ⟨e,e⟩)))))))))))))))
  ·exact ws (oV (zaa (z:=(Tag.mk (0:Int) (16:Int))) e bu121 ze121 (.cons Tag.f1 zcS e hI .nil)) (oT (tS ty121 e e p0 ⟨0,16⟩ (rn (zaQ (bn (zf (.cell e .here ty121 .nil) k0 (iS h ▸ ⟨e,e⟩))))))))
  exact ws (oV (zaa (z:=(Tag.mk (0:Int) (17:Int))) e bu121 ze121 (.cons Tag.f1 zcS e hI .nil)) (oT (tS ty121 e e p0 ⟨0,17⟩ (rn (zaQ (bn (zf (.cell e .here ty121 .nil) k0 (iS h ▸ ⟨e,e⟩))))))))
 exact zJ (hJ3 h 0)


theorem zpq {a_c zoo r} (h:zhB a_c zoo=some r):Ctr Tryz.prog 118 [isv a_c,isv zoo] [] (Pt [isv r] []):=by
 unfold zhB at h
 refine zi Tryz.func118 e fun w0 S0 hT=>ws (oT (tB e (an e (ss (oV (vI e GCon.f0 znO a_c.has) (oV (za ty4 e) (oV (zal e) (rn (ze h e (fun _ h=>?_) (fun _ h=>wk (ss (oV (vI e GCon.f1 zlB a_c.hasLow) (oV (za ty4 e) (om e (jO 3 13 h (fun q1 h=>?_) fun J2 h hJ2=>oI h (fun g3 h=>?_) fun g3 h=>oN g3 (oN g3 (oV (zg e g3 e) (hJ2 h 3))))))))))))))))))
 ·exact ws (ar e (zz (zf (r1 e) k0 (iS h ▸ ⟨e,e⟩))))
 ·refine om e (jO 6 20 h (fun q4 h=>?_) fun J5 h hJ5=>oI h (fun g6 h=>?_) fun g6 h=>oN g6 (oN g6 (oN g6 (oN g6 (oN g6 (oV (zg e g6 e) (hJ5 h 6)))))))
  ·refine rn (ze h e (fun _ h=>?_) (fun _ h=>wk (ss (om e (om e (jO 28 50 h (fun q7 h=>?_) fun J8 h hJ8=>oI h (fun g9 h=>?_) fun g9 h=>oN g9 (oN g9 (oN g9 (oN g9 (oU (oU (oU (oN g9 (oN g9 (oU (oU (oU (oN g9 (oN g9 (oU (oU (oU (oU (oU (oU (oU (oU ?_)))))))))))))))))))))))))))
   ·exact ws (ar e (zz (zf (r1 e) k0 (iS h ▸ ⟨e,e⟩))))
   ·refine rn (ze h e (fun _ h=>?_) (fun _ h=>wk (ws (ar e (zf (r1 e) k0 (iS h ▸ ⟨e,e⟩))))))
    exact ws (ar e (zz (zf (r1 e) k0 (iS h ▸ ⟨e,e⟩))))
   ·refine oG g9 (vI e GCon.f1 zlB a_c.hasLow) (oG g9 (za ty4 e) (oG g9 (zal e) (oG g9 (zo e) (jO 4 30 h (fun q10 h=>?_) fun J11 h hJ11=>oI h (fun g12 h=>?_) fun g12 h=>oG g12 (vI e GCon.f4 zkB a_c.low) (oG g12 (za ty2 e) (oG g12 (z7 e e) (oG g9 (zg e g12 e) (hJ11 h 4))))))))
    ·refine oG g9 (zo e) (jO 4 35 h (fun q13 h=>?_) fun J14 h hJ14=>oI h (fun g15 h=>?_) fun g15 h=>oG g15 (vI e GCon.f4 zkB a_c.low) (oG g15 (za ty2 e) (oG g15 (zbc e e) (oG g9 (zg e g15 e) (hJ14 h 4)))))
     ·refine oG g9 (zo e) (jO 13 49 h (fun q16 h=>?_) fun J17 h hJ17=>oI h (fun g18 h=>?_) fun g18 h=>oG g18 (vI e GCon.f2 zls a_c.hasHigh) (oG g18 (za ty4 e) (oG g18 (zo e) (jO 9 48 h (fun q19 h=>?_) fun J20 h hJ20=>oI h (fun g21 h=>?_) fun g21 h=>oN g21 (oN g21 (oN g21 (oN g21 (oU (oU (oU (oN g21 (oG g18 (zg e g21 e) (hJ20 h 9)))))))))))))
      ·exact oV (zh e g9 e) (hJ8 h 10)
      ·exact oN g18 (oN g18 (oN g18 (oU (oU (oU (oU (oU (oU (oU (oU (oN g18 (oG g9 (zh e g18 e) (hJ17 h 13)))))))))))))
      ·exact oG g9 (zg e g18 e) (hJ17 h 5)
      refine oG g21 (vI e GCon.f5 zkr a_c.high) (oG g21 (za ty2 e) (oG g21 (z7 e e) (oG g21 (zo e) (jO 4 47 h (fun q22 h=>?_) fun J23 h hJ23=>oI h (fun g24 h=>?_) fun g24 h=>oG g24 (vI e GCon.f5 zkr a_c.high) (oG g24 (za ty2 e) (oG g24 (zbc e e) (oG g21 (zg e g24 e) (hJ23 h 4))))))))
      ·exact oG g18 (zh e g21 e) (hJ20 h 6)
      exact oN g24 (oN g24 (oN g24 (oG g21 (zh e g24 e) (hJ23 h 4))))
     exact oN g15 (oN g15 (oN g15 (oG g9 (zh e g15 e) (hJ14 h 4))))
    exact oN g12 (oN g12 (oN g12 (oG g9 (zh e g12 e) (hJ11 h 4))))
   exact oU (oU (oU (oU (oN g9 (oV (zg e g9 e) (hJ8 h 28))))))
  exact oG g6 (vI e GCon.f4 zkB a_c.low) (oG g6 (za ty2 e) (oG g6 (vI e GCon.f5 zkr a_c.high) (oG g6 (za ty2 e) (oG g6 (zbc e e) (oV (zh e g6 e) (hJ5 h 6))))))
 exact oG g3 (vI e GCon.f2 zls a_c.hasHigh) (oG g3 (za ty4 e) (oV (zh e g3 e) (hJ2 h 3)))


theorem zpt {a_l a_v r} (h:zhU a_l a_v=some r):Ctr Tryz.prog 138 [isv a_l,isv a_v] [] (Pt [isv r] []):=by
 unfold zhU at h
 refine zi Tryz.func138 e fun w0 S0 hT=>ws (an e (ss (an e (zr (lO 5 h e fun L2 q1 Q15 h hL2 eL2 rL2=>ss (om e (om e (oV (vN e sl79) (oV (z7 e e) (rn (ze h e (fun _ h=>?_) (fun _ h=>xn (eL2 _ _ (zw (zq (ws (ar e (zf (r1 e) k0 (iS h ▸ ⟨e,e⟩)))))))))))))))))))
 refine wk (zE (zr (ws (om e (om e (zd h fun y9 hy9 h=>oV (vX e e sl79 hy9) (oV (vI e GItem.f2 zjF y9.has) (oV (za ty4 e) (om e (jO 8 25 h (fun q10 h=>?_) fun J11 h hJ11=>oI h (fun g12 h=>?_) fun g12 h=>oN g12 (oN g12 (oN g12 (oN g12 (oN g12 (oN g12 (oN g12 (oV (zg e g12 e) (hJ11 h 8))))))))))))))))))
 ·refine rn (ze h e (fun _ h=>?_) (fun _ h=>zJ (zx (zq (zm (om e (zy h fun q14 h=>oV (zX e e q14) (oa e (zK (hL2 h 15))))))))))
  exact ws (ar e (bn (rL2 _ (bn (zf (r1 e) k0 (iS h ▸ ⟨e,e⟩))))))
 exact oG g12 (zo e) (oG g12 (zo e) (zd h fun y13 hy13 h=>oG g12 (vX e e sl79 hy13) (oG g12 (vI e GItem.f1 zc3 y13.number) (oG g12 (za ty2 e) (oG g12 (zo e) (oG g12 (zD e e) (oV (zh e g12 e) (hJ11 h 8))))))))


theorem zhi {a_x a_n_ zW zam r} (h:zdv a_x a_n_=some r):Ctr Tryz.prog 119 [ptrv zW (Fld.id GMkOT),isv a_n_] [boxE zW (GMkO a_x zam),vecE zam a_x.l] (Pt [isv r.1] [boxE zW (GMkO r.2 zam),vecE zam r.2.l]):=by
 unfold zdv at h
 refine zi Tryz.func119 e fun w0 S0 hT=>ws (oT (tB e (an e (ws (an e (ws (an e (ss (an e (zr (zhO (zau) (lP h Tok none (fun q2 g2=>[(5,appv g2 q2.1),(6,isv q2.2.1),(7,isv q2.2.2)]) (fun q2 g2=>[tokE g2]) (zB (j:=5) e zbI (zB (j:=6) e hI (zB (j:=7) e hI zan))) k1 fun L3 q2 g2 Q666 h hL3 eL3 rL3=>ss (om e (oV (vI e GNode.f6 zg8 a_n_.root) (oV (za ty3 e) (oV (z7 e e) (rn (ze h e (fun _ h=>?_) (fun _ h=>xn (eL3 _ _ (zw (zq (ws (an e (ws (oa e (an e (ss ?_))))))))))))))))))))))))))))
 ·refine wk (zE (zr (ws (oV (vI e GNode.f4 zfS a_n_.items) (oV (za ty79 e) (om e (zd h fun y335 hy335 h=>oV (vX e e sl79 hy335) (oV (za ty124 e) (oT (zC _ ze124 fun b336=>oT (tS ty124 e e p0 y335 (rn (ss (oV (zV e GItem.f2 zjF) (oT (tL ty4 e p0 y335.has (oV (zal e) (rn (jw h Unit (fun q337 g337=>[(6,isv q337.1)]) (fun q337 g337=>[boxE b336 (q337.2:GItem)]) k1 (fun q337 g337 h=>?_) fun J338 h hJ338=>ze h e (fun _ h=>?_) (fun _ h=>zJ (hJ338 h () 0)))))))))))))))))))))
  ·exact ws (oV (zV e GItem.f2 zjF) (oT (tS ty4 e e p0 ({ q337.2 with has:=false }) (rn (zm (om e (oT (tL ty124 e p0 ({ q337.2 with has:=false }) (oT (zN (l:=([{ q337.2 with has:=false }]:(List GItem))) el79 (.cons e hI .nil) e e (zag h fun q352 h=>oT (za7 (l:=q2.1) (m:=([{ q337.2 with has:=false }]:(List GItem))) zmd e hI e zG (.there .here) q352 fun t351=>oa e (rb (zq (zm (om e (zy h fun q353 h=>oV (zX e e q353) (oa e (zK (hL3 h t351 26))))))))))))))))))))
  refine zE (zr (lO 6 h e fun L340 q339 Q349 h hL340 eL340 rL340=>ss (oV (vI e GNode.f4 zfS a_n_.items) (oV (za ty79 e) (oV (vI e GNode.f6 zg8 a_n_.root) (oV (za ty3 e) (zad h fun q345 h=>oV (zfz (l:=a_n_.items) e hI sl79 (.inl ⟨e,e⟩) (.inr ⟨_,e,e⟩) q345.1 q345.2.1 q345.2.2) (om e (zd h fun y346 hy346 h=>oT (tC (zpt hy346) hT (s2 e e) k0 (rn (ze h e (fun _ h=>?_) (fun _ h=>xn (eL340 _ _ (zw (zq (ws (om e (oV (zV e GItem.f1 zc3) (oT (tS ty2 e e p0 ({ y335 with number:=q339 }) (rn (zm (om e (zy h fun q348 h=>oV (zX e e q348) (oa e (zK ?_)))))))))))))))))))))))))))
  ·exact wk (zr (zm (om e (zy h fun q347 h=>oV (zX e e q347) (oa e (rb (hL340 h 11)))))))
  exact hJ338 h () 13
 refine oV (vI e GNode.f6 zg8 a_n_.root) (oV (za ty3 e) (an e (zr (lP h Tok g2 (fun q354 g354=>[(5,appv g354 q354.1),(9,isv q354.2.1),(10,isv q354.2.2.1),(11,isv q354.2.2.2.1),(12,isv q354.2.2.2.2)]) (fun q354 g354=>[tokE g354]) (zB (j:=5) e hI (zB (j:=9) e hI (zB (j:=10) e hI (zB (j:=11) e hI (zB (j:=12) e hI zan))))) k1 fun L355 q354 g354 Q664 h hL355 eL355 rL355=>ss (om e (oV (vI e GNode.f4 zfS a_n_.items) (oV (za ty79 e) (oV (vN e sl79) (oV (z7 e e) (rn (ze h e (fun _ h=>?_) (fun _ h=>xn (eL355 _ _ (zw (zq (ss (an e (zr (lP h Unit () (fun q601 g601=>[(11,isv q601.1),(15,isv q601.2)]) (fun q601 g601=>[]) (zB (j:=11) e hI (zB (j:=15) e hI zan)) k0 fun L602 q601 g601 Q663 h hL602 eL602 rL602=>ss (om e (om e (oV (zlN (l:=q354.1) e zG sl79) (oV (z7 e e) (rn (ze h e (fun _ h=>?_) (fun _ h=>xn (eL602 _ _ ?_)))))))))))))))))))))))))))
 ·refine wk (zE (zr (ws (oV (vI e GNode.f4 zfS a_n_.items) (oV (za ty79 e) (om e (zd h fun y558 hy558 h=>oV (vX e e sl79 hy558) (oV (za ty124 e) (oT (zC _ ze124 fun b559=>oT (tS ty124 e e p0 y558 (rn (ss (oV (zV e GItem.f2 zjF) (oT (tL ty4 e p0 y558.has (oV (zal e) (rn (jw h Unit (fun q560 g560=>[(13,ptrv b559 (Fld.id GItem))]) (fun q560 g560=>[boxE b559 (q560:GItem)]) k1 (fun q560 g560 h=>?_) fun J561 h hJ561=>ze h e (fun _ h=>?_) (fun _ h=>zJ (hJ561 h () 0)))))))))))))))))))))
  ·refine ws (om e (om e (jO 8 109 h (fun q591 h=>?_) fun J592 h hJ592=>oI h (fun g593 h=>?_) fun g593 h=>oG g593 (zo e) (oG g593 (zo e) (jO 5 108 h (fun q594 h=>?_) fun J595 h hJ595=>oI h (fun g596 h=>?_) fun g596 h=>oN g596 (oN g596 (oN g596 (oN g596 (oG g593 (zg e g596 e) (hJ595 h 5))))))))))
   ·exact an e (ws (oV (zV e GItem.f2 zjF) (oT (tS ty4 e e p0 ({ q560 with has:=false }) (rn (ws (oV (zV e GItem.f1 zc3) (oT (tL ty2 e p0 q560.number (oa e (an e (zm (om e (oT (tL ty124 e p0 ({ q560 with has:=false }) (oT (zN (l:=([{ q560 with has:=false }]:(List GItem))) el79 (.cons e hI .nil) e e (zag h fun q599 h=>oT (za7 (l:=q354.1) (m:=([{ q560 with has:=false }]:(List GItem))) zmd e hI e zG (.there .here) q599 fun t598=>oa e (rb (zq (zm (om e (zy h fun q600 h=>oV (zX e e q600) (oa e (zK (hL355 h t598 37)))))))))))))))))))))))))))
   ·exact oN g593 (oN g593 (oU (oU (oU (oU (oN g593 (oV (zh e g593 e) (hJ592 h 8))))))))
   ·exact oV (zg e g593 e) (hJ592 h 4)
   exact oG g596 (zV e GItem.f1 zc3) (oH g596 (tL ty2 e p0 q560.number (oG g596 (zo e) (oG g596 (zjo e e) (oG g593 (zh e g596 e) (hJ595 h 5))))))
  refine ws (oV (zV e GItem.f1 zc3) (oT (tS ty2 e e p0 ({ y558 with number:=0 }) (rn (ws (an e (zr (lP h Unit () (fun q562 g562=>[(13,ptrv b559 (Fld.id GItem)),(14,isv q562.1)]) (fun q562 g562=>[boxE b559 (q562.2:GItem)]) (zB (j:=13) e hI (zB (j:=14) e hI zan)) k1 fun L563 q562 g562 Q590 h hL563 eL563 rL563=>ss (om e (om e (oV (zlN (l:=q354.1) e zG sl79) (oV (z7 e e) (rn (ze h e (fun _ h=>?_) (fun _ h=>xn (eL563 _ _ (zw (hJ561 h () 8))))))))))))))))))
  refine wk (zE (jw h Unit (fun q577 g577=>[(13,ptrv b559 (Fld.id GItem))]) (fun q577 g577=>[boxE b559 (q577:GItem)]) k1 (fun q577 g577 h=>?_) fun J578 h hJ578=>zr (ss (om e (om e (zd h fun y579 hy579 h=>oV (zk7 (l:=q354.1) e zG e sl79 hy579) (oV (vI e GItem.f1 zc3 y579.number) (oV (za ty2 e) (oV (zD e e) (rn (ze h e (fun _ h=>?_) (fun _ h=>wk (zE (zdH 13 .here e (fun o581 hn582=>zH (.v 0 (.v 1 (.v 2 (.v 3 (.v 4 (.v 5 (.v 6 (.v 7 (.v 8 (.v 9 (.v 10 (.v 11 .nil)))))))))))) moOrd (by kernel_rfl) (rm e e (zj e (zD e e) (rm e e (jD 9 92 h (fun q583 h=>?_) fun J584 h hJ584=>rJ h (fun g585 h=>?_) fun g585 h=>rG e g585 (zo e) (rG e g585 (zo e) (zd h fun y586 hy586 h=>rG e g585 (zk7 (l:=q354.1) e zG e sl79 hy586) (rG e g585 (vI e GItem.f1 zc3 y586.number) (rG e g585 (za ty2 e) (rG e g585 (zhl e GItem.f1 zc3) ?_))))))))))))))))))))))))
  ·exact zm (om e (zy h fun q589 h=>oV (zX e e q589) (oa e (zK (hL563 h () 10)))))
  ·exact ws (om e (zd h fun y580 hy580 h=>oT (tC (zbw hy580) hT (s2 e e) (a2 (a2 k0)) (rn (ws (ar e (zz (bn (rL563 _ (bn (bn (rL355 _ (bn (zf (.as e (zcU (α:=GItem)) .nil) k2 (iS h ▸ ⟨e,e⟩)))))))))))))))
  ·refine z6 (zaZ 13 hn582 e (zq (ze h e (fun _ h=>?_) (fun _ h=>zJ (zx (hJ578 h () 12))))))
   exact zm (om e (om e (zd h fun y587 hy587 h=>oV (zk7 (l:=q354.1) e zG e sl79 hy587) (oV (vI e GItem.f1 zc3 y587.number) (oV (za ty2 e) (zy h fun q588 h=>oV (zX e e q588) (oV (zV e GItem.f1 zc3) (oT (tS ty2 e e p0 ({ q562.2 with number:=(y587.number + 1) }) (rb (hJ578 h () 19)))))))))))
  ·exact rP e g585 (rP e g585 (rP e g585 (rP e g585 (rP e g585 (rP e g585 (rP e g585 (rP e g585 (zj e (zh e g585 e) (hJ584 h 9)))))))))
  exact rG e g585 (vP ty2 e m0 q562.2.number) (rG e g585 (zbF e e) (zj e (zg e g585 e) (hJ584 h 9)))
 ·refine wk (zE (zr (ws (an e (zr (lP h Unit () (fun q633 g633=>[(11,isv q633.1),(16,isv q633.2)]) (fun q633 g633=>[]) (zB (j:=11) e hI (zB (j:=16) e hI zan)) k0 fun L634 q633 g633 Q659 h hL634 eL634 rL634=>ss (om e (om e (oV (z7 e e) (rn (ze h e (fun _ h=>?_) (fun _ h=>xn (eL634 _ _ (zw (zx (zq (zm (om e (zy h fun q658 h=>oV (zX e e q658) (oa e (zK (hL602 h () 15))))))))))))))))))))))
  refine wk (zE (zr (zH (.v 0 (.v 1 (.v 2 (.v 3 (.v 4 (.v 5 (.v 6 (.v 7 (.v 8 (.v 9 (.v 10 (.v 11 (.v 12 (.v 13 (.v 14 (.v 15 (.v 16 (.v 17 (.v 18 (.v 19 (.v 20 (.v 21 (.v 22 (.v 23 (.v 24 (.v 25 (.v 26 (.v 27 .nil)))))))))))))))))))))))))))) moOrd (by kernel_rfl) (rm e e (rm e e (jD 12 141 h (fun q647 h=>?_) fun J648 h hJ648=>rJ h (fun g649 h=>?_) fun g649 h=>rG e g649 (zo e) (rG e g649 (zo e) (zd h fun y650 hy650 h=>rG e g649 (zk7 (l:=q354.1) e zG e sl79 hy650) (rG e g649 (vI e GItem.f0 zmk y650.name) (rG e g649 (za ty9 e) (rG e g649 (zo e) (rG e g649 (zo e) (zd h fun y651 hy651 h=>rG e g649 (zk7 (l:=q354.1) e zG e sl79 hy651) (rG e g649 (vI e GItem.f0 zmk y651.name) (rG e g649 (za ty9 e) (rG e g649 (zb6 eq9 e e) (zj e (zg e g649 e) (hJ648 h 12))))))))))))))))))
  ·refine rm e e (jD 12 154 h (fun q652 h=>?_) fun J653 h hJ653=>rJ h (fun g654 h=>?_) fun g654 h=>rG e g654 (zo e) (rG e g654 (zo e) (zd h fun y655 hy655 h=>rG e g654 (zk7 (l:=q354.1) e zG e sl79 hy655) (rG e g654 (vI e GItem.f1 zc3 y655.number) (rG e g654 (za ty2 e) (rG e g654 (zo e) (rG e g654 (zo e) (zd h fun y656 hy656 h=>rG e g654 (zk7 (l:=q354.1) e zG e sl79 hy656) (rG e g654 (vI e GItem.f1 zc3 y656.number) (rG e g654 (za ty2 e) (rG e g654 (zD e e) (zj e (zg e g654 e) (hJ653 h 12)))))))))))))
   ·exact zj e (zaj e) (z6 (zx (zq (zm (om e (zy h fun q657 h=>oV (zX e e q657) (oa e (zK (hL634 h () 14)))))))))
   exact rP e g654 (rP e g654 (rP e g654 (rP e g654 (rP e g654 (rP e g654 (rP e g654 (rP e g654 (rP e g654 (rP e g654 (rP e g654 (zj e (zh e g654 e) (hJ653 h 12))))))))))))
  exact rP e g649 (rP e g649 (rP e g649 (rP e g649 (rP e g649 (rP e g649 (rP e g649 (rP e g649 (rP e g649 (rP e g649 (rP e g649 (zj e (zh e g649 e) (hJ648 h 12))))))))))))
 refine zw (zq (ss (om e (rn (jw h Unit (fun q660 g660=>[]) (fun q660 g660=>[boxE zW (GMkO q660 zam),vecE zam q660.l]) (a1 (a1 k0)) (fun q660 g660 h=>?_) fun J661 h hJ661=>ze h e (fun _ h=>?_) (fun _ h=>zJ (hJ661 h () 0)))))))
 ·exact ws (om e (ar e (zf (.as e zG .nil) k2 (iS h ▸ ⟨e,e⟩))))
 exact zm (om e (zd h fun y662 hy662 h=>oT (tC (zbw hy662) hT (s2 e e) (a1 (a1 k0)) (zK (hJ661 h () 2)))))


theorem zfm {a_c a_v r} (h:zcC a_c a_v=some r):Ctr Tryz.prog 31 [isv a_c,isv a_v] [] (Pt [isv r] []):=by
 unfold zcC at h
 refine zi Tryz.func31 e fun w0 S0 hT=>ws (oT (tB e (an e (ws (oV (vI e GCon.f0 znO a_c.has) (oV (za ty4 e) (oV (zal e) (om e (jO 21 29 h (fun q1 h=>?_) fun J2 h hJ2=>oI h (fun g3 h=>?_) fun g3 h=>oG g3 (vI e GCon.f1 zlB a_c.hasLow) (oG g3 (za ty4 e) (oG g3 (zal e) (oG g3 (zo e) (jO 5 17 h (fun q4 h=>?_) fun J5 h hJ5=>oI h (fun g6 h=>?_) fun g6 h=>oG g6 (zo e) (oG g6 (vI e GCon.f4 zkB a_c.low) (oG g6 (za ty2 e) (oG g6 (zbF e e) (oG g3 (zg e g6 e) (hJ5 h 5))))))))))))))))))
 ·exact ar e (zf (r1 e) k0 (iS h ▸ ⟨e,e⟩))
 ·exact oN g3 (oN g3 (oN g3 (oN g3 (oU (oU (oU (oU (oN g3 (oN g3 (oU (oU (oU (oU (oU (oU (oU (oU (oU (oN g3 (oV (zh e g3 e) (hJ2 h 21)))))))))))))))))))))
 ·refine oG g3 (zo e) (jO 10 28 h (fun q7 h=>?_) fun J8 h hJ8=>oI h (fun g9 h=>?_) fun g9 h=>oN g9 (oN g9 (oN g9 (oN g9 (oU (oU (oU (oU (oN g9 (oG g3 (zg e g9 e) (hJ8 h 10)))))))))))
  ·exact oV (zg e g3 e) (hJ2 h 8)
  refine oG g9 (vI e GCon.f2 zls a_c.hasHigh) (oG g9 (za ty4 e) (oG g9 (zal e) (oG g9 (zo e) (jO 5 27 h (fun q10 h=>?_) fun J11 h hJ11=>oI h (fun g12 h=>?_) fun g12 h=>oG g12 (zo e) (oG g12 (vI e GCon.f5 zkr a_c.high) (oG g12 (za ty2 e) (oG g12 (zjo e e) (oG g9 (zg e g12 e) (hJ11 h 5)))))))))
  ·exact oG g3 (zh e g9 e) (hJ8 h 6)
  exact oN g12 (oN g12 (oN g12 (oN g12 (oG g9 (zh e g12 e) (hJ11 h 5)))))
 exact oN g6 (oN g6 (oN g6 (oN g6 (oG g3 (zh e g6 e) (hJ5 h 5)))))


theorem zbR {a_s r} (h:za8 a_s=some r):Ctr Tryz.prog 60 [isv a_s] [] (Pt [isv r] []):=by
 unfold za8 at h
 refine zi Tryz.func60 e fun w0 S0 hT=>ws (an e (zE (ztg e e (wk (zE (zH (.v 0 (.v 1 (.v 2 (.v 3 (.v 4 (.v 5 (.v 6 (.v 7 (.v 8 (.v 9 (.v 10 (.v 11 (.v 12 (.v 13 (.v 14 (.v 15 (.v 16 (.v 17 (.v 18 (.v 19 (.v 20 (.v 21 (.v 22 (.v 23 (.v 24 (.v 25 (.v 26 (.v 27 (.v 28 (.v 29 (.v 30 (.v 31 (.v 32 (.v 33 (.v 34 (.v 35 (.v 36 (.v 37 (.v 38 (.v 39 (.v 40 (.v 41 (.v 42 (.v 43 (.v 44 (.v 45 (.v 46 .nil))))))))))))))))))))))))))))))))))))))))))))))) moOrd (by kernel_rfl) (rm e e (zd h fun y1 hy1 h=>zj e (vX e e sl22 hy1) (zj e (za ty5 e) (zj e (zdL Tryz.underlying5 Tryz.underlying168 e) (rm e e (zd h fun y2 hy2 h=>zj e (vX e e sl22 hy2) (zj e (za ty5 e) (zj e (zdL Tryz.underlying5 Tryz.underlying168 e) (zag h fun q3 h=>zj e (zfo e e q3) (zj e (zeP e e) (rm e e (zd h fun y4 hy4 h=>zj e (vX e e sl22 hy4) (zj e (za ty5 e) (zj e (zdL Tryz.underlying5 Tryz.underlying168 e) (zag h fun q5 h=>zj e (zfo e e q5) (zj e (zeP e e) (rm e e ?_)))))))))))))))))))))))
 refine zd h fun y6 hy6 h=>zj e (vX e e sl22 hy6) (zj e (za ty5 e) (zj e (zdL Tryz.underlying5 Tryz.underlying168 e) (zag h fun q7 h=>zj e (zfo e e q7) (zj e (zeP e e) (rm e e (zd h fun y8 hy8 h=>zj e (vX e e sl22 hy8) (zj e (za ty5 e) (zj e (zdL Tryz.underlying5 Tryz.underlying168 e) (zag h fun q9 h=>zj e (zfo e e q9) (zj e (zeP e e) (rm e e (zd h fun y10 hy10 h=>zj e (vX e e sl22 hy10) (zj e (za ty5 e) (zj e (zdL Tryz.underlying5 Tryz.underlying168 e) (zag h fun q11 h=>zj e (zfo e e q11) (zj e (zeP e e) (rm e e (zd h fun y12 hy12 h=>zj e (vX e e sl22 hy12) (zj e (za ty5 e) (zj e (zdL Tryz.underlying5 Tryz.underlying168 e) (zag h fun q13 h=>zj e (zfo e e q13) ?_)))))))))))))))))))))
 exact zj e (zeP e e) (rm e e (zd h fun y14 hy14 h=>zj e (vX e e sl22 hy14) (zj e (za ty5 e) (zj e (zdL Tryz.underlying5 Tryz.underlying168 e) (zag h fun q15 h=>zj e (zfo e e q15) (zj e (zeP e e) (zj e (zaj e) (z6 (zq (zaQ (zf (r1 e) k0 (iS h ▸ ⟨e,e⟩))))))))))))


theorem zio {a_p r} (h:zcW a_p=some r):Ctr Tryz.prog 33 [isv a_p] [] (Pt [isv r] []):=by
 unfold zcW at h
 refine zi Tryz.func33 e fun w0 S0 hT=>ws (an e (ws (om e (om e (oV (vN e sl22) (om e (oV (vN e sl22) (zad h fun q1 h=>oV (zuX (l:=a_p) e hI sl22 e e q1.1 q1.2) (an e (zE (zr (lO 0 h e fun L3 q2 Q194 h hL3 eL3 rL3=>ss (om e (oV (vN e sl22) (oV (zbc e e) (rn (ze h e (fun _ h=>?_) (fun _ h=>xn (eL3 _ _ (zw (zq (ws (ar e (zf (r1 e) k0 (iS h ▸ ⟨e,e⟩)))))))))))))))))))))))))
 refine wk (zr (ws (om e (zd h fun y99 hy99 h=>oV (vX e e sl22 hy99) (oV (za ty5 e) (an e (ss (om e (oV (zen e e) (rn (ze h e (fun _ h=>?_) (fun _ h=>wk (ws (om e (oV (zvc zo1 ar130 e) (oV (zuP hT ty5 e _ ziI) (an e (ws (om e (oV (zkl e e) (oV (zlX Tryz.underlying5 Tryz.underlying3 e) (an e (ws (om e (zag h fun q140 h=>oV (zpZ e e q140) (zag h fun q141 h=>oV (zvb ziI ar133 e q141) ?_))))))))))))))))))))))))))
 ·refine ws (om e (zad h fun q100 h=>oV (zfz (l:=q2) e hI sl22 (.inr ⟨_,e,e⟩) (.inl ⟨e,e⟩) q100.1 q100.2.1 q100.2.2) (an e (ss (om e (oV (vN e sl22) (oV (zbc e e) (om e (jO 5 31 h (fun q101 h=>?_) fun J102 h hJ102=>oI h (fun g103 h=>?_) fun g103 h=>oN g103 (oN g103 (oN g103 (oN g103 (oV (zg e g103 e) (hJ102 h 5))))))))))))))
  ·refine rn (jW 0 h (fun q105 h=>?_) fun J106 h hJ106=>ze h e (fun _ h=>?_) (fun _ h=>zJ (hJ106 h 0)))
   ·exact xn (zw (hL3 h 19))
   refine ws (om e (zad h fun q107 h=>oV (zfz (l:=((q2.take ((q2.length:Int)).toNat).drop ((1:Int)).toNat)) e hI sl22 (.inr ⟨_,e,e⟩) (.inl ⟨e,e⟩) q107.1 q107.2.1 q107.2.2) (an e (zE (zH (.v 0 (.v 1 (.v 2 (.v 3 (.v 4 (.v 6 (.v 7 (.t 5 (.t 8 (.v 9 (.v 10 (.v 11 (.v 12 .nil))))))))))))) moOrd (by kernel_rfl) (rm e e (zj e (vN e sl22) (zj e (zbc e e) (rm e e (jD 9 46 h (fun q108 h=>?_) fun J109 h hJ109=>rJ h (fun g110 h=>?_) fun g110 h=>rP e g110 (rP e g110 (rP e g110 (zcO e e (dj:=37) e g110 (zcO e e (dj:=37) e g110 (rP e g110 (rP e g110 (rP e g110 (zj e (zg e g110 e) (hJ109 h 9)))))))))))))))))))
   ·refine z6 (zq (ze h e (fun _ h=>?_) (fun _ h=>zJ (hJ106 h 8))))
    refine ws (om e (zad h fun q114 h=>oV (zfz (l:=((((q2.take ((q2.length:Int)).toNat).drop ((1:Int)).toNat).take ((((q2.take ((q2.length:Int)).toNat).drop ((1:Int)).toNat).length:Int)).toNat).drop ((8:Int)).toNat)) e hI sl22 (.inr ⟨_,e,e⟩) (.inl ⟨e,e⟩) q114.1 q114.2.1 q114.2.2) (an e (zr (lO 0 h e fun L116 q115 Q139 h hL116 eL116 rL116=>zE (zE (zH (.v 0 (.v 1 (.v 2 (.v 3 (.v 4 (.v 6 (.v 7 (.v 10 (.v 11 (.v 13 (.v 14 (.t 5 (.t 8 (.v 9 (.t 12 (.t 15 (.v 16 (.v 17 (.v 18 (.v 19 (.v 20 .nil))))))))))))))))))))) moOrd (by kernel_rfl) (rm e e (zj e (vN e sl22) (zj e (zbc e e) (rm e e (jD 17 69 h (fun q128 h=>?_) fun J129 h hJ129=>rJ h (fun g130 h=>?_) fun g130 h=>rP e g130 (rP e g130 (rP e g130 (rP e g130 (rP e g130 (rP e g130 (rP e g130 (zcO e e (dj:=52) e g130 (zcO e e (dj:=52) e g130 (rP e g130 (zcO e e (dj:=52) e g130 (zcO e e (dj:=52) e g130 (rP e g130 (rP e g130 ?_)))))))))))))))))))))))))
    ·refine z6 (zq (ze h e (fun _ h=>?_) (fun _ h=>xn (eL116 _ _ (zw (hJ106 h 17))))))
     exact wk (zr (zm (om e (zad h fun q138 h=>oV (zfz (l:=q115) e hI sl22 (.inr ⟨_,e,e⟩) (.inl ⟨e,e⟩) q138.1 q138.2.1 q138.2.2) (oa e (rb (hL116 h 9)))))))
    ·exact rG e g130 (zo e) (rG e g130 (zo e) (zad h fun q131 h=>rG e g130 (zfz (l:=q115) e hI sl22 (.inr ⟨_,e,e⟩) (.inl ⟨e,e⟩) q131.1 q131.2.1 q131.2.2) (rG e g130 (zo e) (zad h fun q132 h=>rG e g130 (zfz (l:=q115) e hI sl22 (.inr ⟨_,e,e⟩) (.inl ⟨e,e⟩) q132.1 q132.2.1 q132.2.2) (rG e g130 (zo e) (zad h fun q133 h=>rG e g130 (zfz (l:=q115) e hI sl22 (.inr ⟨_,e,e⟩) (.inl ⟨e,e⟩) q133.1 q133.2.1 q133.2.2) (zd h fun y134 hy134 h=>rH e g130 (tC (zbR hy134) hT (s1 e) k0 (zd h fun y135 hy135 h=>rH e g130 (tC (zbR hy135) hT (s1 e) k0 (rG e g130 (zeP e e) (zd h fun y136 hy136 h=>rH e g130 (tC (zbR hy136) hT (s1 e) k0 (zd h fun y137 hy137 h=>rH e g130 (tC (zbR hy137) hT (s1 e) k0 (rG e g130 (zeP e e) (rG e g130 (zeP e e) (rG e g130 (znQ e e) (rG e g130 (zmj e e) (zj e (zh e g130 e) (hJ129 h 17)))))))))))))))))))))
    exact rP e g130 (rP e g130 (zj e (zg e g130 e) (hJ129 h 17)))
   exact rG e g110 (zo e) (rG e g110 (zo e) (zad h fun q111 h=>rG e g110 (zfz (l:=((((q2.take ((q2.length:Int)).toNat).drop ((1:Int)).toNat).take ((((q2.take ((q2.length:Int)).toNat).drop ((1:Int)).toNat).length:Int)).toNat).drop ((8:Int)).toNat)) e hI sl22 (.inr ⟨_,e,e⟩) (.inl ⟨e,e⟩) q111.1 q111.2.1 q111.2.2) (zd h fun y112 hy112 h=>rH e g110 (tC (zbR hy112) hT (s1 e) k0 (zd h fun y113 hy113 h=>rH e g110 (tC (zbR hy113) hT (s1 e) k0 (rG e g110 (zeP e e) (rG e g110 (znQ e e) (rG e g110 (zmj e e) (zj e (zh e g110 e) (hJ109 h 9)))))))))))
  exact oG g103 (zo e) (zd h fun y104 hy104 h=>oH g103 (tC (zbR hy104) hT (s1 e) k0 (oG g103 (znQ e e) (oG g103 (zmj e e) (oV (zh e g103 e) (hJ102 h 5))))))
 refine oV (zuR hT ty132 e q141 _ zo1) (oT (zC _ ze132 fun b142=>oT (tS ty132 e e p0 (tab2 (shr8 (tab1 y99) (4:UInt64).toNat)) (zI (z8 6 .here e) (rn (ws (om e (rn (zr (ws (oV (zD e e) (an e (ze h e (fun _ h=>?_) (fun _ h=>ws (oV (zD e e) (an e (ze h e (fun _ h=>?_) (fun _ h=>ws (oV (zD e e) (an e (ze h e (fun _ h=>?_) (fun _ h=>ws (ar e (zbm (zbm (rL3 _ (bn (zf (r1 e) k0 (iS h ▸ ⟨e,e⟩)))))))))))))))))))))))))))))
 ·refine zE (zE (zH (.v 0 (.v 1 (.v 2 (.v 3 (.v 4 (.v 5 (.v 6 (.v 7 (.v 8 (.v 9 (.v 10 (.v 11 (.v 12 (.v 13 (.v 14 (.v 15 (.v 16 (.v 17 (.v 18 .nil))))))))))))))))))) moOrd (by kernel_rfl) (rm e e (zj e (vN e sl22) (zj e (z7 e e) (rm e e (jD 7 95 h (fun q143 h=>?_) fun J144 h hJ144=>rJ h (fun g145 h=>?_) fun g145 h=>rG e g145 (zo e) (zd h fun y146 hy146 h=>rG e g145 (vX e e sl22 hy146) (rG e g145 (za ty5 e) (rG e g145 (vI e GAcc.f0 znZ ((tab2 (shr8 (tab1 y99) (4:UInt64).toNat)).lo)) (rG e g145 (za ty5 e) (rG e g145 (zen e e) (zj e (zg e g145 e) (hJ144 h 7))))))))))))))
  ·refine rm e e (jD 7 103 h (fun q147 h=>?_) fun J148 h hJ148=>rJ h (fun g149 h=>?_) fun g149 h=>rG e g149 (vI e GAcc.f1 zom ((tab2 (shr8 (tab1 y99) (4:UInt64).toNat)).hi)) (rG e g149 (za ty5 e) (rG e g149 (zo e) (zd h fun y150 hy150 h=>rG e g149 (vX e e sl22 hy150) (rG e g149 (za ty5 e) (rG e g149 (zen e e) (zj e (zg e g149 e) (hJ148 h 7))))))))
   ·refine z6 (zq (ze h e (fun _ h=>?_) (fun _ h=>wk (zm (om e (zad h fun q151 h=>oV (zfz (l:=q2) e hI sl22 (.inr ⟨_,e,e⟩) (.inl ⟨e,e⟩) q151.1 q151.2.1 q151.2.2) (oa e (rb (zx (hL3 h 37))))))))))
    exact ws (ar e (zz (zbm (zbm (rL3 _ (bn (zf (r1 e) k0 (iS h ▸ ⟨e,e⟩))))))))
   exact rP e g149 (rP e g149 (rP e g149 (rP e g149 (rP e g149 (rP e g149 (zj e (zh e g149 e) (hJ148 h 7)))))))
  exact rP e g145 (rP e g145 (rP e g145 (rP e g145 (rP e g145 (rP e g145 (zj e (zh e g145 e) (hJ144 h 7)))))))
 ·refine zE (zE (zH (.v 0 (.v 1 (.v 2 (.v 3 (.v 4 (.v 5 (.v 6 (.v 7 (.v 8 (.v 9 (.v 10 (.v 11 (.v 12 (.v 13 (.v 14 (.v 15 (.v 16 (.v 17 (.v 18 (.v 19 (.v 20 (.v 21 (.v 22 (.v 23 (.v 24 (.v 25 (.v 26 (.v 27 (.v 28 (.v 29 (.v 30 .nil))))))))))))))))))))))))))))))) moOrd (by kernel_rfl) (rm e e (zj e (vN e sl22) (zj e (z7 e e) (rm e e (jD 7 118 h (fun q152 h=>?_) fun J153 h hJ153=>rJ h (fun g154 h=>?_) fun g154 h=>rG e g154 (zo e) (zd h fun y155 hy155 h=>rG e g154 (vX e e sl22 hy155) (rG e g154 (za ty5 e) (rG e g154 (vI e GAcc.f0 znZ ((tab2 (shr8 (tab1 y99) (4:UInt64).toNat)).lo)) (rG e g154 (za ty5 e) (rG e g154 (zen e e) (zj e (zg e g154 e) (hJ153 h 7))))))))))))))
  ·refine rm e e (jD 7 126 h (fun q156 h=>?_) fun J157 h hJ157=>rJ h (fun g158 h=>?_) fun g158 h=>rG e g158 (vI e GAcc.f1 zom ((tab2 (shr8 (tab1 y99) (4:UInt64).toNat)).hi)) (rG e g158 (za ty5 e) (rG e g158 (zo e) (zd h fun y159 hy159 h=>rG e g158 (vX e e sl22 hy159) (rG e g158 (za ty5 e) (rG e g158 (zen e e) (zj e (zg e g158 e) (hJ157 h 7))))))))
   ·refine rm e e (jD 5 132 h (fun q160 h=>?_) fun J161 h hJ161=>rJ h (fun g162 h=>?_) fun g162 h=>rG e g162 (zo e) (zd h fun y163 hy163 h=>rG e g162 (vX e e sl22 hy163) (rG e g162 (za ty5 e) (rG e g162 (zen e e) (zj e (zg e g162 e) (hJ161 h 5))))))
    ·refine rm e e (jD 5 138 h (fun q164 h=>?_) fun J165 h hJ165=>rJ h (fun g166 h=>?_) fun g166 h=>rG e g166 (zo e) (zd h fun y167 hy167 h=>rG e g166 (vX e e sl22 hy167) (rG e g166 (za ty5 e) (rG e g166 (zen e e) (zj e (zg e g166 e) (hJ165 h 5))))))
     ·refine z6 (zq (ze h e (fun _ h=>?_) (fun _ h=>wk (zm (om e (zad h fun q168 h=>oV (zfz (l:=q2) e hI sl22 (.inr ⟨_,e,e⟩) (.inl ⟨e,e⟩) q168.1 q168.2.1 q168.2.2) (oa e (rb (zx (hL3 h 43))))))))))
      exact ws (ar e (zz (zbm (zbm (rL3 _ (bn (zf (r1 e) k0 (iS h ▸ ⟨e,e⟩))))))))
     exact rP e g166 (rP e g166 (rP e g166 (rP e g166 (zj e (zh e g166 e) (hJ165 h 5)))))
    exact rP e g162 (rP e g162 (rP e g162 (rP e g162 (zj e (zh e g162 e) (hJ161 h 5)))))
   exact rP e g158 (rP e g158 (rP e g158 (rP e g158 (rP e g158 (rP e g158 (zj e (zh e g158 e) (hJ157 h 7)))))))
  exact rP e g154 (rP e g154 (rP e g154 (rP e g154 (rP e g154 (rP e g154 (zj e (zh e g154 e) (hJ153 h 7)))))))
 refine zE (zE (zH (.v 0 (.v 1 (.v 2 (.v 3 (.v 4 (.v 5 (.v 6 (.v 7 (.v 8 (.v 9 (.v 10 (.v 11 (.v 12 (.v 13 (.v 14 (.v 15 (.v 16 (.v 17 (.v 18 (.v 19 (.v 20 (.v 21 (.v 22 (.v 23 (.v 24 (.v 25 (.v 26 (.v 27 (.v 28 (.v 29 (.v 30 (.v 31 (.v 32 (.v 33 (.v 34 (.v 35 (.v 36 (.v 37 (.v 38 (.v 39 (.v 40 (.v 41 (.v 42 .nil))))))))))))))))))))))))))))))))))))))))))) moOrd (by kernel_rfl) (rm e e (zj e (vN e sl22) (zj e (z7 e e) (rm e e (jD 7 153 h (fun q169 h=>?_) fun J170 h hJ170=>rJ h (fun g171 h=>?_) fun g171 h=>rG e g171 (zo e) (zd h fun y172 hy172 h=>rG e g171 (vX e e sl22 hy172) (rG e g171 (za ty5 e) (rG e g171 (vI e GAcc.f0 znZ ((tab2 (shr8 (tab1 y99) (4:UInt64).toNat)).lo)) (rG e g171 (za ty5 e) (rG e g171 (zen e e) (zj e (zg e g171 e) (hJ170 h 7))))))))))))))
 ·refine rm e e (jD 7 161 h (fun q173 h=>?_) fun J174 h hJ174=>rJ h (fun g175 h=>?_) fun g175 h=>rG e g175 (vI e GAcc.f1 zom ((tab2 (shr8 (tab1 y99) (4:UInt64).toNat)).hi)) (rG e g175 (za ty5 e) (rG e g175 (zo e) (zd h fun y176 hy176 h=>rG e g175 (vX e e sl22 hy176) (rG e g175 (za ty5 e) (rG e g175 (zen e e) (zj e (zg e g175 e) (hJ174 h 7))))))))
  ·refine rm e e (jD 5 167 h (fun q177 h=>?_) fun J178 h hJ178=>rJ h (fun g179 h=>?_) fun g179 h=>rG e g179 (zo e) (zd h fun y180 hy180 h=>rG e g179 (vX e e sl22 hy180) (rG e g179 (za ty5 e) (rG e g179 (zen e e) (zj e (zg e g179 e) (hJ178 h 5))))))
   ·refine rm e e (jD 5 173 h (fun q181 h=>?_) fun J182 h hJ182=>rJ h (fun g183 h=>?_) fun g183 h=>rG e g183 (zo e) (zd h fun y184 hy184 h=>rG e g183 (vX e e sl22 hy184) (rG e g183 (za ty5 e) (rG e g183 (zen e e) (zj e (zg e g183 e) (hJ182 h 5))))))
    ·refine rm e e (jD 5 179 h (fun q185 h=>?_) fun J186 h hJ186=>rJ h (fun g187 h=>?_) fun g187 h=>rG e g187 (zo e) (zd h fun y188 hy188 h=>rG e g187 (vX e e sl22 hy188) (rG e g187 (za ty5 e) (rG e g187 (zen e e) (zj e (zg e g187 e) (hJ186 h 5))))))
     ·refine rm e e (jD 5 185 h (fun q189 h=>?_) fun J190 h hJ190=>rJ h (fun g191 h=>?_) fun g191 h=>rG e g191 (zo e) (zd h fun y192 hy192 h=>rG e g191 (vX e e sl22 hy192) (rG e g191 (za ty5 e) (rG e g191 (zen e e) (zj e (zg e g191 e) (hJ190 h 5))))))
      ·refine z6 (zq (ze h e (fun _ h=>?_) (fun _ h=>wk (zm (om e (zad h fun q193 h=>oV (zfz (l:=q2) e hI sl22 (.inr ⟨_,e,e⟩) (.inl ⟨e,e⟩) q193.1 q193.2.1 q193.2.2) (oa e (rb (zx (hL3 h 49))))))))))
       exact ws (ar e (zz (zbm (zbm (rL3 _ (bn (zf (r1 e) k0 (iS h ▸ ⟨e,e⟩))))))))
      exact rP e g191 (rP e g191 (rP e g191 (rP e g191 (zj e (zh e g191 e) (hJ190 h 5)))))
     exact rP e g187 (rP e g187 (rP e g187 (rP e g187 (zj e (zh e g187 e) (hJ186 h 5)))))
    exact rP e g183 (rP e g183 (rP e g183 (rP e g183 (zj e (zh e g183 e) (hJ182 h 5)))))
   exact rP e g179 (rP e g179 (rP e g179 (rP e g179 (zj e (zh e g179 e) (hJ178 h 5)))))
  exact rP e g175 (rP e g175 (rP e g175 (rP e g175 (rP e g175 (rP e g175 (zj e (zh e g175 e) (hJ174 h 7)))))))
 exact rP e g171 (rP e g171 (rP e g171 (rP e g171 (rP e g171 (rP e g171 (zj e (zh e g171 e) (hJ170 h 7)))))))


theorem zjj {a_x a_i a_v zW zam r} (h:zcA a_x a_i a_v=some r):Ctr Tryz.prog 139 [ptrv zW (Fld.id GMkOT),isv a_i,isv a_v] [boxE zW (GMkO a_x zam),vecE zam a_x.l] (Pt [isv r.1] [boxE zW (GMkO r.2 zam),vecE zam r.2.l]):=by
 unfold zcA at h
 refine zi Tryz.func139 e fun w0 S0 hT=>ws (oT (zlL (y:=a_v) e hI fun b2=>oT (zC _ ze26 fun b3=>rn (ws (om e (oV (zs e) (oV (zV e zbW zc0) (oT (zaz (R:=vecv zam (a_x.l.length)) ty29 e p2 isvV1 (om e (zad h fun q4 h=>oV (zco (α:=GTyp) sl29 e e q4.1 q4.2) (zd h fun y5 hy5 h=>oT (zc1 ty82 e (.there (.there (.there .here))) hy5 (oT (zC _ ze82 fun b6=>oT (tS ty82 e e p0 y5 (zI (z8 7 .here e) (rn (ws (oV (zV e Val.f0 zbu) (oT (tL ty3 e p1 a_v.kind (oV (vI e GTyp.f0 zbf y5.kind) (oV (za ty3 e) (oV (zD e e) (an e (ss (oV (vI e GTyp.f0 zbf y5.kind) (oV (za ty3 e) (rn ?_))))))))))))))))))))))))))))))
 refine jw h Unit (fun q7 g7=>[(5,ptrv b2 (Fld.id Val)),(8,isv q7.1)]) (fun q7 g7=>[boxE b2 (q7.2:Val)]) (a1 k0) (fun q7 g7 h=>?_) fun J8 h hJ8=>zr (ss (oV (zD e e) (an e (jW 24 h (fun q9 h=>?_) fun J10 h hJ10=>ze h e (fun _ h=>?_) (fun _ h=>zm (oV (zD e e) (oa e (zK (hJ10 h 2)))))))))
 ·refine ss (om e (oV (zal e) (rn (jw h Unit (fun q51 g51=>[]) (fun q51 g51=>[boxE zW (GMkO q51 zam),vecE zam q51.l]) (a2 (a2 k0)) (fun q51 g51 h=>?_) fun J52 h hJ52=>ze h e (fun _ h=>?_) (fun _ h=>zJ (hJ52 h () 0))))))
  ·exact ws (oT (tL ty26 e p2 q7.2 (oT (tS ty26 e e p3 q7.2 (rn (zaQ (zf (.cell e .here ty26 .nil) (a1 (a1 k0)) (iS h ▸ ⟨e,e⟩))))))))
  exact zm (om e (zd h fun y53 hy53 h=>oT (tC (zbw hy53) hT (s2 e e) (a2 (a2 k0)) (zK (hJ52 h () 2)))))
 ·refine ze h e (fun _ h=>?_) (fun _ h=>ws (oV (zD e e) (an e (ze h e (fun _ h=>?_) (fun _ h=>ss (oV (zD e e) (an e (jW 37 h (fun q15 h=>?_) fun J16 h hJ16=>ze h e (fun _ h=>?_) (fun _ h=>zm (oV (zD e e) (oa e (zK (hJ16 h 2)))))))))))))
  ·exact zJ (zx (hJ8 h () 3))
  ·refine zm (om e (om e (jO 6 36 h (fun q11 h=>?_) fun J12 h hJ12=>oI h (fun g13 h=>?_) fun g13 h=>oN g13 (oN g13 (oN g13 (oN g13 (oN g13 (oV (zg e g13 e) (hJ12 h 6)))))))))
   ·exact oa e (rb (hJ8 h () 9))
   exact oG g13 (vI e GTyp.f2 zdZ y5.con) (oG g13 (za ty78 e) (oG g13 (zV e Val.f1 zaT) (oH g13 (tL ty2 e p1 a_v.n (zd h fun y14 hy14 h=>oH g13 (tC (zfm hy14) hT (s2 e e) k0 (oV (zh e g13 e) (hJ12 h 6))))))))
  ·refine ze h e (fun _ h=>?_) (fun _ h=>ws (oV (zD e e) (an e (ze h e (fun _ h=>?_) (fun _ h=>zm (oa e (rb (hJ8 h () 11))))))))
   ·refine zm (om e (om e (jO 7 48 h (fun q17 h=>?_) fun J18 h hJ18=>oI h (fun g19 h=>?_) fun g19 h=>oN g19 (oN g19 (oN g19 (oN g19 (oN g19 (oN g19 (oV (zg e g19 e) (hJ18 h 7))))))))))
    ·refine om e (jO 9 58 h (fun q21 h=>?_) fun J22 h hJ22=>oI h (fun g23 h=>?_) fun g23 h=>oN g23 (oN g23 (oN g23 (oN g23 (oU (oU (oU (oN g23 (oV (zg e g23 e) (hJ22 h 9))))))))))
     ·exact oa e (rb (hJ8 h () 14))
     refine oG g23 (vI e GTyp.f0 zbf y5.kind) (oG g23 (za ty3 e) (oG g23 (zD e e) (oG g23 (zo e) (jO 4 57 h (fun q24 h=>?_) fun J25 h hJ25=>oI h (fun g26 h=>?_) fun g26 h=>oG g26 (zV e Val.f2 zbs) (oH g26 (tL ty22 e p1 a_v.b (zd h fun y27 hy27 h=>oH g26 (tC (zio hy27) hT (s1 e) k0 (oG g23 (zg e g26 e) (hJ25 h 4))))))))))
     ·exact oV (zh e g23 e) (hJ22 h 6)
     exact oN g26 (oN g26 (oN g26 (oG g23 (zh e g26 e) (hJ25 h 4))))
    exact oG g19 (vI e GTyp.f2 zdZ y5.con) (oG g19 (za ty78 e) (oG g19 (zV e Val.f2 zbs) (oH g19 (tL ty22 e p1 a_v.b (oG g19 (vN e sl22) (zd h fun y20 hy20 h=>oH g19 (tC (zfm hy20) hT (s2 e e) k0 (oV (zh e g19 e) (hJ18 h 7)))))))))
   refine ws (om e (rn (ze h e (fun _ h=>?_) (fun _ h=>zJ (zx (hJ8 h () 11))))))
   refine ws (an e (ws (an e (zr (lP h Unit () (fun q28 g28=>[(5,ptrv b2 (Fld.id Val)),(8,isv q28.1),(9,isv q28.2.1)]) (fun q28 g28=>[boxE b2 (q28.2.2:Val)]) (zB (j:=5) e hI (zB (j:=8) e hI (zB (j:=9) e hI zan))) (a1 k0) fun L29 q28 g28 Q50 h hL29 eL29 rL29=>ss (om e (oV (vI e GTyp.f5 zem y5.root) (oV (za ty3 e) (oV (z7 e e) (om e (jO 3 69 h (fun q40 h=>?_) fun J41 h hJ41=>oI h (fun g42 h=>?_) fun g42 h=>oN g42 (oN g42 (oV (zg e g42 e) (hJ41 h 3))))))))))))))
   ·refine rn (ze h e (fun _ h=>?_) (fun _ h=>xn (eL29 _ _ (zw (zx (hJ8 h () 22))))))
    refine wk (zE (jw h Unit (fun q43 g43=>[(5,ptrv b2 (Fld.id Val)),(8,isv q43.1)]) (fun q43 g43=>[boxE b2 (q43.2:Val)]) k1 (fun q43 g43 h=>?_) fun J44 h hJ44=>zr (zE (zdH 5 .here e (fun o45 hn46=>zH (.v 0 (.v 1 (.v 2 (.v 3 (.v 4 (.v 5 (.v 6 (.v 7 (.v 8 (.v 9 .nil)))))))))) moOrd (by kernel_rfl) (zj e (vI e GTyp.f3 zeo y5.items) (zj e (za ty79 e) (rm e e (zd h fun y47 hy47 h=>zj e (vX e e sl79 hy47) (zj e (vI e GItem.f0 zmk y47.name) (zj e (za ty9 e) (zj e (zhl e Val.f2 zbs) (zj e (vP ty22 e m0 q28.2.2.b) (zj e (zsi (l:=q28.2.2.b) Tryz.underlying22 Tryz.underlying5 Tryz.underlying9 e hI) (zj e (zb6 eq9 e e) (z6 (zaZ 5 hn46 e (zq (ze h e (fun _ h=>?_) (fun _ h=>zJ (zx (hJ44 h () 12))))))))))))))))))))))
    ·exact zm (om e (zy h fun q49 h=>oV (zX e e q49) (oa e (zK (hL29 h () 14)))))
    exact zm (oV (vI e GTyp.f3 zeo y5.items) (oV (za ty79 e) (om e (zd h fun y48 hy48 h=>oV (vX e e sl79 hy48) (oV (vI e GItem.f1 zc3 y48.number) (oV (za ty2 e) (oV (zaa (z:=(Val.mk (3:Int) y48.number ([]:(List UInt8)) ([]:(List Val)) (0:Int) ([]:(List Raw)))) e bu26 ze26 (.cons Val.f0 zbu e hI (.cons Val.f1 zaT e hI .nil))) (oT (tS ty26 e e p0 ⟨3,y48.number,[],[],0,[]⟩ (oa e (rb (hJ44 h () 20))))))))))))
   exact oG g42 (zo e) (oG g42 (zal e) (oV (zh e g42 e) (hJ41 h 3)))
  exact zJ (hJ16 h 0)
 exact zJ (hJ10 h 0)


theorem zhW {a_x a_i zW zam r} (h:zc7 a_x a_i=some r):Ctr Tryz.prog 83 [ptrv zW (Fld.id GMkOT),isv a_i] [boxE zW (GMkO a_x zam),vecE zam a_x.l] (Pt [isv r.1] [boxE zW (GMkO r.2 zam),vecE zam r.2.l]):=by
 unfold zc7 at h
 refine zi Tryz.func83 e fun w0 S0 hT=>ws (an e (ss (om e (oV (zs e) (oV (zV e zbW zc0) (oT (zaz (R:=vecv zam (a_x.l.length)) ty29 e p0 isvV1 (om e (zad h fun q2 h=>oV (zco (α:=GTyp) sl29 e e q2.1 q2.2) (oV (zjZ e GTyp.f1 ze4) (zd h fun y3 hy3 h=>oT (zc1 ty76 e (.there .here) hy3 (oV (vN e sl76) (oV (zbc e e) (rn (ze h e (fun _ h=>?_) (fun _ h=>wk (ws (ar e (zf (r1 e) k2 (iS h ▸ ⟨e,e⟩)))))))))))))))))))))
 exact ws (ar e (zz (zf (r1 e) k2 (iS h ▸ ⟨e,e⟩))))


theorem zqe {zd1 zb0 zhr r} (h:zjd zd1 zb0 zhr=some r):Ctr Tryz.prog 121 [isv zd1,isv zb0,isv zhr] [] (Pt [isv r.1,isv r.2] []):=by
 unfold zjd at h
 refine zi Tryz.func121 e fun w0 S0 hT=>ws (oa e (an e (ss (om e (oV (z7 e e) (om e (jO 3 14 h (fun q1 h=>?_) fun J2 h hJ2=>oI h (fun g3 h=>?_) fun g3 h=>oG g3 (zo e) (oG g3 (zbc e e) (oV (zg e g3 e) (hJ2 h 3))))))))))
 ·refine om e (jO 8 23 h (fun q4 h=>?_) fun J5 h hJ5=>oI h (fun g6 h=>?_) fun g6 h=>oG g6 (zo e) (oG g6 (zD e e) (oG g6 (zo e) (jO 4 22 h (fun q7 h=>?_) fun J8 h hJ8=>oI h (fun g9 h=>?_) fun g9 h=>oN g9 (oN g9 (oN g9 (oG g6 (zg e g9 e) (hJ8 h 4))))))))
  ·refine rn (ze h e (fun _ h=>?_) (fun _ h=>wk (ws (om e (oV (zaa (z:=(Tag.mk (2:Int) zb0)) e bu121 ze121 (.cons Tag.f0 zff e hI (.cons Tag.f1 zcS e hI .nil))) (oT (zN (l:=([(Tag.mk (2:Int) zb0)]:(List Tag))) el76 (.cons e hI .nil) e e (an e (ss (om e (oV (zD e e) (rn (ze h e (fun _ h=>?_) (fun _ h=>wk (ws (om e (om e (zI (zau) (zag h fun q15 h=>oT (za7 (l:=([(Tag.mk (2:Int) zb0)]:(List Tag))) (m:=zd1) zhc e hI e hI .here q15 fun t14=>oa e (ar e (zf (.as e zG (.tmp e .nil)) k0 (iS h ▸ ⟨e,e⟩)))))))))))))))))))))))
   ·exact ws (oa e (ar e (zz (zf (.as e (zcU (α:=Tag)) (.tmp e .nil)) k0 (iS h ▸ ⟨e,e⟩)))))
   exact ws (om e (om e (zad h fun q11 h=>oV (zfz (l:=zd1) e hI sl76 (.inr ⟨_,e,e⟩) (.inl ⟨e,e⟩) q11.1 q11.2.1 q11.2.2) (zI (zau) (zag h fun q13 h=>oT (za7 (l:=([(Tag.mk (2:Int) zb0)]:(List Tag))) (m:=((zd1.take ((zd1.length:Int)).toNat).drop ((1:Int)).toNat)) zhc e hI e hI .here q13 fun t12=>oa e (ar e (zz (zf (.as e zG (.tmp e .nil)) k0 (iS h ▸ ⟨e,e⟩))))))))))
  ·exact oN g6 (oN g6 (oN g6 (oU (oU (oU (oN g6 (oV (zh e g6 e) (hJ5 h 8))))))))
  ·exact oV (zg e g6 e) (hJ5 h 5)
  exact oG g9 (zo e) (oG g9 (vN e sl76) (oG g9 (zD e e) (oG g6 (zh e g9 e) (hJ8 h 4))))
 exact oN g3 (oN g3 (oV (zh e g3 e) (hJ2 h 3)))


theorem zhI {a_x a_i zb0 zhr zW zam r} (h:zdh a_x a_i zb0 zhr=some r):Ctr Tryz.prog 84 [ptrv zW (Fld.id GMkOT),isv a_i,isv zb0,isv zhr] [boxE zW (GMkO a_x zam),vecE zam a_x.l] (Pt [] [boxE zW (GMkO r zam),vecE zam r.l]):=by
 unfold zdh at h
 refine zi Tryz.func84 e fun w0 S0 hT=>ss (om e (oV (zs e) (oV (zV e zcJ zeB) (oT (tL ty38 e p0 a_x.e (oV (zaC e e) (rn (ze h e (fun _ h=>?_) (fun _ h=>wk (ws (om e (oV (zs e) (oV (zV e zbW zc0) (oT (zaz (R:=vecv zam (a_x.l.length)) ty29 e p0 isvV1 (om e (zad h fun q2 h=>oV (zco (α:=GTyp) sl29 e e q2.1 q2.2) (oV (zjZ e GTyp.f1 ze4) (zd h fun y3 hy3 h=>oT (zc1 ty76 e (.there .here) hy3 (om e (om e (zd h fun y4 hy4 h=>oT (tC (zqe hy4) hT (s3 e e e) k0 (om e (oV (zA e e) (oV (zA e e) (oa e (an e ?_)))))))))))))))))))))))))))))
 ·exact zaQ (zz (zf .nil k2 (iS h ▸ ⟨e,e⟩)))
 refine ss (om e (oV (zaC e e) (rn (ze h e (fun _ h=>?_) (fun _ h=>wk (zm (om e (oV (zs e) (oV (zV e zbW zc0) (oT (zaz (R:=vecv zam (a_x.l.length)) ty29 e p0 isvV1 (om e (om e (zad h fun q6 h=>oV (zco (α:=GTyp) sl29 e e q6.1 q6.2) (oV (zjZ e GTyp.f1 ze4) (zd h fun y7 hy7 h=>oT (zfc ty76 e e (.there .here) hy7 (zI (zjG (y:=(GMkO {a_x with l:=(a_x.l.set a_i.toNat ({ y7 with tags:=y4.1 }))} zam)) (.there .here) (fun S=>(Cv.pair Cv.id (Cv.pair (Cv.vhe (by first | rfl | simp)) Cv.id)))) (zK (zaJ .nil k2 (iS h ▸ ⟨e,e⟩)))))))))))))))))))))
 exact ws (om e (om e (zd h fun y5 hy5 h=>oT (tC (zbw hy5) hT (s2 e e) k2 (rn (zaQ (zz (zf .nil k2 (iS h ▸ ⟨e,e⟩)))))))))


def zin (f':(List GTyp)→Int→Option (Bool)):Prop :=
 ∀ {a_l a_i zkK r},f' a_l a_i=some r→Ctr Tryz.prog 158 [vecv zkK (a_l.length),isv a_i] [vecE zkK a_l] (Pt [isv r] [vecE zkK a_l])
theorem zoR {zjz} (zpR:zin zjz):zin (zgD zjz):=by
 intro a_l a_i zkK r h
 unfold zgD at h
 refine zi Tryz.func158 e fun w0 S0 hT=>ws (an e (ss (om e (om e (zad h fun q1 h=>oV (zco (α:=GTyp) sl29 e e q1.1 q1.2) (oV (zjZ e GTyp.f0 zbf) (zd h fun y2 hy2 h=>oT (zc1 ty3 e .here hy2 (oV (zaC e e) (om e (jO 8 21 h (fun q3 h=>?_) fun J4 h hJ4=>oI h (fun g5 h=>?_) fun g5 h=>oG g5 (zo e) (oG g5 (zo e) (zad h fun q6 h=>oG g5 (zco (α:=GTyp) sl29 e e q6.1 q6.2) (oG g5 (zjZ e GTyp.f1 ze4) (zd h fun y7 hy7 h=>oH g5 (zc1 ty76 e .here hy7 (oG g5 (vN e sl76) (oG g5 (zbc e e) (oV (zg e g5 e) (hJ4 h 8))))))))))))))))))))
 ·refine rn (ze h e (fun _ h=>?_) (fun _ h=>wk (ws (om e (om e (zad h fun q8 h=>oV (zco (α:=GTyp) sl29 e e q8.1 q8.2) (oV (zjZ e GTyp.f6 zfk) (zd h fun y9 hy9 h=>oT (zc1 ty4 e .here hy9 (an e (ss (an e (zr (lP h Unit () (fun q10 g10=>[(5,isv q10.1),(6,isv q10.2)]) (fun q10 g10=>[]) (zB (j:=5) e hI (zB (j:=6) e hI zan)) k0 fun L11 q10 g10 Q32 h hL11 eL11 rL11=>ss (om e (om e (om e (zad h fun q22 h=>oV (zco (α:=GTyp) sl29 e e q22.1 q22.2) (oV (zjZ e GTyp.f4 zas) (zd h fun y23 hy23 h=>oT (zc1 ty80 e .here hy23 (oV (vN e sl80) (oV (z7 e e) (rn (ze h e (fun _ h=>?_) (fun _ h=>xn ?_))))))))))))))))))))))))))
  ·exact ws (ar e (zz (zf (r1 e) k1 (iS h ▸ ⟨e,e⟩))))
  ·refine wk (zE (zr (zm (om e (om e (jO 12 50 h (fun q24 h=>?_) fun J25 h hJ25=>oI h (fun g26 h=>?_) fun g26 h=>oG g26 (zo e) (oG g26 (zo e) (oG g26 (zo e) (zad h fun q27 h=>oG g26 (zco (α:=GTyp) sl29 e e q27.1 q27.2) (oG g26 (zjZ e GTyp.f4 zas) (zd h fun y28 hy28 h=>oH g26 (zc1 ty80 e .here hy28 (oG g26 (zo e) (zd h fun y29 hy29 h=>oG g26 (vX e e sl80 hy29) (oG g26 (vI e GFld.f1 zcf y29.ty) (oG g26 (za ty3 e) (zd h fun y30 hy30 h=>oH g26 (tC (zpR hy30) hT (.cons e (fun _ _ h=>vecvE (by first | rfl | simp) _ _ h) (.same e .nil)) k1 (oV (zg e g26 e) (hJ25 h 12))))))))))))))))))))
   ·exact oa e (rb (zq (zm (om e (zy h fun q31 h=>oV (zX e e q31) (oa e (zK (hL11 h () 17))))))))
   exact oN g26 (oN g26 (oN g26 (oN g26 (oN g26 (oN g26 (oN g26 (oN g26 (oN g26 (oN g26 (oN g26 (oV (zh e g26 e) (hJ25 h 12))))))))))))
  exact eL11 _ _ (zw (zq (ws (om e (ar e (zf (r1 e) k1 (iS h ▸ ⟨e,e⟩)))))))
 exact oN g5 (oN g5 (oN g5 (oN g5 (oN g5 (oN g5 (oN g5 (oV (zh e g5 e) (hJ4 h 8))))))))

theorem zjn:∀ n,zin (zjq n)
  | 0=>fun h=>(by cases h)
  | n + 1=>zoR (zjn n)
theorem zp2 (n:Nat):zin (zjq n):=(zjn n)

def zgl (f':(List GTyp)→Int→Option ((List Tag))):Prop :=
 ∀ {a_l a_i zkK r},f' a_l a_i=some r→Ctr Tryz.prog 125 [vecv zkK (a_l.length),isv a_i] [vecE zkK a_l] (Pt [isv r] [vecE zkK a_l])
theorem znn {zhe} (zn8:zgl zhe):zgl (zfn zhe):=by
 intro a_l a_i zkK r h
 unfold zfn at h
 refine zi Tryz.func125 e fun w0 S0 hT=>ws (an e (ss (om e (om e (zad h fun q1 h=>oV (zco (α:=GTyp) sl29 e e q1.1 q1.2) (oV (zjZ e GTyp.f1 ze4) (zd h fun y2 hy2 h=>oT (zc1 ty76 e .here hy2 (oV (vN e sl76) (oV (zbc e e) (rn (ze h e (fun _ h=>?_) (fun _ h=>wk (ws (an e (ss (an e (zr (zhO (zau) (lP h Tok none (fun q6 g6=>[(5,appv g6 q6.1),(6,isv q6.2)]) (fun q6 g6=>[tokE g6]) (zB (j:=5) e zbI (zB (j:=6) e hI zan)) k1 fun L7 q6 g6 Q27 h hL7 eL7 rL7=>ss (om e (om e (om e (zad h fun q17 h=>oV (zco (α:=GTyp) sl29 e e q17.1 q17.2) (oV (zjZ e GTyp.f4 zas) ?_)))))))))))))))))))))))))
 ·exact ws (om e (om e (zad h fun q3 h=>oV (zco (α:=GTyp) sl29 e e q3.1 q3.2) (oV (zjZ e GTyp.f1 ze4) (zd h fun y4 hy4 h=>oT (zc1 ty76 e .here hy4 (zad h fun q5 h=>oV (zfz (l:=y4.tags) e hI sl76 (.inl ⟨e,e⟩) (.inr ⟨_,e,e⟩) q5.1 q5.2.1 q5.2.2) (ar e (zz (zf (r1 e) k1 (iS h ▸ ⟨e,e⟩)))))))))))
 refine zd h fun y18 hy18 h=>oT (zc1 ty80 e (.there .here) hy18 (oV (vN e sl80) (oV (z7 e e) (rn (ze h e (fun _ h=>?_) (fun _ h=>xn (eL7 _ _ (zw (zq (ws (om e (ar e (zf (.as e zG .nil) (a1 k0) (iS h ▸ ⟨e,e⟩))))))))))))))
 refine wk (zE (zr (zm (om e (om e (om e (om e (zad h fun q19 h=>oV (zco (α:=GTyp) sl29 e e q19.1 q19.2) (oV (zjZ e GTyp.f4 zas) (zd h fun y20 hy20 h=>oT (zc1 ty80 e (.there .here) hy20 (om e (zd h fun y21 hy21 h=>oV (vX e e sl80 hy21) (oV (vI e GFld.f1 zcf y21.ty) (oV (za ty3 e) (zd h fun y22 hy22 h=>oT (tC (zn8 hy22) hT (.cons e (fun _ _ h=>vecvE (by first | rfl | simp) _ _ h) (.same e .nil)) (a1 k0) (zag h fun q24 h=>oT (za7 (l:=q6.1) (m:=y22) zhc e hI e hI (.there .here) q24 fun t23=>oa e (rb (zq (zm (om e (zy h fun q25 h=>oV (zX e e q25) (oa e ?_)))))))))))))))))))))))))
 exact zK (hL7 h t23 27)

theorem zhP:∀ n,zgl (zgI n)
  | 0=>fun h=>(by cases h)
  | n + 1=>znn (zhP n)
theorem znP (n:Nat):zgl (zgI n):=(zhP n)

theorem zja {a_l a_x r} (h:zeg a_l a_x=some r):Ctr Tryz.prog 92 [isv a_l,isv a_x] [] (Pt [isv r] []):=by
 unfold zeg at h
 refine zi Tryz.func92 e fun w0 S0 hT=>ws (oT (tB e (an e (ss (an e (zr (lO 5 h e fun L2 q1 Q7 h hL2 eL2 rL2=>ss (om e (om e (oV (vN e sl76) (oV (z7 e e) (rn (ze h e (fun _ h=>?_) (fun _ h=>xn (eL2 _ _ (zw (zq (ws (ar e (zf (r1 e) k0 (iS h ▸ ⟨e,e⟩)))))))))))))))))))))
 refine wk (zE (zr (zE (zH (.v 0 (.v 1 (.v 2 (.v 3 (.v 4 (.v 5 .nil)))))) moOrd (by kernel_rfl) (rm e e (rm e e (zd h fun y5 hy5 h=>zj e (vX e e sl76 hy5) (zj e (za ty121 e) (zj e (za ty121 e) (zj e (zb6 eq121 e e) (z6 (zq (ze h e (fun _ h=>?_) (fun _ h=>zJ (zx (zq (zm (om e (zy h fun q6 h=>oV (zX e e q6) (oa e (zK (hL2 h 14))))))))))))))))))))))
 exact ws (ar e (bn (rL2 _ (bn (zf (r1 e) k0 (iS h ▸ ⟨e,e⟩))))))


theorem zmH {zkf r} (h:zfw zkf=some r):Ctr Tryz.prog 159 [isv zkf] [] (Pt [isv r] []):=by
 unfold zfw at h
 refine zi Tryz.func159 e fun w0 S0 hT=>ws (an e (ws (an e (ss (an e (zr (zhO (zau) (lP h Tok none (fun q1 g1=>[(3,appv g1 q1.1),(4,isv q1.2)]) (fun q1 g1=>[tokE g1]) (zB (j:=3) e zbI (zB (j:=4) e hI zan)) k1 fun L2 q1 g1 Q55 h hL2 eL2 rL2=>ss (om e (om e (oV (vN e sl220) (oV (z7 e e) (rn (ze h e (fun _ h=>?_) (fun _ h=>xn (eL2 _ _ (zw (zq (ws (ar e (zf (r1 e) k0 (iS h ▸ ⟨e,e⟩))))))))))))))))))))))
 refine wk (zE (zr (ws (an e (zr (lP h Tok g1 (fun q29 g29=>[(3,appv g29 q29.1),(5,isv q29.2)]) (fun q29 g29=>[tokE g29]) (zB (j:=3) e hI (zB (j:=5) e hI zan)) k1 fun L30 q29 g29 Q53 h hL30 eL30 rL30=>ss (om e (om e (om e (zd h fun y42 hy42 h=>oV (vX e e sl220 hy42) (oV (za ty76 e) (oV (vN e sl76) (oV (z7 e e) (rn (ze h e (fun _ h=>?_) (fun _ h=>xn (eL30 _ _ (zw (zx (zq (zm (om e (zy h fun q52 h=>oV (zX e e q52) (oa e (zK (hL2 h g29 19))))))))))))))))))))))))))
 refine wk (zE (zr (ss (om e (om e (om e (zd h fun y43 hy43 h=>oV (vX e e sl220 hy43) (oV (za ty76 e) (om e (zd h fun y44 hy44 h=>oV (vX e e sl76 hy44) (oV (za ty121 e) (zd h fun y45 hy45 h=>oT (tC (zja hy45) hT (.cons e zG (.same e .nil)) k0 (rn (ze h e (fun _ h=>?_) (fun _ h=>wk (zm (om e (om e (om e (zd h fun y46 hy46 h=>oV (vX e e sl220 hy46) (oV (za ty76 e) (om e (zd h fun y47 hy47 h=>oV (vX e e sl76 hy47) (oV (za ty121 e) ?_)))))))))))))))))))))))))
 ·exact ws (ar e (zz (bn (rL30 _ (zbm (bn (rL2 _ (bn (zf (r1 e) k0 (iS h ▸ ⟨e,e⟩))))))))))
 exact oT (zN (l:=([y47]:(List Tag))) el76 (.cons e hI .nil) e e (zag h fun q50 h=>oT (za7 (l:=q29.1) (m:=([y47]:(List Tag))) zhc e hI e zG .here q50 fun t49=>oa e (rb (zq (zm (om e (zy h fun q51 h=>oV (zX e e q51) (oa e (zK (hL30 h t49 32)))))))))))


theorem zfD {a_x a_l zme zW zam r} (h:zcc a_x a_l zme=some r):Ctr Tryz.prog 151 [ptrv zW (Fld.id GMkOT),isv a_l,isv zme] [boxE zW (GMkO a_x zam),vecE zam a_x.l] (Pt [isv r.1] [boxE zW (GMkO r.2 zam),vecE zam r.2.l]):=by
 unfold zcc at h
 refine zi Tryz.func151 e fun w0 S0 hT=>ws (an e (ws (an e (ss (an e (zr (zhO (zau) (lP h Tok none (fun q2 g2=>[(0,ptrv zW (Fld.id GMkOT)),(7,appv g2 q2.1),(8,isv q2.2)]) (fun q2 g2=>[tokE g2]) (zB (j:=0) e hI (zB (j:=7) e zbI (zB (j:=8) e hI zan))) k1 fun L3 q2 g2 Q43 h hL3 eL3 rL3=>ss (om e (om e (oV (vN e sl80) (oV (z7 e e) (rn (ze h e (fun _ h=>?_) (fun _ h=>xn (eL3 _ _ (zw (zq (ws (om e (zd h fun y41 hy41 h=>oT (tC (zmH hy41) hT (.cons e zG .nil) k0 (ar e (zf (r1 e) (a1 (a1 k0)) (iS h ▸ ⟨e,e⟩)))))))))))))))))))))))))
 refine wk (zE (zr (zE (zE (zdH 0 (.there .here) e (fun o23 hn24=>zH (.v 0 (.v 1 (.v 2 (.v 3 (.v 4 (.v 5 (.v 6 (.v 7 (.v 8 (.t 9 (.v 10 (.v 11 (.v 12 (.v 13 (.v 14 (.v 15 (.v 16 (.v 17 .nil)))))))))))))))))) moOrd (by kernel_rfl) (rm e e (zj e (zbA e) (zj e (zhl e zbW zc0) (zj e (zqx (R:=vecv zam (a_x.l.length)) ty29 e m0 isvV1) (rm e e (rm e e (zd h fun y25 hy25 h=>zj e (vX e e sl80 hy25) (zj e (vI e GFld.f1 zcf y25.ty) (zj e (za ty3 e) (zd h fun y26 hy26 h=>rT e (tC (zp2 fuel hy26) hT (.cons e (fun _ _ h=>vecvE (by first | rfl | simp) _ _ h) (.same e .nil)) (a1 k0) (rm e e (jD 7 32 h (fun q27 h=>?_) fun J28 h hJ28=>rJ h (fun g29 h=>?_) fun g29 h=>rP e g29 (rP e g29 (rU e (rU e (rU e (rP e g29 (zj e (zg e g29 e) (hJ28 h 7))))))))))))))))))))))))))
 ·refine z6 (zaZ 0 hn24 e (zq (ze h e (fun _ h=>?_) (fun _ h=>wk (zdH 0 .here e (fun o33 hn34=>zH (.v 0 (.v 1 (.v 2 (.v 3 (.v 4 (.v 5 (.v 6 (.v 7 (.v 8 (.v 9 (.t 10 (.t 11 (.t 12 (.v 13 .nil)))))))))))))) moOrd (by kernel_rfl) (rm e e (rm e e (zj e (zbA e) (zj e (zhl e zbW zc0) (zj e (zqx (R:=vecv zam (a_x.l.length)) ty29 e m0 isvV1) (rm e e (rm e e (zd h fun y35 hy35 h=>zj e (vX e e sl80 hy35) (zj e (vI e GFld.f1 zcf y35.ty) (zj e (za ty3 e) (zd h fun y36 hy36 h=>rT e (tC (znP fuel hy36) hT (.cons e (fun _ _ h=>vecvE (by first | rfl | simp) _ _ h) (.same e .nil)) k1 (rT e (zN (l:=([y36]:(List (List Tag)))) el220 (.cons e hI .nil) e e (zag h fun q39 h=>rT e (za7 (l:=q2.1) (m:=([y36]:(List (List Tag)))) zrb e hI e zG (.there .here) q39 fun t38=>zj e (zaj e) (z6 (zaZ 0 hn34 e (zx (zq (zm (om e ?_))))))))))))))))))))))))))))
  ·exact ws (ar e (zz (bn (rL3 _ (bn (zf (r1 e) k2 (iS h ▸ ⟨e,e⟩)))))))
  exact zy h fun q40 h=>oV (zX e e q40) (oa e (zK (hL3 h t38 40)))
 refine rG e g29 (zo e) (rG e g29 (zo e) (jD 4 31 h (fun q30 h=>?_) fun J31 h hJ31=>rJ h (fun g32 h=>?_) fun g32 h=>rG e g32 (zo e) (rG e g32 (vN e sl80) (rG e g32 (zbc e e) (rG e g29 (zg e g32 e) (hJ31 h 4))))))
 ·exact zj e (zh e g29 e) (hJ28 h 4)
 exact rP e g32 (rP e g32 (rP e g32 (rG e g29 (zh e g32 e) (hJ31 h 4))))


theorem zlW {a_t r} (h:zgx a_t=some r):Ctr Tryz.prog 124 [isv a_t] [] (Pt [isv r] []):=by
 unfold zgx at h
 refine zi Tryz.func124 e fun w0 S0 hT=>ws (oT (tB e (an e (ws (an e (ss (an e (zr (zhO (zau) (lP h Tok none (fun q1 g1=>[(3,appv g1 q1.1),(4,isv q1.2)]) (fun q1 g1=>[tokE g1]) (zB (j:=3) e zbI (zB (j:=4) e hI zan)) k1 fun L2 q1 g1 Q28 h hL2 eL2 rL2=>ss (om e (oV (vI e GTyp.f4 zas a_t.fields) (oV (za ty80 e) (oV (vN e sl80) (oV (z7 e e) (rn (ze h e (fun _ h=>?_) (fun _ h=>xn (eL2 _ _ (zw (zq (ws (om e (ar e (zf (.as e zG .nil) k0 (iS h ▸ ⟨e,e⟩))))))))))))))))))))))))))
 refine wk (zE (zr (zm (om e (oV (vI e GTyp.f4 zas a_t.fields) (oV (za ty80 e) (om e (zd h fun y15 hy15 h=>oV (vX e e sl80 hy15) (oV (vI e GFld.f2 zjf y15.optional) (oV (za ty4 e) (om e (jO 7 26 h (fun q16 h=>?_) fun J17 h hJ17=>oI h (fun g18 h=>?_) fun g18 h=>oG g18 (vI e GTyp.f4 zas a_t.fields) (oG g18 (za ty80 e) (oG g18 (zo e) (zd h fun y19 hy19 h=>oG g18 (vX e e sl80 hy19) (oG g18 (vI e GFld.f3 zgF y19.has) (oG g18 (za ty4 e) (oV (zg e g18 e) (hJ17 h 7)))))))))))))))))))
 ·refine om e (jO 5 32 h (fun q20 h=>?_) fun J21 h hJ21=>oI h (fun g22 h=>?_) fun g22 h=>oG g22 (zo e) (oG g22 (vI e GTyp.f5 zem a_t.root) (oG g22 (za ty3 e) (oG g22 (zbF e e) (oV (zg e g22 e) (hJ21 h 5))))))
  ·exact oT (zN (l:=([q20]:(List Bool))) el188 (.cons e hI .nil) e e (zag h fun q25 h=>oT (za7 (l:=q1.1) (m:=([q20]:(List Bool))) zrd e hI e zG .here q25 fun t24=>oa e (rb (zq (zm (om e (zy h fun q26 h=>oV (zX e e q26) (oa e (zK (hL2 h t24 24)))))))))))
  exact oN g22 (oN g22 (oN g22 (oN g22 (oV (zh e g22 e) (hJ21 h 5)))))
 exact oN g18 (oN g18 (oN g18 (oN g18 (oN g18 (oN g18 (oV (zh e g18 e) (hJ17 h 7)))))))


theorem zmS {a_t r} (h:zhX a_t=some r):Ctr Tryz.prog 91 [isv a_t] [] (Pt [isv r] []):=by
 unfold zhX at h
 refine zi Tryz.func91 e fun w0 S0 hT=>ws (oT (tB e (an e (ws (oV (za ty82 e) (zd h fun y1 hy1 h=>oT (tC (zlW hy1) hT (s1 e) k0 (an e (ws (oV (vI e GTyp.f5 zem a_t.root) (oV (za ty3 e) (an e (zE (zr (lO 4 h e fun L3 q2 Q16 h hL3 eL3 rL3=>ss (om e (oV (zbc e e) (om e (jO 6 17 h (fun q10 h=>?_) fun J11 h hJ11=>oI h (fun g12 h=>?_) fun g12 h=>oN g12 (oN g12 (oN g12 (oN g12 (oN g12 (oV (zg e g12 e) (hJ11 h 6)))))))))))))))))))))))))
 ·refine rn (ze h e (fun _ h=>?_) (fun _ h=>xn (eL3 _ _ (zw (zq (ws (om e (ar e (zf (r1 e) k0 (iS h ▸ ⟨e,e⟩))))))))))
  exact wk (zr (zm (om e (zy h fun q15 h=>oV (zcZ e e q15) (oa e (rb (hL3 h 8)))))))
 exact oG g12 (zo e) (oG g12 (zo e) (zy h fun q13 h=>oG g12 (zcZ e e q13) (zd h fun y14 hy14 h=>oG g12 (vX e e sl188 hy14) (oG g12 (za ty4 e) (oV (zh e g12 e) (hJ11 h 6))))))


theorem zkP {a_x a_t zW zam r} (h:zdx a_x a_t=some r):Ctr Tryz.prog 140 [ptrv zW (Fld.id GMkOT),isv a_t] [boxE zW (GMkO a_x zam),vecE zam a_x.l] (Pt [isv r.1] [boxE zW (GMkO r.2 zam),vecE zam r.2.l]):=by
 unfold zdx at h
 refine zi Tryz.func140 e fun w0 S0 hT=>ws (oT (tB e (an e (ss (oV (vI e GTyp.f0 zbf a_t.kind) (oV (za ty3 e) (oV (zaC e e) (rn (ze h e (fun _ h=>?_) (fun _ h=>wk (ws (oV (za ty82 e) (zd h fun y3 hy3 h=>oT (tC (zlW hy3) hT (s1 e) k0 (an e (ss (an e (zr (lP h Unit () (fun q4 g4=>[(6,isv q4.1)]) (fun q4 g4=>[boxE zW (GMkO q4.2 zam),vecE zam q4.2.l]) (zB (j:=6) e hI zan) k2 fun L5 q4 g4 Q66 h hL5 eL5 rL5=>ss (om e (oV (vI e GTyp.f4 zas a_t.fields) (oV (za ty80 e) (oV (vN e sl80) (oV (z7 e e) (rn (ze h e (fun _ h=>?_) (fun _ h=>xn (eL5 _ _ ?_))))))))))))))))))))))))))))
 ·exact ws (om e (oV (vI e GTyp.f4 zas a_t.fields) (oV (za ty80 e) (oV (vI e GTyp.f6 zfk a_t.more) (oV (za ty4 e) (zd h fun y2 hy2 h=>oT (tC (zfD hy2) hT (s3 e e e) k2 (ar e (zz (zf (r1 e) k2 (iS h ▸ ⟨e,e⟩)))))))))))
 ·refine wk (zE (jw h Unit (fun q36 g36=>[]) (fun q36 g36=>[boxE zW (GMkO q36 zam),vecE zam q36.l]) k2 (fun q36 g36 h=>?_) fun J37 h hJ37=>zr (ss (om e (om e (zd h fun y38 hy38 h=>oV (vX e e sl188 hy38) (oV (za ty4 e) (oV (zal e) (rn (ze h e (fun _ h=>?_) (fun _ h=>wk (ws (om e (zy h fun q39 h=>oV (zX e e q39) (an e (zE (zr (lO 7 h e fun L41 q40 Q58 h hL41 eL41 rL41=>ss (om e (oV (vI e GTyp.f4 zas a_t.fields) (oV (za ty80 e) (oV (vN e sl80) (oV (z7 e e) (om e (jO 5 43 h (fun q50 h=>?_) fun J51 h hJ51=>?_)))))))))))))))))))))))))
  ·exact zm (om e (zy h fun q59 h=>oV (zX e e q59) (oa e (zK (hL5 h () 9)))))
  ·exact xn (zw (hJ37 h () 5))
  ·refine rn (ze h e (fun _ h=>?_) (fun _ h=>xn (eL41 _ _ (zw (zq (ws (om e (oV (vI e GTyp.f4 zas a_t.fields) (oV (za ty80 e) (om e (om e (zy h fun q55 h=>oV (zX e e q55) (oV (vI e GTyp.f4 zas a_t.fields) (oV (za ty80 e) (oV (vN e sl80) (oV (zuv e e) (zad h fun q56 h=>oV (zfz (l:=a_t.fields) e hI sl80 (.inr ⟨_,e,e⟩) (.inr ⟨_,e,e⟩) q56.1 q56.2.1 q56.2.2) (zd h fun y57 hy57 h=>oT (tC (zfD hy57) hT (s3 e e e) k2 (oV (zal e) (rn (ze h e (fun _ h=>?_) (fun _ h=>zJ (zx (hJ37 h () 29)))))))))))))))))))))))))
   ·exact wk (zr (zm (om e (zy h fun q54 h=>oV (zX e e q54) (oa e (rb (hL41 h 11)))))))
   exact ws (ar e (bn (rL5 _ (bn (zf (r1 e) k2 (iS h ▸ ⟨e,e⟩))))))
  refine oI h (fun g52 h=>?_) fun g52 h=>oN g52 (oN g52 (oN g52 (oN g52 (oV (zg e g52 e) (hJ51 h 5)))))
  exact oG g52 (zo e) (oG g52 (zo e) (zd h fun y53 hy53 h=>oG g52 (vX e e sl188 hy53) (oG g52 (za ty4 e) (oV (zh e g52 e) (hJ51 h 5)))))
 refine zw (zq (zE (zH (.v 0 (.v 1 (.v 2 (.v 3 (.v 4 (.v 5 (.v 6 (.v 7 (.t 8 (.v 9 (.t 10 (.v 11 (.v 12 .nil))))))))))))) moOrd (by kernel_rfl) (zj e (vI e GTyp.f6 zfk a_t.more) (zj e (za ty4 e) (zj e (zal e) (rm e e (jd 8 h Unit (fun q60 g60=>[(70,isv q60.1)]) (fun q60 g60=>[boxE zW (GMkO q60.2 zam),vecE zam q60.2.l]) k2 (fun q60 g60 h=>?_) fun J61 h hJ61=>rJ h (fun g62 h=>?_) fun g62 h=>rG e g62 (zo e) (rG e g62 (vI e GTyp.f4 zas a_t.fields) (rG e g62 (za ty80 e) (rG e g62 (za ty82 e) (zd h fun y63 hy63 h=>rH e g62 (tC (zmS hy63) hT (s1 e) k0 (zad h fun q64 h=>rG e g62 (zfz (l:=a_t.fields) e hI sl80 (.inr ⟨_,e,e⟩) (.inl ⟨e,e⟩) q64.1 q64.2.1 q64.2.2) (zd h fun y65 hy65 h=>rH e g62 (tC (zfD hy65) hT (s3 e e e) k2 (zj e (zg e g62 e) (hJ61 h () 8))))))))))))))))))
 ·exact zj e (zaj e) (z6 (zq (zaQ (zf (r1 e) k2 (iS h ▸ ⟨e,e⟩)))))
 exact rP e g62 (rP e g62 (rP e g62 (rP e g62 (zcO e e (dj:=62) e g62 (rP e g62 (zcO e e (dj:=62) e g62 (zj e (zh e g62 e) (hJ61 h () 8))))))))

end Go.Proofs.Q


namespace Go.Proofs.Q
open Go.Sy
set_option maxRecDepth 4000
def zcx (f':GMk→Int→GNode→Int→Option (GMk)):Prop :=
 ∀ {a_x a_i a_n_ zL zW zam r},f' a_x a_i a_n_ zL=some r→Ctr Tryz.prog 120 [ptrv zW (Fld.id GMkOT),isv a_i,isv a_n_,isv zL] [boxE zW (GMkO a_x zam),vecE zam a_x.l] (Pt1 (fun _=>[]) fun u1=>[boxE zW (GMkO r u1),vecE u1 r.l])
def zcv (f':GMk→Int→Int→Option (Int × GMk)):Prop :=
 ∀ {a_x a_k zL zW zam r},f' a_x a_k zL=some r→Ctr Tryz.prog 53 [ptrv zW (Fld.id GMkOT),isv a_k,isv zL] [boxE zW (GMkO a_x zam),vecE zam a_x.l] (Pt1 (fun _=>[isv r.1]) fun u1=>[boxE zW (GMkO r.2 u1),vecE u1 r.2.l])
def zdb (f':GMk→GNode→Int→Option (Int × GMk)):Prop :=
 ∀ {a_x a_n_ zL zW zam r},f' a_x a_n_ zL=some r→Ctr Tryz.prog 82 [ptrv zW (Fld.id GMkOT),isv a_n_,isv zL] [boxE zW (GMkO a_x zam),vecE zam a_x.l] (Pt1 (fun _=>[isv r.1]) fun u1=>[boxE zW (GMkO r.2 u1),vecE u1 r.2.l])
theorem zj0 {zaM zaN za2} (zeO:zcx zaM) (zb1:zcv zaN) (zfK:zdb za2):zcx (zcz zaM zaN za2):=by
 intro a_x a_i a_n_ zL zW zam r h
 unfold zcz at h
 refine zi Tryz.func120 e fun w0 S0 hT=>ws (oT (tB e (rn (ws (om e (oV (zs e) (oV (zV e zfO zid) (oV (zV e GMod.f1 znX) (oT (tL ty3 e p0 a_x.m.tagging (oV (zaC e e) (an e (ss (an e (zr (lP h Unit () (fun q2 g2=>[(0,ptrv zW (Fld.id GMkOT)),(8,isv q2.1),(9,isv q2.2)]) (fun q2 g2=>[]) (zB (j:=0) e hI (zB (j:=8) e hI (zB (j:=9) e hI zan))) k0 fun L3 q2 g2 Q336 h hL3 eL3 rL3=>ss (om e (oV (vI e GNode.f5 zeb a_n_.fields) (oV (za ty80 e) (oV (vN e sl80) (oV (z7 e e) (rn (ze h e (fun _ h=>?_) (fun _ h=>xn (eL3 _ _ (zw (zq (ss (oV (vI e GNode.f0 zbY a_n_.kind) ?_)))))))))))))))))))))))))))))
 ·refine wk (zE (zr (ws (oV (vI e GNode.f5 zeb a_n_.fields) (oV (za ty80 e) (om e (zd h fun y170 hy170 h=>oV (vX e e sl80 hy170) (oV (za ty88 e) (oT (zC _ ze88 fun b171=>oT (tS ty88 e e p0 y170 (zI (z8 10 .here e) (rn (zdH 0 .here e (fun o172 hn173=>zH (.v 0 (.v 1 (.v 2 (.v 3 (.v 4 (.v 5 (.v 6 (.v 7 (.v 8 (.v 9 (.v 10 (.v 11 (.v 12 (.v 13 (.v 14 .nil))))))))))))))) moOrd (by kernel_rfl) (rm e e (rm e e (jD 12 46 h (fun q174 h=>?_) fun J175 h hJ175=>rJ h (fun g176 h=>?_) fun g176 h=>rG e g176 (zo e) (rG e g176 (zbA e) (rG e g176 (zhl e zfO zid) (rG e g176 (zhl e GMod.f4 zia) (rG e g176 (vP ty68 e m0 a_x.m.nodes) (rG e g176 (vI e GFld.f1 zcf y170.ty) (rG e g176 (za ty3 e) (zd h fun y177 hy177 h=>rG e g176 (vX e e sl68 hy177) (rG e g176 (vI e GNode.f2 zg7 y177.mark) ?_))))))))))))))))))))))))))
  ·exact zj e (zaj e) (z6 (zaZ 0 hn173 e (zx (zq (zm (om e (zy h fun q178 h=>oV (zX e e q178) (oa e (zK (hL3 h () 24))))))))))
  ·exact rP e g176 (rP e g176 (rP e g176 (rP e g176 (rP e g176 (rP e g176 (rP e g176 (rP e g176 (rP e g176 (rP e g176 (rP e g176 (zj e (zh e g176 e) (hJ175 h 12))))))))))))
  exact rG e g176 (vI e GMark.f0 zov y177.mark.has) (rG e g176 (za ty4 e) (zj e (zg e g176 e) (hJ175 h 12)))
 refine oV (za ty3 e) (oV (zD e e) (om e (jO 5 55 h (fun q179 h=>?_) fun J180 h hJ180=>oI h (fun g181 h=>?_) fun g181 h=>oN g181 (oN g181 (oN g181 (oN g181 (oV (zg e g181 e) (hJ180 h 5))))))))
 ·refine om e (jO 4 60 h (fun q182 h=>?_) fun J183 h hJ183=>oI h (fun g184 h=>?_) fun g184 h=>oN g184 (oN g184 (oN g184 (oV (zg e g184 e) (hJ183 h 4)))))
  ·refine rn (jw h Unit (fun q185 g185=>[]) (fun q185 g185=>[boxE zW (GMkO q185 zam),vecE zam q185.l]) k2 (fun q185 g185 h=>?_) fun J186 h hJ186=>ze h e (fun _ h=>?_) (fun _ h=>zJ (hJ186 h () 0)))
   ·refine ws (an e (ss (an e (zr (zhO (zau) (lP h (Tok × Vt) (none,zam) (fun q188 g188=>[(11,appv g188.1 q188.1),(12,isv q188.2.1)]) (fun q188 g188=>[tokE g188.1,boxE zW (GMkO q188.2.2 g188.2),vecE g188.2 (q188.2.2.l:List GTyp)]) (zB (j:=11) e zbI (zB (j:=12) e hI zan)) k3 fun L189 q188 g188 Q335 h hL189 eL189 rL189=>ss (om e (oV (vI e GNode.f5 zeb a_n_.fields) (oV (za ty80 e) (oV (vN e sl80) (oV (z7 e e) (om e (jO 6 74 h (fun q262 h=>?_) fun J263 h hJ263=>oI h (fun g264 h=>?_) fun g264 h=>oN g264 (oN g264 (oN g264 (oN g264 (oN g264 (oV (zg e g264 e) (hJ263 h 6)))))))))))))))))))
    ·refine rn (ze h e (fun _ h=>?_) (fun _ h=>xn (eL189 _ _ (zw (zq (ws (om e (oV (zs e) (oV (zV e zcJ zeB) (oT (tL ty38 e p1 q188.2.2.e (oV (zD e e) (rn (ze h e (fun _ h=>?_) (fun _ h=>zJ (zaJ .nil (a1 (a1 k0)) (iS h ▸ ⟨g188.2,e,e⟩)))))))))))))))))
     ·refine wk (zE (zr (ws (oV (vI e GNode.f5 zeb a_n_.fields) (oV (za ty80 e) (om e (zd h fun y265 hy265 h=>oV (vX e e sl80 hy265) (oV (za ty88 e) (oT (zC _ ze88 fun b266=>oT (tS ty88 e e p0 y265 (rn (ss (an e (zr (lP h Unit () (fun q267 g267=>[(13,ptrv b266 (Fld.id GFld)),(14,isv q267.1)]) (fun q267 g267=>[boxE zW (GMkO q267.2 g188.2),vecE g188.2 (q267.2.l:List GTyp)]) (zB (j:=13) e hI (zB (j:=14) e hI zan)) (a2 (a2 k0)) fun L268 q267 g267 Q327 h hL268 eL268 rL268=>ss (om e (om e (oV (z7 e e) (rn (ze h e (fun _ h=>?_) (fun _ h=>xn (eL268 _ _ (zw (zq (ws (om e (oV (zV e GFld.f1 zcf) ?_))))))))))))))))))))))))))))
      ·refine wk (zE (jw h Unit (fun q298 g298=>[(13,ptrv b266 (Fld.id GFld))]) (fun q298 g298=>[boxE zW (GMkO q298 g188.2),vecE g188.2 (q298.l:List GTyp)]) k2 (fun q298 g298 h=>?_) fun J299 h hJ299=>zr (zE (zdH 13 (.there (.there .here)) e (fun o300 hn301=>zH (.v 0 (.v 1 (.v 2 (.v 3 (.v 4 (.v 5 (.v 6 (.v 7 (.v 8 .nil))))))))) moOrd (by kernel_rfl) (zj e (vI e GNode.f5 zeb a_n_.fields) (zj e (za ty80 e) (rm e e (zd h fun y302 hy302 h=>zj e (vX e e sl80 hy302) (zj e (vI e GFld.f0 zms y302.name) (zj e (za ty9 e) (zj e (zhl e GFld.f0 zms) (zj e (vP ty9 e m0 y265.name) (zj e (zb6 eq9 e e) (z6 (zaZ 13 hn301 e (zq (ze h e (fun _ h=>?_) (fun _ h=>zJ (zx (hJ299 h () 11)))))))))))))))))))))
       ·exact zm (om e (zy h fun q304 h=>oV (zX e e q304) (oa e (zK (hL268 h () 9)))))
       exact zm (om e (zd h fun y303 hy303 h=>oT (tC (zbw hy303) hT (s2 e e) (a1 (a1 k0)) (rb (hJ299 h () 13)))))
      refine oT (tL ty3 e p2 y265.ty (om e (zy h fun q305 h=>oV (zX e e q305) (zd h fun y306 hy306 h=>oT (tC1 (zb1 hy306) hT (s3 e e e) k2 (fun v307=>oV (zV e GFld.f1 zcf) (oT (tS ty3 e e p2 ({ y265 with ty:=y306.1 }) (rn (ss (om e (oV (zs e) (oV (zV e zcJ zeB) (oT (tL ty38 e p1 y306.2.e (oV (zD e e) (om e (jO 3 113 h (fun q308 h=>?_) fun J309 h hJ309=>oI h (fun g310 h=>?_) fun g310 h=>oN g310 (oN g310 (oV (zg e g310 e) (hJ309 h 3)))))))))))))))))))))
      ·refine rn (jw h Unit (fun q311 g311=>[]) (fun q311 g311=>[boxE b266 (q311.1:GFld),boxE zW (GMkO q311.2 v307),vecE v307 q311.2.l]) k3 (fun q311 g311 h=>?_) fun J312 h hJ312=>ze h e (fun _ h=>?_) (fun _ h=>zJ (hJ312 h () 0)))
       ·refine ss (om e (oV (zs e) (oV (zV e zcJ zeB) (oT (tL ty38 e p1 q311.2.e (oV (zD e e) (om e (jO 3 129 h (fun q314 h=>?_) fun J315 h hJ315=>oI h (fun g316 h=>?_) fun g316 h=>oN g316 (oN g316 (oV (zg e g316 e) (hJ315 h 3)))))))))))
        ·refine rn (jw h Unit (fun q317 g317=>[(13,ptrv b266 (Fld.id GFld))]) (fun q317 g317=>[boxE zW (GMkO q317 v307),vecE v307 q317.l]) (a1 (a1 k0)) (fun q317 g317 h=>?_) fun J318 h hJ318=>ze h e (fun _ h=>?_) (fun _ h=>zJ (hJ318 h () 0)))
         ·exact zm (om e (oT (tL ty88 e p2 q311.1 (oT (zN (l:=([q311.1]:(List GFld))) el80 (.cons e hI .nil) e e (zag h fun q325 h=>oT (za7 (l:=q188.1) (m:=([q311.1]:(List GFld))) zop e hI e zG (.there (.there (.there .here))) q325 fun t324=>oa e (rb (zq (zm (om e (zy h fun q326 h=>oV (zX e e q326) (oa e (zK (hL189 h (t324,v307) 51)))))))))))))))
         exact zdH 13 .here e (fun o319 hn320=>zH (.v 0 (.v 1 (.v 2 (.v 3 (.v 4 (.v 5 (.v 6 (.t 7 (.t 8 .nil))))))))) moOrd (by kernel_rfl) (rm e e (zj e (zhl e GFld.f1 zcf) (zj e (vP ty3 e m0 q311.1.ty) (rm e e (rm e e (zj e (zhl e GFld.f1 zcf) (zj e (vP ty3 e m0 q311.1.ty) (zd h fun y321 hy321 h=>rT e (tC (zhW hy321) hT (s2 e e) k2 (zd h fun y322 hy322 h=>rT e (tC (zhI hy322) hT (s4 e e e e) k2 (z6 (zaZ 13 hn320 e (hJ318 h () 11)))))))))))))))
        exact oG g316 (zo e) (oG g316 (zal e) (oV (zh e g316 e) (hJ315 h 3)))
       exact zm (om e (oV (zV e GFld.f1 zcf) (oT (tL ty3 e p0 y306.1 (oV (zV e GFld.f4 zki) (oT (tL ty26 e p0 y265.dflt (zd h fun y313 hy313 h=>oT (tC (zjj hy313) hT (s3 e e e) (a1 (a1 k0)) (oV (zV e GFld.f4 zki) (oT (tS ty26 e e p2 ({ { y265 with ty:=y306.1 } with dflt:=y313.1 }) (zK (hJ312 h () 7))))))))))))))
      exact oG g310 (zV e GFld.f3 zgF) (oH g310 (tL ty4 e p0 y265.has (oV (zh e g310 e) (hJ309 h 3))))
     refine ws (om e (oV (zs e) (oV (zV e zbW zc0) (oT (zaz (R:=vecv g188.2 (q188.2.2.l.length)) ty29 e p1 isvV1 (om e (om e (zad h fun q328 h=>oV (zco (α:=GTyp) sl29 e e q328.1 q328.2) (oV (zjZ e GTyp.f4 zas) (zd h fun y329 hy329 h=>zI (zaA 153 e (zG)) (oT (zfc ty80 e e (.there (.there .here)) hy329 (zI (zjG (y:=(GMkO {q188.2.2 with l:=(q188.2.2.l.set a_i.toNat ({ y329 with fields:=q188.1 }))} g188.2)) (.there (.there .here)) (fun S=>(Cv.pair Cv.id (Cv.pair (Cv.vhe (by first | rfl | simp)) Cv.id)))) (rn (ws (om e (om e (oV (zs e) (oV (zV e zbW zc0) (oT (zaz (R:=vecv g188.2 ((q188.2.2.l.set a_i.toNat ({ y329 with fields:=q188.1 })).length)) ty29 e p0 isvV1 (om e (zad h fun q330 h=>oV (zco (α:=GTyp) sl29 e e q330.1 q330.2) (zd h fun y331 hy331 h=>oT (zc1 ty82 e (.there .here) hy331 (zd h fun y332 hy332 h=>oT (tC (zkP hy332) hT (s2 e e) k2 (oV (zal e) (rn ?_)))))))))))))))))))))))))))))
     refine ze h e (fun _ h=>?_) (fun _ h=>zJ (zaJ .nil k2 (iS h ▸ ⟨g188.2,e,e⟩)))
     exact zm (om e (zd h fun y333 hy333 h=>oT (tC (zbw hy333) hT (s2 e e) k2 (zK (zaJ .nil k2 (iS h ▸ ⟨g188.2,e,e⟩))))))
    exact oG g264 (zo e) (oG g264 (zs e) (oG g264 (zV e zcJ zeB) (oH g264 (tL ty38 e p1 q188.2.2.e (oG g264 (zD e e) (oV (zh e g264 e) (hJ263 h 6)))))))
   exact zm (om e (zd h fun y187 hy187 h=>oT (tC (zbw hy187) hT (s2 e e) k2 (zK (hJ186 h () 2)))))
  exact oG g184 (vI e GNode.f7 zgm a_n_.more) (oG g184 (za ty4 e) (oG g184 (zal e) (oV (zh e g184 e) (hJ183 h 4))))
 exact oG g181 (vI e GNode.f5 zeb a_n_.fields) (oG g181 (za ty80 e) (oG g181 (vN e sl80) (oG g181 (zD e e) (oV (zh e g181 e) (hJ180 h 5)))))

theorem zkY {zaM zaN za2} (zeO:zcx zaM) (zb1:zcv zaN) (zfK:zdb za2):zcv (zc6 zaM zaN za2):=by
 intro a_x a_k zL zW zam r h
 unfold zc6 at h
 refine zi Tryz.func53 e fun w0 S0 hT=>ws (an e (ss (om e (oV (zs e) (oV (zV e zcJ zeB) (oT (tL ty38 e p0 a_x.e (oV (zaC e e) (rn (ze h e (fun _ h=>?_) (fun _ h=>wk (ws (om e (oV (zs e) (oV (zV e zfO zid) (oV (zV e GMod.f4 zia) (oT (tL ty68 e p0 a_x.m.nodes (om e (zd h fun y2 hy2 h=>oV (vX e e sl68 hy2) (oV (za ty146 e) (oT (zC _ ze146 fun b3=>oT (tS ty146 e e p0 y2 (zI (z8 7 .here e) (rn (ws (an e (ss (oV (vI e GNode.f0 zbY y2.kind) ?_))))))))))))))))))))))))))))))
 ·exact ws (ar e (zz (zf (r1 e) k2 (iS h ▸ ⟨zam,e,e⟩))))
 refine oV (za ty3 e) (oV (zD e e) (rn (jw h Vt (fun q4 g4=>[(8,isv q4.1)]) (fun q4 g4=>[boxE zW (GMkO q4.2 g4),vecE g4 q4.2.l]) k2 (fun q4 g4 h=>?_) fun J5 h hJ5=>ze h e (fun _ h=>?_) (fun _ h=>zm (om e (oV (za ty146 e) (om e (zd h fun y12 hy12 h=>oT (tC1 (zfK hy12) hT (s3 e e e) k2 (fun v13=>oa e (zK (hJ5 h v13 5))))))))))))
 ·refine ss (om e (oV (zs e) (oV (zV e zcJ zeB) (oT (tL ty38 e p0 q4.2.e (oV (zD e e) (om e (jO 4 56 h (fun q14 h=>?_) fun J15 h hJ15=>oI h (fun g16 h=>?_) fun g16 h=>oN g16 (oN g16 (oN g16 (oV (zg e g16 e) (hJ15 h 4))))))))))))
  ·refine rn (jw h Unit (fun q17 g17=>[]) (fun q17 g17=>[boxE zW (GMkO q17 g4),vecE g4 q17.l]) k2 (fun q17 g17 h=>?_) fun J18 h hJ18=>ze h e (fun _ h=>?_) (fun _ h=>zJ (hJ18 h () 0)))
   ·exact ws (om e (ar e (zf (r1 e) k2 (iS h ▸ ⟨g4,e,e⟩))))
   refine ws (an e (zE (jw h Unit (fun q19 g19=>[(9,isv q19.1)]) (fun q19 g19=>[boxE zW (GMkO q19.2 g4),vecE g4 q19.2.l]) k2 (fun q19 g19 h=>?_) fun J20 h hJ20=>zr (ws (oV (vI e GNode.f2 zg7 y2.mark) (oV (vI e GMark.f2 zmi y2.mark.mode) (oV (za ty3 e) (oV (zD e e) (an e (ze h e (fun _ h=>?_) (fun _ h=>ws (oV (vI e GNode.f2 zg7 y2.mark) (oV (vI e GMark.f2 zmi y2.mark.mode) (oV (za ty3 e) (oV (zD e e) (om e (jO 7 74 h (fun q21 h=>?_) fun J22 h hJ22=>oI h (fun g23 h=>?_) fun g23 h=>oN g23 (oN g23 (oN g23 (oN g23 (oN g23 (oN g23 (oV (zg e g23 e) (hJ22 h 7))))))))))))))))))))))))
   ·exact zm (om e (om e (oV (vI e GNode.f2 zg7 y2.mark) (oV (vI e GMark.f1 zqL y2.mark.number) (oV (za ty3 e) (om e (zd h fun y25 hy25 h=>oT (tC (zhI hy25) hT (s4 e e e e) k2 (zK (hJ18 h () 9))))))))))
   ·exact zm (oa e (rb (hJ20 h () 6)))
   ·refine an e (ze h e (fun _ h=>?_) (fun _ h=>zJ (zx (hJ20 h () 12))))
    exact zm (om e (om e (zd h fun y24 hy24 h=>oT (tC (zhW hy24) hT (s2 e e) k2 (oa e (rb (hJ20 h () 16)))))))
   exact oG g23 (zo e) (oG g23 (zs e) (oG g23 (zV e zfO zid) (oG g23 (zV e GMod.f1 znX) (oH g23 (tL ty3 e p0 q4.2.m.tagging (oG g23 (zaC e e) (oV (zh e g23 e) (hJ22 h 7))))))))
  exact oG g16 (vI e GNode.f2 zg7 y2.mark) (oG g16 (vI e GMark.f0 zov y2.mark.has) (oG g16 (za ty4 e) (oV (zh e g16 e) (hJ15 h 4))))
 refine zH (.v 0 (.v 1 (.v 2 (.v 3 (.v 4 (.v 6 (.v 7 (.v 8 (.v 10 (.v 11 (.v 15 (.alt 5 (.t 9 (.t 12 (.v 13 (.v 14 (.t 16 (.v 17 .nil)))))) (.t 9 (.alt 5 (.t 12 (.v 13 (.v 14 (.t 16 (.v 17 .nil))))) (.t 12 (.t 5 (.v 13 (.v 14 (.t 16 (.v 17 .nil)))))))))))))))))))) moOrd (by kernel_rfl) (rm e e (rm e e (zj e (zs e) (zj e (zV e zfO zid) (zj e (zV e GMod.f3 zmM) (rm e e (zj e (zs e) (zj e (zV e zfO zid) (zj e (vI e GNode.f1 zoy y2.name) (zj e (za ty9 e) (rm e e (zd h fun y6 hy6 h=>zd h fun y7 hy7 h=>zd h fun y8 hy8 h=>zdu ?_ (rT e (tL ty70 e p0 a_x.m (zdu ?_ (rT e (tC (zic hy6) hT (s2 e e) k0 (rT e (tL ty28 e p0 a_x.m.types (zj e (vX e e sl28 hy7) (zj e (za ty3 e) (rT e (tC1 (zb1 hy8) hT (s3 e e e) k2 (fun v11=>zj e (zaj e) (z6 (hJ5 h v11 18))))))))))))))))))))))))))
 ·exact rT e (tL ty28 e p0 a_x.m.types (rT e (tL ty70 e p0 a_x.m (rT e (tC (zic hy6) hT (s2 e e) k0 (zj e (vX e e sl28 hy7) (zj e (za ty3 e) (rT e (tC1 (zb1 hy8) hT (s3 e e e) k2 (fun v9=>zj e (zaj e) (z6 (hJ5 h v9 18))))))))))))
 exact rT e (tL ty28 e p0 a_x.m.types (rT e (tC (zic hy6) hT (s2 e e) k0 (zj e (vX e e sl28 hy7) (zj e (za ty3 e) (rT e (tC1 (zb1 hy8) hT (s3 e e e) k2 (fun v10=>zj e (zaj e) (z6 (hJ5 h v10 18))))))))))

theorem zln {zaM zaN za2} (zeO:zcx zaM) (zb1:zcv zaN) (zfK:zdb za2):zdb (zdc zaM zaN za2):=by
 intro a_x a_n_ zL zW zam r h
 unfold zdc at h
 refine zi Tryz.func82 e fun w0 S0 hT=>ws (oT (tB e (an e (ss (om e (oV (zbc e e) (om e (jO 7 20 h (fun q2 h=>?_) fun J3 h hJ3=>oI h (fun g4 h=>?_) fun g4 h=>oG g4 (zo e) (oG g4 (zs e) (oG g4 (zV e zbW zc0) (oH g4 (zaz (R:=vecv zam (a_x.l.length)) ty29 e p0 isvV1 (oG g4 (zjm sl29 e) (oG g4 (zbF e e) (oV (zg e g4 e) (hJ3 h 7))))))))))))))))
 ·refine rn (ze h e (fun _ h=>?_) (fun _ h=>wk (ws (om e (oV (zs e) (oV (zV e zbW zc0) (oT (zaz (R:=vecv zam (a_x.l.length)) ty29 e p0 isvV1 (oV (zjm sl29 e) (an e (ws (oV (vI e GNode.f0 zbY a_n_.kind) (oV (za ty3 e) (oV (vI e GNode.f3 zjL a_n_.con) (oV (za ty78 e) (oV (vI e GNode.f6 zg8 a_n_.root) (oV (za ty3 e) (oV (vI e GNode.f7 zgm a_n_.more) (oV (za ty4 e) (oV (zaa (z:=(GTyp.mk a_n_.kind ([]:(List Tag)) a_n_.con ([]:(List GItem)) ([]:(List GFld)) a_n_.root a_n_.more (0:Int))) e bu82 ze82 (.cons GTyp.f0 zbf e hI (.cons GTyp.f2 zdZ e hI (.cons GTyp.f5 zem e hI (.cons GTyp.f6 zfk e hI .nil))))) (oT (zC _ ze82 fun b6=>oT (tS ty82 e e p0 ⟨a_n_.kind,[],a_n_.con,[],[],a_n_.root,a_n_.more,0⟩ (rn (ss (oV (vI e GNode.f0 zbY a_n_.kind) (oV (za ty3 e) (oV (zaC e e) (rn (jw h Unit (fun q7 g7=>[]) (fun q7 g7=>[boxE b6 (q7:GTyp)]) k1 (fun q7 g7 h=>?_) fun J8 h hJ8=>ze h e (fun _ h=>?_) (fun _ h=>?_)))))))))))))))))))))))))))))))
  ·exact ws (om e (zd h fun y5 hy5 h=>oT (tC (zbw hy5) hT (s2 e e) k2 (rn (ws (ar e (zz (zf (r1 e) k2 (iS h ▸ ⟨zam,e,e⟩)))))))))
  ·refine zE (jw h Vt (fun q11 g11=>[(8,anyv)]) (fun q11 g11=>[boxE zW (GMkO q11 g11),vecE g11 q11.l]) (a1 (a1 k0)) (fun q11 g11 h=>?_) fun J12 h hJ12=>zdH 8 .here e (fun o13 hn14=>zH (.v 0 (.v 1 (.v 2 (.v 3 (.v 5 (.alt 4 (.t 6 (.t 7 (.v 8 (.v 9 (.t 10 .nil))))) (.t 6 (.t 4 (.t 7 (.v 8 (.v 9 (.t 10 .nil)))))))))))) moOrd (by kernel_rfl) (rm e e (rm e e (zj e (zs e) (zj e (zV e zbW zc0) (zj e (vP ty82 e m0 q7) (zag h fun q17 h=>zdu ?_ (rT e (zN (l:=([q7]:(List GTyp))) el29 (.cons e hI .nil) e e (rT e (zaz (R:=vecv zam (a_x.l.length)) ty29 e p0 isvV1 (rT e (zjA (m:=([q7]:(List GTyp))) zqu e e zG (.there .here) (by first | rfl | simp) q17 fun v19=>zj e (zs e) (zj e (zV e zbW zc0) (rT e (tR ty29 e e isvV2 p1 (GMkO {a_x with l:=(a_x.l ++ ([q7]:(List GTyp)))} v19) e (z6 (zaZ 8 hn14 e (hJ12 h v19 12))))))))))))))))))))
   ·refine ss (oV (vI e GNode.f0 zbY a_n_.kind) (oV (za ty3 e) (rn (jw h Vt (fun q20 g20=>[]) (fun q20 g20=>[boxE zW (GMkO q20 g20),vecE g20 q20.l]) k2 (fun q20 g20 h=>?_) fun J21 h hJ21=>zr (ss (oV (zD e e) (an e (jW 57 h (fun q22 h=>?_) fun J23 h hJ23=>ze h e (fun _ h=>?_) (fun _ h=>ws (oV (zD e e) (an e (ze h e (fun _ h=>?_) (fun _ h=>ws (oV (zD e e) (an e (ze h e (fun _ h=>?_) (fun _ h=>zm (oV (zD e e) (oa e (zK (hJ23 h 6)))))))))))))))))))))
    ·exact ws (om e (ar e (zf (r1 e) k2 (iS h ▸ ⟨g20,e,e⟩))))
    ·refine ze h e (fun _ h=>?_) (fun _ h=>ws (oV (zD e e) (an e (ze h e (fun _ h=>?_) (fun _ h=>ss (oV (zD e e) (an e (jW 107 h (fun q37 h=>?_) fun J38 h hJ38=>ze h e (fun _ h=>?_) (fun _ h=>ws (oV (zD e e) (an e (ze h e (fun _ h=>?_) (fun _ h=>zm (oV (zD e e) (oa e (zK (hJ38 h 4)))))))))))))))))
     ·refine ws (oV (vI e GNode.f3 zjL a_n_.con) (oV (za ty78 e) (oV (vI e GNode.f0 zbY a_n_.kind) (oV (za ty3 e) (oV (zaC e e) (zd h fun y24 hy24 h=>oT (tC (zpq hy24) hT (s2 e e) k0 (an e (ss (om e (oV (zaC e e) (rn (jw h Unit (fun q25 g25=>[]) (fun q25 g25=>[boxE zW (GMkO q25 g11),vecE g11 q25.l]) k2 (fun q25 g25 h=>?_) fun J26 h hJ26=>ze h e (fun _ h=>?_) (fun _ h=>zJ (hJ26 h () 0)))))))))))))))
      ·refine ws (oV (vI e GNode.f0 zbY a_n_.kind) (oV (za ty3 e) (oV (zD e e) (rn (ze h e (fun _ h=>?_) (fun _ h=>zJ (zx (hJ21 h g11 15))))))))
       refine ws (om e (oV (vI e GNode.f8 znU a_n_.of) (oV (za ty3 e) (om e (zy h fun q28 h=>oV (zX e e q28) (zd h fun y29 hy29 h=>oT (tC1 (zb1 hy29) hT (s3 e e e) k2 (fun v30=>an e (ws (om e (oV (zs e) (oV (zV e zcJ zeB) (oT (tL ty38 e p0 y29.2.e (oV (zD e e) (rn (ze h e (fun _ h=>?_) (fun _ h=>zJ (zx (hJ21 h v30 27))))))))))))))))))))
       exact zm (om e (oV (zs e) (oV (zV e zbW zc0) (oT (zaz (R:=vecv v30 (y29.2.l.length)) ty29 e p0 isvV1 (om e (om e (zad h fun q31 h=>oV (zco (α:=GTyp) sl29 e e q31.1 q31.2) (oV (zjZ e GTyp.f7 zku) (zd h fun y32 hy32 h=>oT (zfc ty3 e e (.there .here) hy32 (zI (zjG (y:=(GMkO {y29.2 with l:=(y29.2.l.set (((a_x.l.length:Nat):Int).toNat) ({ y32 with of:=y29.1 }))} v30)) (.there .here) (fun S=>(Cv.pair Cv.id (Cv.pair (Cv.vhe (by first | rfl | simp)) Cv.id)))) (rb (hJ21 h v30 35))))))))))))))
      exact zm (om e (om e (zd h fun y27 hy27 h=>oT (tC (zbw hy27) hT (s2 e e) k2 (zK (hJ26 h () 3))))))
     ·refine zH (.v 0 (.v 1 (.v 2 (.v 4 (.v 5 (.v 6 (.alt 3 (.t 7 (.v 8 (.v 9 (.t 10 .nil)))) (.t 7 (.t 3 (.v 8 (.v 9 (.t 10 .nil)))))))))))) moOrd (by kernel_rfl) (rm e e (zj e (zs e) (zj e (zV e zbW zc0) (rm e e (rm e e (zj e (za ty146 e) (zd h fun y33 hy33 h=>zad h fun q34 h=>zad h fun q35 h=>zd h fun y36 hy36 h=>zdu ?_ (rT e (tC (zhi hy33) hT (s2 e e) k2 (rT e (zaz (R:=vecv g11 (y33.2.l.length)) ty29 e p0 isvV1 (zj e (zco (α:=GTyp) sl29 e e (by omega) (by omega)) (zj e (zjZ e GTyp.f3 zeo) (rT e (zfc ty79 e e (.there .here) hy36 (zbG (zjG (y:=(GMkO {y33.2 with l:=(y33.2.l.set (((a_x.l.length:Nat):Int).toNat) ({ y36 with items:=y33.1 }))} g11)) (.there .here) (fun S=>(Cv.pair Cv.id (Cv.pair (Cv.vhe (by first | rfl | simp)) Cv.id)))) (z6 (zx (hJ21 h g11 15)))))))))))))))))))
      exact rT e (zaz (R:=vecv g11 (q11.l.length)) ty29 e p0 isvV1 (rT e (tC (zhi hy33) hT (s2 e e) k2 (zj e (zco (α:=GTyp) sl29 e e q35.1 q35.2) (zj e (zjZ e GTyp.f3 zeo) (rT e (zfc ty79 e e (.there .here) hy36 (zbG (zjG (y:=(GMkO {y33.2 with l:=(y33.2.l.set (((a_x.l.length:Nat):Int).toNat) ({ y36 with items:=y33.1 }))} g11)) (.there .here) (fun S=>(Cv.pair Cv.id (Cv.pair (Cv.vhe (by first | rfl | simp)) Cv.id)))) (z6 (zx (hJ21 h g11 15)))))))))))
     ·refine ze h e (fun _ h=>?_) (fun _ h=>zJ (zx (hJ21 h g11 8)))
      exact zm (om e (om e (oV (za ty146 e) (om e (zd h fun y39 hy39 h=>oT (tC1 (zeO hy39) hT (s4 e e e e) k2 (fun v40=>rb (hJ21 h v40 13))))))))
     ·exact zJ (hJ38 h 0)
     exact zJ (hJ38 h 2)
    ·exact zJ (hJ23 h 0)
    ·exact zJ (hJ23 h 2)
    exact zJ (hJ23 h 4)
   exact rT e (zaz (R:=vecv zam (a_x.l.length)) ty29 e p0 isvV1 (rT e (zN (l:=([q7]:(List GTyp))) el29 (.cons e hI .nil) e e (rT e (zjA (m:=([q7]:(List GTyp))) zqu e e zG (.there .here) (by first | rfl | simp) q17 fun v16=>zj e (zs e) (zj e (zV e zbW zc0) (rT e (tR ty29 e e isvV2 p1 (GMkO {a_x with l:=(a_x.l ++ ([q7]:(List GTyp)))} v16) e (z6 (zaZ 8 hn14 e (hJ12 h v16 12)))))))))))
  ·exact zm (oV (vI e GNode.f0 zbY a_n_.kind) (oV (za ty3 e) (zd h fun y9 hy9 h=>oT (tC (zl7 hy9) hT (s1 e) k0 (oT (zN (l:=([y9]:(List Tag))) el76 (.cons e hI .nil) e e (oV (zV e GTyp.f1 ze4) (oT (tR ty76 e e zG p0 ⟨a_n_.kind,([y9]:(List Tag)),a_n_.con,[],[],a_n_.root,a_n_.more,0⟩ e (zK (hJ8 h () 5)))))))))))
  exact zJ (hJ8 h () 0)
 exact oN g4 (oN g4 (oN g4 (oN g4 (oN g4 (oN g4 (oV (zh e g4 e) (hJ3 h 7)))))))

theorem zfa:∀ n,zcx (zef n)∧zcv (ze7 n)∧zdb (zfx n)
  | 0=>⟨fun h=>(by cases h),fun h=>(by cases h),fun h=>(by cases h)⟩
  | n + 1=>by
    obtain ⟨h0,h1,h2⟩:=zfa n
    exact ⟨zj0 h0 h1 h2,zkY h0 h1 h2,zln h0 h1 h2⟩
theorem zh1 (n:Nat):zcv (ze7 n):=(zfa n).2.1
theorem zp5 {a_m r} (h:zhH a_m=some r):Ctr Tryz.prog 27 [isv a_m] [] (Pt [isv r.1,isv r.2.1,isv r.2.2] []):=by
 unfold zhH at h
 refine zi Tryz.func27 e fun w0 S0 hT=>ws (oT (tB e (oT (zC _ ze31 fun b1=>oa e (an e (ws (oV (za ty70 e) (zd h fun y2 hy2 h=>oT (tC (zo0 hy2) hT (s1 e) k0 (om e (oV (zA e e) (oV (zA e e) (oV (zA e e) (oa e (oa e (an e (ss (om e (oV (zaC e e) (rn (ze h e (fun _ h=>?_) (fun _ h=>wk (ws (oV (za ty70 e) (oV (zaa (z:=((a_m,(Vh.mk none 0),(0:Int)):GMkOT)) e bu117 ztV (.cons zfO zid e hI .nil)) (oT (zlL (y:=((a_m,(Vh.mk none 0),(0:Int)):GMkOT)) e hI fun b3=>zI (zee (α:=GTyp)) (an e (zE ?_)))))))))))))))))))))))))))))
 ·exact ws (oV (zaa (z:=(GTab.mk (Str.mk []) ([]:(List Str)) ([]:(List Int)) ([]:(List GTyp)))) e bu31 ze31 .nil) (om e (om e (oT (tS ty31 e e p0 ⟨⟨[]⟩,[],[],[]⟩ (oa e (ar e (zz (zf (.cell e .here ty31 (.tmp e (.tmp e .nil))) k0 (iS h ▸ ⟨e,e⟩))))))))))
 refine jw h (Nat × Tok) (fun q5 g5=>[(9,ptrv g5.1 (Fld.id (Str × (List Str) × (TList Int) × (List GTyp))))]) (fun q5 g5=>[boxE g5.1 ((q5.name,q5.names,(TList.mk g5.2 q5.roots),q5.types):(Str × (List Str) × (TList Int) × (List GTyp))),tokE g5.2]) k0 (fun q5 g5 h=>?_) fun J6 h hJ6=>zH (.v 0 (.v 1 (.v 2 (.v 3 (.alt 4 (.v 5 (.t 6 (.t 7 .nil))) (.t 6 (.t 4 (.v 5 (.t 7 .nil))))))))) moOrd (by kernel_rfl) (zj e (vI e GMod.f0 zso a_m.name) (zj e (za ty9 e) (zj e (vI e GMod.f2 zfq a_m.names) (zj e (za ty27 e) (zag h fun q8 h=>zdu ?_ (rT e (zC _ zod fun b12=>zbG (zau) (rT e (zlv (m:=a_m.names) zol e e hI q8 fun t14=>zj e (zaa (z:=((a_m.name,(([]:(List Str)) ++ a_m.names),(TList.mk none ([]:(List Int))),([]:(List GTyp))):(Str × (List Str) × (TList Int) × (List GTyp)))) e bu31 zod (.cons zoV znT e hI (.cons zoC zkm e zG .nil))) (zbG (zau) (rT e (tS ty31 e e p3 (a_m.name,([] ++ a_m.names),⟨none,[]⟩,[]) (z6 (hJ6 h (b12,none) 7))))))))))))))
 ·refine ss (an e (zr (lP h (Tok × Vt) (g5.2,none) (fun q16 g16=>[(10,isv q16.1)]) (fun q16 g16=>[boxE g5.1 ((q16.2.1.name,q16.2.1.names,(TList.mk g16.1 q16.2.1.roots),q16.2.1.types):(Str × (List Str) × (TList Int) × (List GTyp))),tokE g16.1,boxE b3 (GMkO q16.2.2 g16.2),vecE g16.2 (q16.2.2.l:List GTyp)]) (zB (j:=10) e hI zan) (a0 (a0 (a1 k1))) fun L17 q16 g16 Q50 h hL17 eL17 rL17=>ss (om e (oV (vI e GMod.f2 zfq a_m.names) (oV (za ty27 e) (oV (vN e sl27) (oV (z7 e e) (rn (ze h e (fun _ h=>?_) (fun _ h=>xn (eL17 _ _ (zw (zq (ws (om e (oV (zs e) (oV (zV e zbW zc0) (oT (zaz (R:=vecv g16.2 (q16.2.2.l.length)) ty29 e p2 isvV1 (oV (zV e zsm zbb) (zI (zhG 64 (.there (.there (.there .here))) e (by first | rfl | simp)) (oT (tS ty29 e e p0 (q16.2.1.name,q16.2.1.names,⟨g16.1,q16.2.1.roots⟩,q16.2.2.l) (rn (ws (oT (zaz (y:=((q16.2.1.name,q16.2.1.names,(TList.mk g16.1 q16.2.1.roots),q16.2.2.l):(Str × (List Str) × (TList Int) × (List GTyp)))) (R:=isv (((q16.2.1.name,q16.2.1.names,(TList.mk g16.1 q16.2.1.roots),q16.2.2.l)):((Str × (List Str) × (TList Int) × (List GTyp))))) ty31 e .here (by exact hI) (zI (zaA (R':=isv ((GTab.mk q16.2.1.name q16.2.1.names q16.2.1.roots q16.2.2.l))) 66 e (Cv.isv e fun S=>(fun cs h=>GTab.cv (x:=(GTab.mk q16.2.1.name q16.2.1.names q16.2.1.roots q16.2.2.l)) cs (((Cv.pair Cv.id (Cv.pair Cv.id (Cv.pair Cv.tl Cv.id))):Cv S ((q16.2.1.name,q16.2.1.names,(TList.mk g16.1 q16.2.1.roots),q16.2.2.l):(Str × (List Str) × (TList Int) × (List GTyp))) (GTab.to (GTab.mk q16.2.1.name q16.2.1.names q16.2.1.roots q16.2.2.l))) cs h)))) (oT (tS ty31 e e p3 ⟨q16.2.1.name,q16.2.1.names,q16.2.1.roots,q16.2.2.l⟩ (oa e ?_))))))))))))))))))))))))))))))))
  ·refine wk (zE (zr (zE (jw h (Tok × Vt) (fun q34 g34=>[]) (fun q34 g34=>[boxE g5.1 ((q34.1.name,q34.1.names,(TList.mk g34.1 q34.1.roots),q34.1.types):(Str × (List Str) × (TList Int) × (List GTyp))),tokE g34.1,boxE b3 (GMkO q34.2 g34.2),vecE g34.2 (q34.2.l:List GTyp)]) (a0 (a1 k2)) (fun q34 g34 h=>?_) fun J35 h hJ35=>zH (.v 0 (.v 2 (.v 3 (.v 4 (.v 5 (.v 6 (.v 7 (.alt 1 (.t 8 (.t 9 (.t 10 (.v 11 (.t 12 .nil))))) (.t 8 (.alt 1 (.t 9 (.t 10 (.v 11 (.t 12 .nil)))) (.t 9 (.t 1 (.t 10 (.v 11 (.t 12 .nil))))))))))))))) moOrd (by kernel_rfl) (zj e (zV e zkT zgc) (rm e e (zj e (vI e GMod.f3 zmM a_m.types) (zj e (za ty28 e) (rm e e (zd h fun y36 hy36 h=>zj e (vX e e sl28 hy36) (zj e (za ty3 e) (zd h fun y37 hy37 h=>zag h fun q41 h=>zdu ?_ (rT e (tC1 (zh1 fuel hy37) hT (s3 e e e) (a2 (a2 k0)) (fun v42=>zdu ?_ (rT e (zN (l:=([y37.1]:(List Int))) el28 (.cons e hI .nil) e e (rT e (zaz (R:=appv g16.1 q16.2.1.roots) ty28 e p2 isvT1 (rT e (za7 (l:=q16.2.1.roots) (m:=([y37.1]:(List Int))) zeA e hI e zG (.there (.there (.there .here))) q41 fun t46=>zj e (zV e zkT zgc) (rT e (tR ty28 e e isvT2 p3 (q16.2.1.name,q16.2.1.names,⟨t46,(q16.2.1.roots ++ ([y37.1]:(List Int)))⟩,q16.2.1.types) e (z6 (hJ35 h (t46,v42) 12)))))))))))))))))))))))))
   ·refine ws (om e (oV (zs e) (oV (zV e zcJ zeB) (oT (tL ty38 e p2 q34.2.e (oV (zaC e e) (rn (ze h e (fun _ h=>?_) (fun _ h=>zJ (zx (zq (zm (om e (zy h fun q49 h=>oV (zX e e q49) (oa e (zK (hL17 h (g34.1,g34.2) 14)))))))))))))))))
    exact zE (zdH 8 (.there (.there .here)) e (fun o47 hn48=>zH (.v 0 (.v 1 (.v 2 (.v 3 (.v 4 (.v 5 (.t 6 (.v 7 (.v 8 .nil))))))))) moOrd (by kernel_rfl) (zj e (zaa (z:=(GTab.mk (Str.mk []) ([]:(List Str)) ([]:(List Int)) ([]:(List GTyp)))) e bu31 ze31 .nil) (rm e e (rm e e (zj e (zbA e) (zj e (zhl e zcJ zeB) (zj e (vP ty38 e m0 q34.2.e) (rT e (tS ty31 e e p3 ⟨⟨[]⟩,[],[],[]⟩ (zj e (zaj e) (zj e (zaj e) (z6 (zaZ 8 hn48 e (zq (zaQ (bn (rL17 _ (bn (zf (.cell e (.there .here) ty31 (.tmp e (.tmp e .nil))) k0 (iS h ▸ ⟨e,e⟩)))))))))))))))))))))
   ·exact rT e (zaz (R:=appv g16.1 q16.2.1.roots) ty28 e p0 isvT1 (rT e (tC1 (zh1 fuel hy37) hT (s3 e e e) (a2 (a2 k0)) (fun v38=>rT e (zN (l:=([y37.1]:(List Int))) el28 (.cons e hI .nil) e e (rT e (za7 (l:=q16.2.1.roots) (m:=([y37.1]:(List Int))) zeA e hI e zG (.there (.there (.there .here))) q41 fun t40=>zj e (zV e zkT zgc) (rT e (tR ty28 e e isvT2 p3 (q16.2.1.name,q16.2.1.names,⟨t40,(q16.2.1.roots ++ ([y37.1]:(List Int)))⟩,q16.2.1.types) e (z6 (hJ35 h (t40,v38) 12)))))))))))
   exact rT e (zaz (R:=appv g16.1 q16.2.1.roots) ty28 e p2 isvT1 (rT e (zN (l:=([y37.1]:(List Int))) el28 (.cons e hI .nil) e e (rT e (za7 (l:=q16.2.1.roots) (m:=([y37.1]:(List Int))) zeA e hI e zG (.there (.there (.there .here))) q41 fun t44=>zj e (zV e zkT zgc) (rT e (tR ty28 e e isvT2 p3 (q16.2.1.name,q16.2.1.names,⟨t44,(q16.2.1.roots ++ ([y37.1]:(List Int)))⟩,q16.2.1.types) e (z6 (hJ35 h (t44,v42) 12)))))))))
  exact ar e (zf (.cell e .here ty31 (.tmp e (.tmp e .nil))) k0 (iS h ▸ ⟨e,e⟩))
 exact rT e (zlv (m:=a_m.names) zol e e hI q8 fun t7=>zj e (zaa (z:=((a_m.name,(([]:(List Str)) ++ a_m.names),(TList.mk none ([]:(List Int))),([]:(List GTyp))):(Str × (List Str) × (TList Int) × (List GTyp)))) e bu31 zod (.cons zoV znT e hI (.cons zoC zkm e zG .nil))) (rT e (zC _ zod fun b9=>zbG (zau) (zbG (zau) (rT e (tS ty31 e e p2 (a_m.name,([] ++ a_m.names),⟨none,[]⟩,[]) (z6 (hJ6 h (b9,none) 7))))))))


theorem ze2 {zbM r} (h:zbE zbM=some r):Ctr Tryz.prog 11 [isv zbM] [] (Pt [isv r.1,isv r.2] []):=by
 unfold zbE at h
 refine zi Tryz.func11 e fun w0 S0 hT=>ws (oT (zC _ ze31 fun b1=>an e (ss (om e (oV (zeN st9 e) (oV (zbc e e) (rn (ze h e (fun _ h=>?_) (fun _ h=>wk (ws (om e (zd h fun y2 hy2 h=>oT (tC (zpB hy2) hT (s1 e) k0 (om e (oV (zA e e) (oV (zA e e) (oV (zA e e) (oT (zC _ ze70 fun b3=>oT (tS ty70 e e p0 y2.1 (zI (z8 4 .here e) (oa e (an e (ss (om e (oV (zaC e e) (rn (ze h e (fun _ h=>?_) (fun _ h=>wk ?_)))))))))))))))))))))))))))))
 ·exact ws (oV (zaa (z:=(GTab.mk (Str.mk []) ([]:(List Str)) ([]:(List Int)) ([]:(List GTyp)))) e bu31 ze31 .nil) (oT (tS ty31 e e p0 ⟨⟨[]⟩,[],[],[]⟩ (ar e (zz (zf (.cell e .here ty31 (.tmp e .nil)) k0 (iS h ▸ ⟨e,e⟩)))))))
 ·exact ws (oV (zaa (z:=(GTab.mk (Str.mk []) ([]:(List Str)) ([]:(List Int)) ([]:(List GTyp)))) e bu31 ze31 .nil) (oT (tS ty31 e e p0 ⟨⟨[]⟩,[],[],[]⟩ (ar e (zz (zf (.cell e .here ty31 (.tmp e .nil)) k0 (iS h ▸ ⟨e,e⟩)))))))
 refine ws (oV (za ty70 e) (zd h fun y4 hy4 h=>oT (tC (zp5 hy4) hT (s1 e) k0 (om e (oV (zA e e) (oV (zA e e) (oV (zA e e) (oT (zC _ ze31 fun b5=>oT (tS ty31 e e p0 y4.1 (zI (z8 7 .here e) (oa e (an e (zE (zH (.v 0 (.v 1 (.v 2 (.v 3 (.v 4 (.v 5 (.v 6 (.v 7 (.v 8 (.t 9 (.v 10 .nil))))))))))) moOrd (by kernel_rfl) (zj e (za ty31 e) (rm e e (zj e (zD e e) (rm e e (jD 5 37 h (fun q6 h=>?_) fun J7 h hJ7=>rJ h (fun g8 h=>?_) fun g8 h=>rP e g8 (rP e g8 (rP e g8 (rP e g8 (zj e (zg e g8 e) (hJ7 h 5)))))))))))))))))))))))))
 ·exact rT e (tS ty31 e e p0 y4.1 (zj e (zaj e) (z6 (zq (zaQ (zf (.cell e .here ty31 (.tmp e .nil)) k0 (iS h ▸ ⟨e,e⟩)))))))
 exact rG e g8 (vI e GTab.f3 zbb y4.1.types) (rG e g8 (za ty29 e) (rG e g8 (vN e sl29) (rG e g8 (zjo e e) (zj e (zh e g8 e) (hJ7 h 5)))))

end Go.Proofs.Q

