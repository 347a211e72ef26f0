/- Walks, printed by mill.py. -/
import Derived.Test.YtnnijoepfgnlfaaGreatDoorVzA
import Derived.Test.YtnnijoepfgnlfaaGreatDoorVzB
import Derived.Test.YtnnijoepfgnlfaaGreatDoorVzC
import Derived.Test.YtnnijoepfgnlfaaGreatDoorProg
import Derived.Shelf.Unicode.ValidAny
import Derived.KernelRfl
set_option linter.unusedVariables false
set_option linter.unusedSimpArgs false

namespace Go.Proofs.Q
open Go.Sy
set_option maxRecDepth 4000
end Go.Proofs.Q


namespace Go.Proofs.Q
open Go.Sy
set_option maxRecDepth 4000
end Go.Proofs.Q


namespace Go.Proofs.Q
open Go.Sy
set_option maxRecDepth 4000
end Go.Proofs.Q


namespace Go.Proofs.Q
open Go.Sy
def valRen:Shelf.Ren:=⟨fun x=>bif Nat.beq x 196 then 172 else bif Nat.beq x 259 then 184 else x,fun x=>bif Nat.beq x 0 then 0 else bif Nat.beq x 3 then 3 else bif Nat.beq x 4 then 4 else bif Nat.beq x 5 then 5 else bif Nat.beq x 9 then 9 else bif Nat.beq x 12 then 12 else bif Nat.beq x 46 then 39 else bif Nat.beq x 53 then 41 else bif Nat.beq x 119 then 190 else bif Nat.beq x 138 then 192 else bif Nat.beq x 139 then 193 else x,fun x=>bif Nat.beq x 3 then 0 else bif Nat.beq x 4 then 1 else x⟩
set_option maxRecDepth 100000 in
theorem valLays:Lays.n196 Tryz.prog valRen:={
  mixed:=by kernel_rfl
  f196:=Tryz.func172.trans (by kernel_rfl)
  f259:=Tryz.func184.trans (by kernel_rfl)
  t0:=Tryz.underlying0
  a0:=Tryz.isAgg0
  z0:=Tryz.sizeOf0
  v0:=Tryz.zeroValue0
  t3:=Tryz.underlying3
  a3:=Tryz.isAgg3
  z3:=Tryz.sizeOf3
  v3:=Tryz.zeroValue3
  t4:=Tryz.underlying4
  a4:=Tryz.isAgg4
  z4:=Tryz.sizeOf4
  v4:=Tryz.zeroValue4
  t5:=Tryz.underlying5
  a5:=Tryz.isAgg5
  z5:=Tryz.sizeOf5
  v5:=Tryz.zeroValue5
  t9:=Tryz.underlying9
  a9:=Tryz.isAgg9
  z9:=Tryz.sizeOf9
  v9:=Tryz.zeroValue9
  t12:=Tryz.underlying12
  a12:=Tryz.isAgg12
  z12:=Tryz.sizeOf12
  v12:=Tryz.zeroValue12
  t46:=Tryz.underlying39
  a46:=Tryz.isAgg39
  z46:=Tryz.sizeOf39
  v46:=Tryz.zeroValue39
  t53:=Tryz.underlying41
  a53:=Tryz.isAgg41
  z53:=Tryz.sizeOf41
  v53:=Tryz.zeroValue41
  t119:=Tryz.underlying190
  a119:=Tryz.isAgg190
  z119:=Tryz.sizeOf190
  t138:=Tryz.underlying192
  a138:=Tryz.isAgg192
  z138:=Tryz.sizeOf192
  v138:=Tryz.zeroValue192
  t139:=Tryz.underlying193
  a139:=Tryz.isAgg193
  z139:=Tryz.sizeOf193
  v139:=Tryz.zeroValue193
  g3:=by kernel_rfl
  g4:=by kernel_rfl }
theorem zhU:∀ {a_s:Str} {r:Bool},utf8_ValidString a_s=some r→Ctr Tryz.prog 172 [isv (a_s)] [] (fun R H=>R=oneOf [isv (r)]∧H=[]):=by
  intro s r h
  obtain rfl:=Option.some.inj h
  refine ⟨⟨_,Tryz.func172,rfl,by decide +kernel⟩,fun S w vs hT hs hv ho=>?_⟩
  match vs,hv with
  | [v],⟨hv,_⟩ =>
    obtain ⟨rfl,hl⟩:=zds.1 hv
    have hb:=Any.utf8_ValidString valLays s.ba w (by rw [Str.ba_size];unfold maxText at hl;omega) (hT w hs _ _ valLays.g3 valLays.g4)
    refine hb.mono fun e w' ⟨he,hk⟩=>⟨.bool (Lib.validD s.ba.data.toList),S,_,[],⟨rfl,rfl⟩,he,?_,⟨⟨hk.os,hk.tape,hk.output,hk.size,fun k hk' _=>hk.block k hk'⟩,Go.Sy.Grow.refl _ _ _,fun b cs hb=>?_⟩,zeS _ _ _ _⟩
    · refine zbg.2 ?_
      show Value.bool (Lib.validD s.b.toArray.toList)=_
      rfl
    · obtain ⟨c,T,fr,h1,h2⟩:=hs b cs hb
      exact ⟨c,T,fr,by rw [hk.block b (Array.getElem?_eq_some_iff.1 h1).1];exact h1,h2⟩
end Go.Proofs.Q


namespace Go.Proofs.Q
open Go.Sy
set_option maxRecDepth 4000
@[reducible] def zhw:Fld ((List GTok) × Int × (Str × Int × (TList Str) × (TList Int) × Vh) × Int × Int) (List GTok):=pf0
@[reducible] def zf8:Fld ((List GTok) × Int × (Str × Int × (TList Str) × (TList Int) × Vh) × Int × Int) Int:=pf1
@[reducible] def zbD:Fld ((List GTok) × Int × (Str × Int × (TList Str) × (TList Int) × Vh) × Int × Int) Int:=pf3
@[reducible] def zkr:Fld ((List GTok) × Int × (Str × Int × (TList Str) × (TList Int) × Vh) × Int × Int) Int:=pl4
@[reducible] def zcf:Fld ((List GTok) × Int × (Str × Int × (TList Str) × (TList Int) × Vh) × Int × Int) (Str × Int × (TList Str) × (TList Int) × Vh):=pf2
@[reducible] def zoS:Fld (Str × Int × (TList Str) × (TList Int) × Vh) Str:=pf0
@[reducible] def zlD:Fld (Str × Int × (TList Str) × (TList Int) × Vh) Int:=pf1
@[reducible] def zjx:Fld (Str × Int × (TList Str) × (TList Int) × Vh) (TList Str):=pf2
@[reducible] def zgU:Fld (Str × Int × (TList Str) × (TList Int) × Vh) Vh:=pl4
@[reducible] def ziT:Fld (Int × Str × GMark × GCon × (TList GItem) × (TList GFld) × Int × Bool × Int) GMark:=pf2
@[reducible] def zcA:Fld (Int × Str × GMark × GCon × (TList GItem) × (TList GFld) × Int × Bool × Int) Int:=pf0
@[reducible] def zhz:Fld (Int × Str × GMark × GCon × (TList GItem) × (TList GFld) × Int × Bool × Int) GCon:=pf3
@[reducible] def zff:Fld (Int × Str × GMark × GCon × (TList GItem) × (TList GFld) × Int × Bool × Int) (TList GItem):=pf4
@[reducible] def zeD:Fld (Int × Str × GMark × GCon × (TList GItem) × (TList GFld) × Int × Bool × Int) Bool:=pf7
@[reducible] def zhn:Fld (Int × Str × GMark × GCon × (TList GItem) × (TList GFld) × Int × Bool × Int) Int:=pf6
@[reducible] def zfX:Fld (Int × Str × GMark × GCon × (TList GItem) × (TList GFld) × Int × Bool × Int) (TList GFld):=pf5
@[reducible] def znB:Fld (Int × Str × GMark × GCon × (TList GItem) × (TList GFld) × Int × Bool × Int) Int:=pl8
@[reducible] def znp:Fld (Int × Str × GMark × GCon × (TList GItem) × (TList GFld) × Int × Bool × Int) Str:=pf1
@[reducible] def zl9:Fld (Str × Int × (TList Str) × (TList Int) × Vh) (TList Int):=pf3
@[reducible] def zny:Fld ((List GTok) × Int × (Str × Int × (TList Str) × (TList Int) × (List GNode)) × Int × Int) (Str × Int × (TList Str) × (TList Int) × (List GNode)):=pf2
theorem ze73:ZeroOk Tryz.prog 73 ((GMod.mk (Str.mk []) (0:Int) ([]:(List Str)) ([]:(List Int)) ([]:(List GNode))):GMod):=zbO (cs:=[.string ⟨#[]⟩,.int .i64 0,.slice none 0 0,.slice none 0 0,.slice none 0 0]) rfl (by kernel_rfl) (zT zeT (zT za3 (zT zbp (zT zbp zbp))))
theorem st9:StrB Tryz.prog 9=true:=by kernel_rfl
theorem eq5:EqOk Tryz.prog 5 UInt8:=EqOk.u8
theorem zls:FldB Tryz.prog 133 2 2 1 false=true:=by kernel_rfl
theorem bu133:BuildB Tryz.prog 133=true:=by kernel_rfl
theorem ze133:ZeroOk Tryz.prog 133 ((GTok.mk (0:Int) (Str.mk []) (0:Int)):GTok):=zbO (cs:=[.int .i64 0,.string ⟨#[]⟩,.int .i64 0]) rfl (by kernel_rfl) (zT za3 (zT zeT za3))
theorem el124:elB Tryz.prog 124 3=true:=by kernel_rfl
theorem zkx:appB Tryz.prog 124 124 3=true:=by kernel_rfl
theorem ty133:TyB Tryz.prog 133 3 true=true:=by kernel_rfl
theorem moOrd:Tryz.prog.follows .mixedOrders=true:=by kernel_rfl
theorem zci:FldB Tryz.prog 133 0 0 1 false=true:=by kernel_rfl
theorem ty3:TyB Tryz.prog 3 1 false=true:=by kernel_rfl
theorem zc8:FldB Tryz.prog 133 1 1 1 false=true:=by kernel_rfl
theorem ty9:TyB Tryz.prog 9 1 false=true:=by kernel_rfl
theorem el22:elB Tryz.prog 22 1=true:=by kernel_rfl
theorem sl22:SlB Tryz.prog 22 1 false=true:=by kernel_rfl
theorem eq9:EqOk Tryz.prog 9 Str:=EqOk.str
theorem bu73:BuildB Tryz.prog 73=true:=by kernel_rfl
theorem ty73:TyB Tryz.prog 73 5 true=true:=by kernel_rfl
theorem zjq:FldB Tryz.prog 129 0 0 1 false=true:=by kernel_rfl
theorem bu129:BuildB Tryz.prog 129=true:=by kernel_rfl
theorem zpo:ZeroOk Tryz.prog 129 ((([]:(List GTok)),(0:Int),((Str.mk []),(0:Int),(TList.mk none ([]:(List Str))),(TList.mk none ([]:(List Int))),(Vh.mk none 0)),(0:Int),(0:Int)):((List GTok) × Int × (Str × Int × (TList Str) × (TList Int) × Vh) × Int × Int)):=zbO (cs:=[.slice none 0 0,.int .i64 0,.string ⟨#[]⟩,.int .i64 0,.slice none 0 0,.slice none 0 0,.slice none 0 0,.int .i64 0,.int .i64 0]) rfl (by kernel_rfl) (zT zbp (zT za3 (zT (zT zeT (zT za3 (zT zku (zT zku zpE)))) (zT za3 za3))))
theorem ty124:TyB Tryz.prog 124 1 false=true:=by kernel_rfl
theorem zis:FldB Tryz.prog 129 1 1 1 false=true:=by kernel_rfl
theorem sl124:SlB Tryz.prog 124 3 true=true:=by kernel_rfl
theorem zcv:FldB Tryz.prog 129 3 7 1 false=true:=by kernel_rfl
theorem ty65:TyB Tryz.prog 65 1 false=true:=by kernel_rfl
theorem zmM:FldB Tryz.prog 129 4 8 1 false=true:=by kernel_rfl
theorem zc9:FldB Tryz.prog 129 2 2 5 true=true:=by kernel_rfl
theorem zn4:FldB Tryz.prog 73 0 0 1 false=true:=by kernel_rfl
theorem zkJ:FldB Tryz.prog 73 1 1 1 false=true:=by kernel_rfl
theorem zd7:FldB Tryz.prog 73 2 2 1 false=true:=by kernel_rfl
theorem ty22:TyB Tryz.prog 22 1 false=true:=by kernel_rfl
theorem zgq:FldB Tryz.prog 73 4 4 1 false=true:=by kernel_rfl
theorem ty71:TyB Tryz.prog 71 1 false=true:=by kernel_rfl
theorem sl71:SlB Tryz.prog 71 16 true=true:=by kernel_rfl
theorem bu167:BuildB Tryz.prog 167=true:=by kernel_rfl
theorem ze167:ZeroOk Tryz.prog 167 ((GNode.mk (0:Int) (Str.mk []) (GMark.mk false (0:Int) (0:Int)) (GCon.mk false false false false (0:Int) (0:Int)) ([]:(List GItem)) ([]:(List GFld)) (0:Int) false (0:Int)):GNode):=zbO (cs:=[.int .i64 0,.string ⟨#[]⟩,.bool false,.int .i64 0,.int .i64 0,.bool false,.bool false,.bool false,.bool false,.int .i64 0,.int .i64 0,.slice none 0 0,.slice none 0 0,.int .i64 0,.bool false,.int .i64 0]) rfl (by kernel_rfl) (zT za3 (zT zeT (zT (zT zbC (zT za3 za3)) (zT (zT zbC (zT zbC (zT zbC (zT zbC (zT za3 za3))))) (zT zbp (zT zbp (zT za3 (zT zbC za3))))))))
theorem el71:elB Tryz.prog 71 16=true:=by kernel_rfl
theorem zpc:appB Tryz.prog 71 71 16=true:=by kernel_rfl
theorem zmW:ZeroOk Tryz.prog 167 (((0:Int),(Str.mk []),(GMark.mk false (0:Int) (0:Int)),(GCon.mk false false false false (0:Int) (0:Int)),(TList.mk none ([]:(List GItem))),(TList.mk none ([]:(List GFld))),(0:Int),false,(0:Int)):(Int × Str × GMark × GCon × (TList GItem) × (TList GFld) × Int × Bool × Int)):=zbO (cs:=[.int .i64 0,.string ⟨#[]⟩,.bool false,.int .i64 0,.int .i64 0,.bool false,.bool false,.bool false,.bool false,.int .i64 0,.int .i64 0,.slice none 0 0,.slice none 0 0,.int .i64 0,.bool false,.int .i64 0]) rfl (by kernel_rfl) (zT za3 (zT zeT (zT (zT zbC (zT za3 za3)) (zT (zT zbC (zT zbC (zT zbC (zT zbC (zT za3 za3))))) (zT zku (zT zku (zT za3 (zT zbC za3))))))))
theorem ty167:TyB Tryz.prog 167 16 true=true:=by kernel_rfl
theorem zmV:FldB Tryz.prog 165 1 1 1 false=true:=by kernel_rfl
theorem zk8:FldB Tryz.prog 165 0 0 1 false=true:=by kernel_rfl
theorem bu165:BuildB Tryz.prog 165=true:=by kernel_rfl
theorem ze165:ZeroOk Tryz.prog 165 ((GMark.mk false (0:Int) (0:Int)):GMark):=zbO (cs:=[.bool false,.int .i64 0,.int .i64 0]) rfl (by kernel_rfl) (zT zbC (zT za3 za3))
theorem zfF:FldB Tryz.prog 167 2 2 3 true=true:=by kernel_rfl
theorem ty165:TyB Tryz.prog 165 3 true=true:=by kernel_rfl
theorem zjo:FldB Tryz.prog 165 2 2 1 false=true:=by kernel_rfl
theorem zb0:FldB Tryz.prog 167 0 0 1 false=true:=by kernel_rfl
theorem ze83:ZeroOk Tryz.prog 83 ((GCon.mk false false false false (0:Int) (0:Int)):GCon):=zbO (cs:=[.bool false,.bool false,.bool false,.bool false,.int .i64 0,.int .i64 0]) rfl (by kernel_rfl) (zT zbC (zT zbC (zT zbC (zT zbC (zT za3 za3)))))
theorem bu83:BuildB Tryz.prog 83=true:=by kernel_rfl
theorem ty83:TyB Tryz.prog 83 6 true=true:=by kernel_rfl
theorem zkN:FldB Tryz.prog 83 0 0 1 false=true:=by kernel_rfl
theorem ziO:FldB Tryz.prog 83 1 1 1 false=true:=by kernel_rfl
theorem ty4:TyB Tryz.prog 4 1 false=true:=by kernel_rfl
theorem zh0:FldB Tryz.prog 83 4 4 1 false=true:=by kernel_rfl
theorem ty2:TyB Tryz.prog 2 1 false=true:=by kernel_rfl
theorem ziZ:FldB Tryz.prog 83 2 2 1 false=true:=by kernel_rfl
theorem zig:FldB Tryz.prog 83 5 5 1 false=true:=by kernel_rfl
theorem zk1:FldB Tryz.prog 83 3 3 1 false=true:=by kernel_rfl
theorem zhq:FldB Tryz.prog 167 3 5 6 true=true:=by kernel_rfl
theorem zeH:FldB Tryz.prog 167 4 11 1 false=true:=by kernel_rfl
theorem ty84:TyB Tryz.prog 84 1 false=true:=by kernel_rfl
theorem sl84:SlB Tryz.prog 84 3 true=true:=by kernel_rfl
theorem ze9:FldB Tryz.prog 167 7 14 1 false=true:=by kernel_rfl
theorem zfD:FldB Tryz.prog 167 6 13 1 false=true:=by kernel_rfl
theorem zlm:FldB Tryz.prog 97 0 0 1 false=true:=by kernel_rfl
theorem bu97:BuildB Tryz.prog 97=true:=by kernel_rfl
theorem ze97:ZeroOk Tryz.prog 97 ((GItem.mk (Str.mk []) (0:Int) false):GItem):=zbO (cs:=[.string ⟨#[]⟩,.int .i64 0,.bool false]) rfl (by kernel_rfl) (zT zeT (zT za3 zbC))
theorem ty97:TyB Tryz.prog 97 3 true=true:=by kernel_rfl
theorem ziL:FldB Tryz.prog 97 2 2 1 false=true:=by kernel_rfl
theorem zdV:FldB Tryz.prog 97 1 1 1 false=true:=by kernel_rfl
theorem el84:elB Tryz.prog 84 3=true:=by kernel_rfl
theorem zjn:appB Tryz.prog 84 84 3=true:=by kernel_rfl
theorem zdv:FldB Tryz.prog 167 5 12 1 false=true:=by kernel_rfl
theorem ty85:TyB Tryz.prog 85 1 false=true:=by kernel_rfl
theorem sl85:SlB Tryz.prog 85 11 true=true:=by kernel_rfl
theorem zlq:FldB Tryz.prog 92 5 10 1 false=true:=by kernel_rfl
theorem zmv:FldB Tryz.prog 92 0 0 1 false=true:=by kernel_rfl
theorem bu92:BuildB Tryz.prog 92=true:=by kernel_rfl
theorem ze92:ZeroOk Tryz.prog 92 ((GFld.mk (Str.mk []) (0:Int) false false (Val.mk (0:Int) (0:Int) ([]:(List UInt8)) ([]:(List Val)) (0:Int) ([]:(List Raw))) (0:Int)):GFld):=zbO (cs:=[.string ⟨#[]⟩,.int .i64 0,.bool false,.bool false,.int .i64 0,.int .i64 0,.slice none 0 0,.slice none 0 0,.int .i64 0,.slice none 0 0,.int .i64 0]) rfl (by kernel_rfl) (zT zeT (zT za3 (zT zbC (zT zbC (zT zoE za3)))))
theorem ty92:TyB Tryz.prog 92 11 true=true:=by kernel_rfl
theorem zdA:FldB Tryz.prog 92 1 1 1 false=true:=by kernel_rfl
theorem zkL:FldB Tryz.prog 92 2 2 1 false=true:=by kernel_rfl
theorem ze46:ZeroOk Tryz.prog 46 ((Val.mk (0:Int) (0:Int) ([]:(List UInt8)) ([]:(List Val)) (0:Int) ([]:(List Raw))):Val):=zbO (cs:=[.int .i64 0,.int .i64 0,.slice none 0 0,.slice none 0 0,.int .i64 0,.slice none 0 0]) rfl (by kernel_rfl) zoE
theorem zcx:FldB Tryz.prog 46 1 1 1 false=true:=by kernel_rfl
theorem zcy:FldB Tryz.prog 46 0 0 1 false=true:=by kernel_rfl
theorem bu46:BuildB Tryz.prog 46=true:=by kernel_rfl
theorem ty46:TyB Tryz.prog 46 6 true=true:=by kernel_rfl
theorem zc5:FldB Tryz.prog 46 2 2 1 false=true:=by kernel_rfl
theorem el42:elB Tryz.prog 42 1=true:=by kernel_rfl
theorem zmX:appB Tryz.prog 42 42 1=true:=by kernel_rfl
theorem ziM:FldB Tryz.prog 92 3 3 1 false=true:=by kernel_rfl
theorem zk4:FldB Tryz.prog 92 4 4 6 true=true:=by kernel_rfl
theorem el85:elB Tryz.prog 85 11=true:=by kernel_rfl
theorem zk3:appB Tryz.prog 85 85 11=true:=by kernel_rfl
theorem zkV:FldB Tryz.prog 167 8 15 1 false=true:=by kernel_rfl
theorem zk6:FldB Tryz.prog 167 1 1 1 false=true:=by kernel_rfl
theorem zlb:appB Tryz.prog 22 22 1=true:=by kernel_rfl
theorem zka:FldB Tryz.prog 73 3 3 1 false=true:=by kernel_rfl
theorem ty23:TyB Tryz.prog 23 1 false=true:=by kernel_rfl
theorem el23:elB Tryz.prog 23 1=true:=by kernel_rfl
theorem zd6:appB Tryz.prog 23 23 1=true:=by kernel_rfl
end Go.Proofs.Q


namespace Go.Proofs.Q
open Go.Sy
set_option maxRecDepth 4000
theorem sl23:SlB Tryz.prog 23 1 false=true:=by kernel_rfl
theorem el36:elB Tryz.prog 36 1=true:=by kernel_rfl
theorem zmO:appB Tryz.prog 36 36 1=true:=by kernel_rfl
theorem sl36:SlB Tryz.prog 36 1 false=true:=by kernel_rfl
end Go.Proofs.Q


namespace Go.Proofs.Q
open Go.Sy
set_option maxRecDepth 4000
@[reducible] def zez:Fld (GMod × Vh × Int) GMod:=pf0
@[reducible] def zlJ:Fld (Str × (List Str) × (TList Int) × (List GTyp)) Str:=pf0
@[reducible] def zlY:Fld (Str × (List Str) × (TList Int) × (List GTyp)) (List Str):=pf1
@[reducible] def zii:Fld (Str × (List Str) × (TList Int) × (List GTyp)) (TList Int):=pf2
@[reducible] def zcz:Fld (GMod × Vh × Int) Int:=pl2
@[reducible] def zbY:Fld (GMod × Vh × Int) Vh:=pf1
@[reducible] def zoi:Fld (Str × (List Str) × (TList Int) × (List GTyp)) (List GTyp):=pl3
theorem ze26:ZeroOk Tryz.prog 26 ((GTab.mk (Str.mk []) ([]:(List Str)) ([]:(List Int)) ([]:(List GTyp))):GTab):=zbO (cs:=[.string ⟨#[]⟩,.slice none 0 0,.slice none 0 0,.slice none 0 0]) rfl (by kernel_rfl) (zT zeT (zT zbp (zT zbp zbp)))
theorem bu26:BuildB Tryz.prog 26=true:=by kernel_rfl
theorem ty26:TyB Tryz.prog 26 4 true=true:=by kernel_rfl
theorem zgk:FldB Tryz.prog 141 0 0 5 true=true:=by kernel_rfl
theorem bu141:BuildB Tryz.prog 141=true:=by kernel_rfl
theorem zo7:ZeroOk Tryz.prog 141 (((GMod.mk (Str.mk []) (0:Int) ([]:(List Str)) ([]:(List Int)) ([]:(List GNode))),(Vh.mk none 0),(0:Int)):(GMod × Vh × Int)):=zbO (cs:=[.string ⟨#[]⟩,.int .i64 0,.slice none 0 0,.slice none 0 0,.slice none 0 0,.slice none 0 0,.int .i64 0]) rfl (by kernel_rfl) (zT (zT zeT (zT za3 (zT zbp (zT zbp zbp)))) (zT zpE za3))
theorem zov:FldB Tryz.prog 26 0 0 1 false=true:=by kernel_rfl
theorem zow:FldB Tryz.prog 26 1 1 1 false=true:=by kernel_rfl
theorem zld:ZeroOk Tryz.prog 26 (((Str.mk []),([]:(List Str)),(TList.mk none ([]:(List Int))),([]:(List GTyp))):(Str × (List Str) × (TList Int) × (List GTyp))):=zbO (cs:=[.string ⟨#[]⟩,.slice none 0 0,.slice none 0 0,.slice none 0 0]) rfl (by kernel_rfl) (zT zeT (zT zbp (zT zku zbp)))
theorem zhY:FldB Tryz.prog 26 2 2 1 false=true:=by kernel_rfl
theorem zdG:FldB Tryz.prog 141 2 6 1 false=true:=by kernel_rfl
theorem zcI:FldB Tryz.prog 141 1 5 1 false=true:=by kernel_rfl
theorem ty24:TyB Tryz.prog 24 1 false=true:=by kernel_rfl
theorem sl24:SlB Tryz.prog 24 13 true=true:=by kernel_rfl
theorem ziQ:FldB Tryz.prog 87 6 11 1 false=true:=by kernel_rfl
theorem zg9:FldB Tryz.prog 87 5 10 1 false=true:=by kernel_rfl
theorem zgv:FldB Tryz.prog 87 2 2 6 true=true:=by kernel_rfl
theorem zdf:FldB Tryz.prog 87 0 0 1 false=true:=by kernel_rfl
theorem bu87:BuildB Tryz.prog 87=true:=by kernel_rfl
theorem ze87:ZeroOk Tryz.prog 87 ((GTyp.mk (0:Int) ([]:(List Tag)) (GCon.mk false false false false (0:Int) (0:Int)) ([]:(List GItem)) ([]:(List GFld)) (0:Int) false (0:Int)):GTyp):=zbO (cs:=[.int .i64 0,.slice none 0 0,.bool false,.bool false,.bool false,.bool false,.int .i64 0,.int .i64 0,.slice none 0 0,.slice none 0 0,.int .i64 0,.bool false,.int .i64 0]) rfl (by kernel_rfl) (zT za3 (zT zbp (zT (zT zbC (zT zbC (zT zbC (zT zbC (zT za3 za3))))) (zT zbp (zT zbp (zT za3 (zT zbC za3)))))))
theorem ty87:TyB Tryz.prog 87 13 true=true:=by kernel_rfl
theorem ze31:ZeroOk Tryz.prog 31 (Tag.zero:Tag):=zbO (cs:=[.int .i64 0,.int .i64 0]) rfl (by kernel_rfl) (zT za3 za3)
theorem zeW:FldB Tryz.prog 31 1 1 1 false=true:=by kernel_rfl
theorem bu31:BuildB Tryz.prog 31=true:=by kernel_rfl
theorem ty31:TyB Tryz.prog 31 2 true=true:=by kernel_rfl
theorem el78:elB Tryz.prog 78 2=true:=by kernel_rfl
theorem zfM:FldB Tryz.prog 87 1 1 1 false=true:=by kernel_rfl
theorem ty78:TyB Tryz.prog 78 1 false=true:=by kernel_rfl
theorem el24:elB Tryz.prog 24 13=true:=by kernel_rfl
theorem zmQ:appB Tryz.prog 24 24 13=true:=by kernel_rfl
theorem zor:FldB Tryz.prog 87 7 12 1 false=true:=by kernel_rfl
theorem ziR:FldB Tryz.prog 87 3 8 1 false=true:=by kernel_rfl
theorem ty42:TyB Tryz.prog 42 1 false=true:=by kernel_rfl
theorem sl42:SlB Tryz.prog 42 1 false=true:=by kernel_rfl
theorem ty5:TyB Tryz.prog 5 1 false=true:=by kernel_rfl
theorem zlB : Tryz.prog.globals.findIdx? (·.name == "unicode/utf8.first") = some 0 := by kernel_rfl
theorem ar190:ArrB Tryz.prog 190 256 1 false=true:=by kernel_rfl
theorem zgJ : Tryz.prog.globals.findIdx? (·.name == "unicode/utf8.acceptRanges") = some 1 := by kernel_rfl
theorem ar193:ArrB Tryz.prog 193 16 2 true=true:=by kernel_rfl
theorem ty192:TyB Tryz.prog 192 2 true=true:=by kernel_rfl
theorem ze192:ZeroOk Tryz.prog 192 (GAcc.zero:GAcc):=zbO (cs:=[.int .u8 0,.int .u8 0]) rfl (by kernel_rfl) (zT zoj zoj)
theorem zlg:FldB Tryz.prog 192 0 0 1 false=true:=by kernel_rfl
theorem zk7:FldB Tryz.prog 192 1 1 1 false=true:=by kernel_rfl
theorem sl78:SlB Tryz.prog 78 2 true=true:=by kernel_rfl
theorem ziP:FldB Tryz.prog 31 0 0 1 false=true:=by kernel_rfl
theorem zhl:appB Tryz.prog 78 78 2=true:=by kernel_rfl
theorem zbR:FldB Tryz.prog 87 4 9 1 false=true:=by kernel_rfl
theorem el242:elB Tryz.prog 242 1=true:=by kernel_rfl
theorem znA:appB Tryz.prog 242 242 1=true:=by kernel_rfl
theorem sl242:SlB Tryz.prog 242 1 false=true:=by kernel_rfl
theorem eq31:EqOk Tryz.prog 31 Tag:=Tag.eqOk Tryz.underlying31 (by kernel_rfl) (by kernel_rfl) Tryz.underlying3
theorem el49:elB Tryz.prog 49 1=true:=by kernel_rfl
theorem zpC:appB Tryz.prog 49 49 1=true:=by kernel_rfl
theorem sl49:SlB Tryz.prog 49 1 false=true:=by kernel_rfl
theorem zeU:FldB Tryz.prog 26 3 3 1 false=true:=by kernel_rfl
end Go.Proofs.Q


namespace Go.Proofs.Q
open Go.Sy
set_option maxRecDepth 4000
theorem zen:FldB Tryz.prog 101 0 0 4 true=true:=by kernel_rfl
theorem bu101:BuildB Tryz.prog 101=true:=by kernel_rfl
theorem ze101:ZeroOk Tryz.prog 101 ((GTbd.mk (GTab.mk (Str.mk []) ([]:(List Str)) ([]:(List Int)) ([]:(List GTyp)))):GTbd):=zbO (cs:=[.string ⟨#[]⟩,.slice none 0 0,.slice none 0 0,.slice none 0 0]) rfl (by kernel_rfl) (zT zeT (zT zbp (zT zbp zbp)))
theorem zef:FldB Tryz.prog 103 0 0 4 true=true:=by kernel_rfl
theorem bu103:BuildB Tryz.prog 103=true:=by kernel_rfl
theorem ze103:ZeroOk Tryz.prog 103 ((GChk.mk (GTbd.mk (GTab.mk (Str.mk []) ([]:(List Str)) ([]:(List Int)) ([]:(List GTyp)))) false):GChk):=zbO (cs:=[.string ⟨#[]⟩,.slice none 0 0,.slice none 0 0,.slice none 0 0,.bool false]) rfl (by kernel_rfl) (zT (zT zeT (zT zbp (zT zbp zbp))) zbC)
theorem zet:FldB Tryz.prog 46 3 3 1 false=true:=by kernel_rfl
theorem ty43:TyB Tryz.prog 43 1 false=true:=by kernel_rfl
theorem sl43:SlB Tryz.prog 43 6 true=true:=by kernel_rfl
theorem ziS:FldB Tryz.prog 46 5 5 1 false=true:=by kernel_rfl
theorem ty44:TyB Tryz.prog 44 1 false=true:=by kernel_rfl
theorem sl44:SlB Tryz.prog 44 2 true=true:=by kernel_rfl
theorem zpl:FldB Tryz.prog 103 1 4 1 false=true:=by kernel_rfl
theorem zft:FldB Tryz.prog 46 4 4 1 false=true:=by kernel_rfl
theorem eq41:EqOk Tryz.prog 41 UInt64:=EqOk.u64
theorem ty99:TyB Tryz.prog 99 1 false=true:=by kernel_rfl
theorem zkS:FldB Tryz.prog 144 0 0 1 false=true:=by kernel_rfl
theorem bu144:BuildB Tryz.prog 144=true:=by kernel_rfl
theorem ze144:ZeroOk Tryz.prog 144 ((GTys.mk ([]:(List GTyp))):GTys):=zbO (cs:=[.slice none 0 0]) rfl (by kernel_rfl) zbp
theorem zpX:ZeroOk Tryz.prog 78 ((TList.mk none ([]:(List Tag))):(TList Tag)):=zjO (v:=.slice none 0 0) rfl (by kernel_rfl) zku
theorem ze3:ZeroOk Tryz.prog 3 ((0:Int):Int):=zjO (v:=.int .i64 0) rfl (by kernel_rfl) za3
theorem ty112:TyB Tryz.prog 112 2 true=true:=by kernel_rfl
theorem ze112:ZeroOk Tryz.prog 112 (Raw.zero:Raw):=zbO (cs:=[.int .i64 0,.slice none 0 0]) rfl (by kernel_rfl) (zT za3 zbp)
theorem zhp:FldB Tryz.prog 112 0 0 1 false=true:=by kernel_rfl
theorem zjw:FldB Tryz.prog 112 1 1 1 false=true:=by kernel_rfl
end Go.Proofs.Q


namespace Go.Proofs.Q
open Go.Sy
set_option maxRecDepth 4000
end Go.Proofs.Q


namespace Go.Proofs.Q
open Go.Sy
set_option maxRecDepth 4000
theorem el43:elB Tryz.prog 43 6=true:=by kernel_rfl
theorem eq4:EqOk Tryz.prog 4 Bool:=EqOk.bool Tryz.underlying4
end Go.Proofs.Q


namespace Go.Proofs.Q
open Go.Sy
set_option maxRecDepth 4000
end Go.Proofs.Q


namespace Go.Proofs.Q
open Go.Sy
set_option maxRecDepth 4000
end Go.Proofs.Q


namespace Go.Proofs.Q
open Go.Sy
set_option maxRecDepth 4000
theorem ze5:ZeroOk Tryz.prog 5 ((0:UInt8):UInt8):=zjO (v:=.int .u8 0) rfl (by kernel_rfl) zoj
end Go.Proofs.Q


namespace Go.Proofs.Q
open Go.Sy
set_option maxRecDepth 4000
theorem zeM:∀ {a_s:Str} {a_i:Int} {r:UInt8},zea a_s a_i=some r→Ctr Tryz.prog 136 [isv (a_s),isv (a_i)] [] (fun R H=>R=oneOf [isv (r)]∧H=[]):=by
 intro a_s a_i r h
 unfold zea at h
 refine zr Tryz.func136 e fun w0 S0 hT=>wsr (oA e (rnf (zp (wsr (oM e (oV (zay e e) (oM e ?_)))))))
 refine zab (jb 12) je .nil h 5 e (fun q1 g1 h=>?_) (fun J2 h hJ2=>?_)
 ·refine rnf (zg h e (fun _ h=>?_) (fun _ h=>?_))
  ·refine wsr (oA e (rnf (zD (zx ?_))))
   cases h
   exact zh (.tmp e .nil) .nil ⟨e,e⟩
  refine wkf (wsr (oM e (oM e (zb h fun y4 hy4 h=>oV (zb5 y4 st9 e e hy4) (oA e (rnf (zD ?_)))))))
  cases h
  exact zh (.tmp e .nil) .nil ⟨e,e⟩
 refine zn (j:=7) h e (fun g3 h=>?_) (fun g3 h=>?_)
 ·exact oP 7 e e g3 (oP 7 e e g3 (oP 7 e e g3 (oP 7 e e g3 (oV (zi e g3 e) (hJ2 _ () h _ (ji 5 12 e e e))))))
 exact oK 7 e e e g3 (zs e) (oK 7 e e e g3 (zs e) (oK 7 e e e g3 (zdX st9 e) (oK 7 e e e g3 (zcR e e) (oV (zj e g3 e) (hJ2 _ () h _ (ji 5 12 e e e))))))


theorem zl1:∀ {a_s:Str} {a_i:Int} {r:Int},zeA a_s a_i=some r→Ctr Tryz.prog 102 [isv (a_s),isv (a_i)] [] (fun R H=>R=oneOf [isv (r)]∧H=[]):=by
 intro a_s a_i r h
 unfold zeA at h
 refine zr Tryz.func102 e fun w0 S0 hT=>wsr (oA e (rnf (zp (zB (zbx (ι:=Int) (γ:=Unit) (fun q1 g1=>[(1,isv (q1))]) (fun q1 g1=>[]) h () (za (j:=1) e hI ze) .nil (fun L2 q1 g1 Q99 h hL2 eL2 rL2=>zp (wsr ?_)))))))
 refine oM e (oM e (oV (zdX st9 e) (oV (zay e e) (rnf (zg h e (fun _ h=>?_) (fun _ h=>?_))))))
 ·refine wkf (zB (zB (wsr (oM e (oM e (zb h fun y51 hy51 h=>oV (zb5 y51 st9 e e hy51) (oV (zce eq5 e e) ?_)))))))
  refine oM e (zab (jb 20) je .nil h 5 e (fun q52 g52 h=>?_) (fun J53 h hJ53=>?_))
  ·refine oM e (zab (jb 26) je .nil h 5 e (fun q56 g56 h=>?_) (fun J57 h hJ57=>?_))
   ·refine oM e (zab (jb 32) je .nil h 5 e (fun q60 g60 h=>?_) (fun J61 h hJ61=>?_))
    ·refine oA e (rnf (zg h e (fun _ h=>?_) (fun _ h=>?_)))
     ·exact zt (oM e (zO h fun q64 h=>oV (zan e e q64) (oA e (zF (zq (zq (hL2 _ () h _ (ji 19 1 e e e))))))))
     refine wsr (oM e (oM e (zb h fun y65 hy65 h=>oV (zb5 y65 st9 e e hy65) (oV (zce eq5 e e) (oM e (zab (jb 46) je .nil h 6 e (fun q66 g66 h=>?_) (fun J67 h hJ67=>?_)))))))
     ·refine oA e (rnf (zg h e (fun _ h=>?_) (fun _ h=>?_)))
      ·refine wsr (oM e (zO h fun q71 h=>oV (zan e e q71) (oA e (rnf (zB (zbx (ι:=Int) (γ:=Unit) (fun q72 g72=>[(1,isv (q72))]) (fun q72 g72=>[]) h () (za (j:=1) e hI ze) .nil (fun L73 q72 g72 Q98 h hL73 eL73 rL73=>zp ?_)))))))
       refine wsr (oM e (oM e (oV (zdX st9 e) (oV (zay e e) (oM e (zab (jb 58) je .nil h 5 e (fun q86 g86 h=>?_) (fun J87 h hJ87=>?_)))))))
       ·refine rnf (zg h e (fun _ h=>?_) (fun _ h=>?_))
        ·refine wkf (zB (zp (wsr (oM e (oM e (zb h fun y90 hy90 h=>oV (zb5 y90 st9 e e hy90) (oV (zce eq5 e e) ?_)))))))
         refine oM e (zab (jb 69) je .nil h 6 e (fun q91 g91 h=>?_) (fun J92 h hJ92=>?_))
         ·refine rnf (zg h e (fun _ h=>?_) (fun _ h=>?_))
          ·refine wsr (oM e (zO h fun q96 h=>oV (zan e e q96) (oA e (rnf (zam (z8 (zgY e ?_)))))))
           exact eL73 _ _ (zL (zq (zq (hL2 _ () h _ (ji 42 1 e e e)))))
          exact wkf (zt (oM e (zO h fun q97 h=>oV (zan e e q97) (oA e (zF (zq (hL73 _ () h _ (ji 16 1 e e e))))))))
         refine zn (j:=63) h e (fun g93 h=>?_) (fun g93 h=>?_)
         ·exact oK 63 e e e g93 (zs e) (oK 63 e e e g93 (zs e) (zO h fun q94 h=>oK 63 e e e g93 (zan e e q94) (zb h fun y95 hy95 h=>zai e e (dj:=63) e g93 (zA (zeM hy95) hT (s2 e e) .nil (oK 63 e e e g93 (zce eq5 e e) (oV (zi e g93 e) (hJ92 _ () h _ (ji 6 69 e e e))))))))
         exact oP 63 e e g93 (oP 63 e e g93 (oP 63 e e g93 (oP 63 e e g93 (oP 63 e e g93 (oV (zj e g93 e) (hJ92 _ () h _ (ji 6 69 e e e)))))))
        exact zam (z8 (eL73 _ _ (zL (zq (zq (hL2 _ () h _ (ji 33 1 e e e)))))))
       refine zn (j:=53) h e (fun g88 h=>?_) (fun g88 h=>?_)
       ·exact oK 53 e e e g88 (zs e) (oK 53 e e e g88 (zs e) (zb h fun y89 hy89 h=>oK 53 e e e g88 (zb5 y89 st9 e e hy89) (oK 53 e e e g88 (zi7 eq5 e e) (oV (zi e g88 e) (hJ87 _ () h _ (ji 5 58 e e e))))))
       exact oP 53 e e g88 (oP 53 e e g88 (oP 53 e e g88 (oP 53 e e g88 (oV (zj e g88 e) (hJ87 _ () h _ (ji 5 58 e e e))))))
      refine wsr (oM e (oA e (rnf (zD (zz (zz (rL2 _ (zz ?_))))))))
      refine zx ?_
      cases h
      exact zh (.tmp e .nil) .nil ⟨e,e⟩
     refine zn (j:=40) h e (fun g68 h=>?_) (fun g68 h=>?_)
     ·exact oK 40 e e e g68 (zs e) (oK 40 e e e g68 (zs e) (zO h fun q69 h=>oK 40 e e e g68 (zan e e q69) (zb h fun y70 hy70 h=>zai e e (dj:=40) e g68 (zA (zeM hy70) hT (s2 e e) .nil (oK 40 e e e g68 (zce eq5 e e) (oV (zi e g68 e) (hJ67 _ () h _ (ji 6 46 e e e))))))))
     exact oP 40 e e g68 (oP 40 e e g68 (oP 40 e e g68 (oP 40 e e g68 (oP 40 e e g68 (oV (zj e g68 e) (hJ67 _ () h _ (ji 6 46 e e e)))))))
    refine zn (j:=27) h e (fun g62 h=>?_) (fun g62 h=>?_)
    ·exact oP 27 e e g62 (oP 27 e e g62 (oP 27 e e g62 (oP 27 e e g62 (oV (zi e g62 e) (hJ61 _ () h _ (ji 5 32 e e e))))))
    exact oK 27 e e e g62 (zs e) (oK 27 e e e g62 (zs e) (zb h fun y63 hy63 h=>oK 27 e e e g62 (zb5 y63 st9 e e hy63) (oK 27 e e e g62 (zce eq5 e e) (oV (zj e g62 e) (hJ61 _ () h _ (ji 5 32 e e e))))))
   refine zn (j:=21) h e (fun g58 h=>?_) (fun g58 h=>?_)
   ·exact oP 21 e e g58 (oP 21 e e g58 (oP 21 e e g58 (oP 21 e e g58 (oV (zi e g58 e) (hJ57 _ () h _ (ji 5 26 e e e))))))
   exact oK 21 e e e g58 (zs e) (oK 21 e e e g58 (zs e) (zb h fun y59 hy59 h=>oK 21 e e e g58 (zb5 y59 st9 e e hy59) (oK 21 e e e g58 (zce eq5 e e) (oV (zj e g58 e) (hJ57 _ () h _ (ji 5 26 e e e))))))
  refine zn (j:=15) h e (fun g54 h=>?_) (fun g54 h=>?_)
  ·exact oP 15 e e g54 (oP 15 e e g54 (oP 15 e e g54 (oP 15 e e g54 (oV (zi e g54 e) (hJ53 _ () h _ (ji 5 20 e e e))))))
  exact oK 15 e e e g54 (zs e) (oK 15 e e e g54 (zs e) (zb h fun y55 hy55 h=>oK 15 e e e g54 (zb5 y55 st9 e e hy55) (oK 15 e e e g54 (zce eq5 e e) (oV (zj e g54 e) (hJ53 _ () h _ (ji 5 20 e e e))))))
 refine zam (z8 (eL2 _ _ (zL (zE (wsr (oM e (oA e (rnf ?_))))))))
 refine zD ?_
 cases h
 exact zh (.tmp e .nil) .nil ⟨e,e⟩


theorem zgx:∀ {a_c:UInt8} {r:Bool},zdT a_c=some r→Ctr Tryz.prog 137 [isv (a_c)] [] (fun R H=>R=oneOf [isv (r)]∧H=[]):=by
 intro a_c r h
 unfold zdT at h
 refine zr Tryz.func137 e fun w0 S0 hT=>wsr (oA e (rnf (wsr (oM e (oV (zj9 e e) (oM e (zab (jb 8) je .nil h 3 e (fun q1 g1 h=>?_) (fun J2 h hJ2=>?_))))))))
 ·refine oM e (zab (jb 16) je .nil h 7 e (fun q4 g4 h=>?_) (fun J5 h hJ5=>?_))
  ·refine oA e (rnf (zD ?_))
   cases h
   exact zh (.tmp e .nil) .nil ⟨e,e⟩
  refine zn (j:=9) h e (fun g6 h=>?_) (fun g6 h=>?_)
  ·exact oP 9 e e g6 (oP 9 e e g6 (oP 9 e e g6 (zk e (dj:=12) e (zk e (dj:=12) e (oP 9 e e g6 (oV (zi e g6 e) (hJ5 _ () h _ (ji 7 16 e e e))))))))
  refine oK 9 e e e g6 (zs e) (oK 9 e e e g6 (zj9 e e) (oK 9 e e e g6 (zs e) (zab (jb 15) je .nil h 3 e (fun q7 g7 h=>?_) (fun J8 h hJ8=>?_))))
  ·exact oV (zj e g6 e) (hJ5 _ () h _ (ji 5 16 e e e))
  refine zn (j:=12) h e (fun g9 h=>?_) (fun g9 h=>?_)
  ·exact oK 12 e e e g9 (zs e) (oK 12 e e e g9 (zjC e e) (oK 9 e e e g6 (zi e g9 e) (hJ8 _ () h _ (ji 3 15 e e e))))
  exact oP 12 e e g9 (oP 12 e e g9 (oK 9 e e e g6 (zj e g9 e) (hJ8 _ () h _ (ji 3 15 e e e))))
 refine zn (j:=5) h e (fun g3 h=>?_) (fun g3 h=>?_)
 ·exact oK 5 e e e g3 (zs e) (oK 5 e e e g3 (zjC e e) (oV (zi e g3 e) (hJ2 _ () h _ (ji 3 8 e e e))))
 exact oP 5 e e g3 (oP 5 e e g3 (oV (zj e g3 e) (hJ2 _ () h _ (ji 3 8 e e e))))


theorem zeR:∀ {a_c:UInt8} {r:Bool},zdr a_c=some r→Ctr Tryz.prog 140 [isv (a_c)] [] (fun R H=>R=oneOf [isv (r)]∧H=[]):=by
 intro a_c r h
 unfold zdr at h
 refine zr Tryz.func140 e fun w0 S0 hT=>wsr (oA e (rnf (wsr (oM e (oV (zj9 e e) (oM e (zab (jb 8) je .nil h 3 e (fun q1 g1 h=>?_) (fun J2 h hJ2=>?_))))))))
 ·refine oA e (rnf (zD ?_))
  cases h
  exact zh (.tmp e .nil) .nil ⟨e,e⟩
 refine zn (j:=5) h e (fun g3 h=>?_) (fun g3 h=>?_)
 ·exact oK 5 e e e g3 (zs e) (oK 5 e e e g3 (zjC e e) (oV (zi e g3 e) (hJ2 _ () h _ (ji 3 8 e e e))))
 exact oP 5 e e g3 (oP 5 e e g3 (oV (zj e g3 e) (hJ2 _ () h _ (ji 3 8 e e e))))


theorem zmg:∀ {a_s:Str} {a_i:Int} {r:Int},zfr a_s a_i=some r→Ctr Tryz.prog 138 [isv (a_s),isv (a_i)] [] (fun R H=>R=oneOf [isv (r)]∧H=[]):=by
 intro a_s a_i r h
 unfold zfr at h
 refine zr Tryz.func138 e fun w0 S0 hT=>wsr (oA e (rnf (wsr (oM e (oA e (rnf (zp ?_)))))))
 refine zB (zbx (ι:=Int) (γ:=Unit) (fun q1 g1=>[(1,isv (q1))]) (fun q1 g1=>[]) h () (za (j:=1) e hI ze) .nil (fun L2 q1 g1 Q55 h hL2 eL2 rL2=>zp (wsr (oM e (oM e (oV (zdX st9 e) (oV (zay e e) (oM e ?_))))))))
 refine zab (jb 35) je .nil h 24 e (fun q29 g29 h=>?_) (fun J30 h hJ30=>?_)
 ·refine rnf (zg h e (fun _ h=>?_) (fun _ h=>?_))
  ·refine wkf (zB (zt (oM e (zO h fun q48 h=>oV (zan e e q48) (oA e (zF (zq ?_)))))))
   exact hL2 _ () h _ (ji 10 1 e e e)
  refine zam (z8 (eL2 _ _ (zL (zE (zp (wsr (oM e (oM e ?_))))))))
  refine zO h fun q49 h=>oV (zfo e e q49) (zb h fun y50 hy50 h=>oV (zb5 y50 st9 e e hy50) (oV (zce eq5 e e) (oM e (zab (jb 48) je .nil h 5 e (fun q51 g51 h=>?_) (fun J52 h hJ52=>?_)))))
  ·refine rnf (zg h e (fun _ h=>?_) (fun _ h=>?_))
   ·refine wsr (oA e (rnf (zD (zx ?_))))
    cases h
    exact zh (.tmp e .nil) .nil ⟨e,e⟩
   refine wkf (wsr (oM e (oA e (rnf (zD ?_)))))
   cases h
   exact zh (.tmp e .nil) .nil ⟨e,e⟩
  refine zn (j:=43) h e (fun g53 h=>?_) (fun g53 h=>?_)
  ·exact oP 43 e e g53 (oP 43 e e g53 (oP 43 e e g53 (oP 43 e e g53 (oV (zi e g53 e) (hJ52 _ () h _ (ji 5 48 e e e))))))
  exact oK 43 e e e g53 (zs e) (oK 43 e e e g53 (zs e) (zO h fun q54 h=>oK 43 e e e g53 (zfo e e q54) (oK 43 e e e g53 (zb1 e e) (oV (zj e g53 e) (hJ52 _ () h _ (ji 5 48 e e e))))))
 refine zn (j:=11) h e (fun g31 h=>?_) (fun g31 h=>?_)
 ·refine oK 11 e e e g31 (zs e) (oK 11 e e e g31 (zs e) (zb h fun y32 hy32 h=>oK 11 e e e g31 (zb5 y32 st9 e e hy32) (zb h fun y33 hy33 h=>zai e e (dj:=11) e g31 (zA (zgx hy33) hT (s1 e) .nil (oK 11 e e e g31 (zs e) (zab (jb 21) je .nil h 5 e (fun q34 g34 h=>?_) (fun J35 h hJ35=>?_)))))))
  ·refine oK 11 e e e g31 (zs e) (zab (jb 34) je .nil h 12 e (fun q39 g39 h=>?_) (fun J40 h hJ40=>?_))
   ·exact oV (zi e g31 e) (hJ30 _ () h _ (ji 9 35 e e e))
   refine zn (j:=22) h e (fun g41 h=>?_) (fun g41 h=>?_)
   ·refine oP 22 e e g41 (oP 22 e e g41 (oP 22 e e g41 (oP 22 e e g41 (oP 22 e e g41 (zk e (dj:=27) e (zk e (dj:=27) e (zk e (dj:=27) e (zk e (dj:=27) e ?_))))))))
    exact zk e (dj:=27) e (oP 22 e e g41 (oK 11 e e e g31 (zi e g41 e) (hJ40 _ () h _ (ji 12 34 e e e))))
   refine oK 22 e e e g41 (zs e) (oK 22 e e e g41 (zs e) (zb h fun y42 hy42 h=>oK 22 e e e g41 (zb5 y42 st9 e e hy42) (oK 22 e e e g41 (zce eq5 e e) (oK 22 e e e g41 (zs e) (zab (jb 33) je .nil h 6 e (fun q43 g43 h=>?_) (fun J44 h hJ44=>?_))))))
   ·exact oK 11 e e e g31 (zj e g41 e) (hJ40 _ () h _ (ji 7 34 e e e))
   refine zn (j:=27) h e (fun g45 h=>?_) (fun g45 h=>?_)
   ·exact oK 27 e e e g45 (zs e) (oK 27 e e e g45 (zs e) (zO h fun q46 h=>oK 27 e e e g45 (zan e e q46) (zb h fun y47 hy47 h=>zai e e (dj:=27) e g45 (zA (zeM hy47) hT (s2 e e) .nil (oK 27 e e e g45 (zi7 eq5 e e) (oK 22 e e e g41 (zi e g45 e) (hJ44 _ () h _ (ji 6 33 e e e))))))))
   exact oP 27 e e g45 (oP 27 e e g45 (oP 27 e e g45 (oP 27 e e g45 (oP 27 e e g45 (oK 22 e e e g41 (zj e g45 e) (hJ44 _ () h _ (ji 6 33 e e e)))))))
  refine zn (j:=16) h e (fun g36 h=>?_) (fun g36 h=>?_)
  ·exact oP 16 e e g36 (oP 16 e e g36 (oP 16 e e g36 (oP 16 e e g36 (oK 11 e e e g31 (zi e g36 e) (hJ35 _ () h _ (ji 5 21 e e e))))))
  exact oK 16 e e e g36 (zs e) (oK 16 e e e g36 (zs e) (zb h fun y37 hy37 h=>oK 16 e e e g36 (zb5 y37 st9 e e hy37) (zb h fun y38 hy38 h=>zai e e (dj:=16) e g36 (zA (zeR hy38) hT (s1 e) .nil (oK 11 e e e g31 (zj e g36 e) (hJ35 _ () h _ (ji 5 21 e e e)))))))
 refine oP 11 e e g31 (oP 11 e e g31 (oP 11 e e g31 (oP 11 e e g31 (oP 11 e e g31 (zk e (dj:=16) e (zk e (dj:=16) e (zk e (dj:=16) e (zk e (dj:=16) e ?_))))))))
 refine oP 11 e e g31 (oP 11 e e g31 (zk e (dj:=22) e (zk e (dj:=22) e (zk e (dj:=22) e (zk e (dj:=22) e (zk e (dj:=22) e (zk e (dj:=27) e (zk e (dj:=27) e ?_))))))))
 exact zk e (dj:=27) e (zk e (dj:=27) e (zk e (dj:=27) e (zk e (dj:=22) e (oP 11 e e g31 (oV (zj e g31 e) (hJ30 _ () h _ (ji 24 35 e e e)))))))


theorem zlI:∀  {r:(List Str)},zf9 =some r→Ctr Tryz.prog 171 [] [] (fun R H=>R=oneOf [isv (r)]∧H=[]):=by
 intro  r h
 unfold zf9 at h
 refine zr Tryz.func171 e fun w0 S0 hT=>wsr (oA e (rnf (wsr ?_)))
 refine oT (zZ (l:=([(Str.mk [68,69,70,73,78,73,84,73,79,78,83]),(Str.mk [69,88,80,76,73,67,73,84]),(Str.mk [73,77,80,76,73,67,73,84]),(Str.mk [65,85,84,79,77,65,84,73,67]),(Str.mk [84,65,71,83]),(Str.mk [66,69,71,73,78]),(Str.mk [69,78,68]),(Str.mk [66,79,79,76,69,65,78]),(Str.mk [73,78,84,69,71,69,82]),(Str.mk [69,78,85,77,69,82,65,84,69,68]),(Str.mk [78,85,76,76]),(Str.mk [79,67,84,69,84]),(Str.mk [83,84,82,73,78,71]),(Str.mk [85,84,70,56,83,116,114,105,110,103]),(Str.mk [83,69,81,85,69,78,67,69]),(Str.mk [83,69,84]),(Str.mk [67,72,79,73,67,69]),(Str.mk [79,70]),(Str.mk [79,80,84,73,79,78,65,76]),(Str.mk [68,69,70,65,85,76,84]),(Str.mk [83,73,90,69]),(Str.mk [77,73,78]),(Str.mk [77,65,88]),(Str.mk [84,82,85,69]),(Str.mk [70,65,76,83,69])]:(List Str))) el22 (.cons e hI (.cons e hI (.cons e hI (.cons e hI (.cons e hI (.cons e hI (.cons e hI (.cons e hI (.cons e hI (.cons e hI (.cons e hI (.cons e hI (.cons e hI (.cons e hI (.cons e hI (.cons e hI (.cons e hI (.cons e hI (.cons e hI (.cons e hI (.cons e hI (.cons e hI (.cons e hI (.cons e hI (.cons e hI .nil))))))))))))))))))))))))) e e ?_)
 refine oA e (rnf (zD ?_))
 cases h
 exact zh (.as e zQ .nil) .nil ⟨e,e⟩


theorem zhK:∀ {a_l:(List Str)} {a_x:Str} {r:Bool},zd3 a_l a_x=some r→Ctr Tryz.prog 108 [isv (a_l),isv (a_x)] [] (fun R H=>R=oneOf [isv (r)]∧H=[]):=by
 intro a_l a_x r h
 unfold zd3 at h
 refine zr Tryz.func108 e fun w0 S0 hT=>wsr (oA e (rnf (zp (wsr (oA e (rnf (zB ?_)))))))
 refine zbx (ι:=Int) (γ:=Unit) (fun q1 g1=>[(5,isv (q1))]) (fun q1 g1=>[]) h () (za (j:=5) e hI ze) .nil (fun L2 q1 g1 Q7 h hL2 eL2 rL2=>zp (wsr (oM e (oM e (oV (zaH (l:=a_l) e hI sl22) (oV (zay e e) (rnf (zg h e (fun _ h=>?_) (fun _ h=>?_)))))))))
 ·refine wkf (zp (zB (wsr (oM e (oM e (zb h fun y5 hy5 h=>oV (zaz (l:=a_l) e hI e sl22 hy5) (oV (zd ty9 e) ?_)))))))
  refine oM e (oV (zce eq9 e e) (rnf (zg h e (fun _ h=>?_) (fun _ h=>?_))))
  ·refine wsr (oA e (rnf (zD (zz (zx (rL2 _ (zz (zx ?_))))))))
   cases h
   exact zh (.tmp e .nil) .nil ⟨e,e⟩
  refine z6 (zq (zE (zt (oM e (zO h fun q6 h=>oV (zan e e q6) (oA e (zF ?_)))))))
  exact hL2 _ () h _ (ji 14 5 e e e)
 refine zam (z8 (eL2 _ _ (zL (zE (wsr (oA e (rnf (zD ?_))))))))
 cases h
 exact zh (.tmp e .nil) .nil ⟨e,e⟩


theorem zmz:∀ {a_s:Str} {r:Bool},zfx a_s=some r→Ctr Tryz.prog 139 [isv (a_s)] [] (fun R H=>R=oneOf [isv (r)]∧H=[]):=by
 intro a_s r h
 unfold zfx at h
 refine zr Tryz.func139 e fun w0 S0 hT=>wsr (oA e (rnf (wsr (zb h fun y1 hy1 h=>oT (zA (zlI hy1) hT .nil .nil (oM e (zb h fun y2 hy2 h=>?_)))))))
 refine oT (zA (zhK hy2) hT (s2 e e) .nil (oA e (rnf (zD ?_))))
 cases h
 exact zh (.tmp e .nil) .nil ⟨e,e⟩


theorem zkR:∀ {a_s:Str} {a_i:Int} {r:Int},zdU a_s a_i=some r→Ctr Tryz.prog 141 [isv (a_s),isv (a_i)] [] (fun R H=>R=oneOf [isv (r)]∧H=[]):=by
 intro a_s a_i r h
 unfold zdU at h
 refine zr Tryz.func141 e fun w0 S0 hT=>wsr (oA e (rnf (wsr (oM e (oM e (zb h fun y1 hy1 h=>oV (zb5 y1 st9 e e hy1) ?_))))))
 refine oV (zce eq5 e e) (oA e (rnf (zp (wsr (oM e (rnf (zdF (ι:=Int) (γ:=Unit) (fun q2 g2=>[(1,isv (q2))]) (fun q2 g2=>[]) .nil h (fun q2 g2 h=>?_) (fun J3 h hJ3=>?_))))))))
 ·refine wsr (oM e (oA e (rnf (wsr (oA e (rnf (zp (zB ?_))))))))
  refine zbx (ι:=Int × UInt64) (γ:=Unit) (fun q5 g5=>[(1,isv (q5.1)),(7,isv (q5.2))]) (fun q5 g5=>[]) h () (za (j:=1) e hI (za (j:=7) e hI ze)) .nil (fun L6 q5 g5 Q91 h hL6 eL6 rL6=>zp (wsr (oM e (oM e (oV (zdX st9 e) (oV (zay e e) (oM e (zab (jb 26) je .nil h 5 e (fun q49 g49 h=>?_) (fun J50 h hJ50=>?_)))))))))
  ·refine rnf (zg h e (fun _ h=>?_) (fun _ h=>?_))
   ·refine wkf (zB (zp (wsr (oM e (oM e (zO h fun q54 h=>oV (zfo e e q54) (oV (zay e e) ?_)))))))
    refine rnf (zdF (ι:=UInt64) (γ:=Unit) (fun q55 g55=>[(7,isv (q55))]) (fun q55 g55=>[]) .nil h (fun q55 g55 h=>?_) (fun J56 h hJ56=>?_))
    ·exact zt (oM e (zO h fun q58 h=>oV (zan e e q58) (oA e (zF (zq (hL6 _ () h _ (zf 16 e e (za (j:=1) e hI (za (j:=7) e hI ze)) .nil)))))))
    refine zg h e (fun _ h=>?_) (fun _ h=>?_)
    ·refine zt (oM e (oV (zm3 e e) (oM e (oM e (zb h fun y57 hy57 h=>oV (zb5 y57 st9 e e hy57) (oV (zkY e e) (oV (zdI Tryz.underlying5 Tryz.underlying41 e) ?_)))))))
     exact oV (zjp e e) (oA e (zF (hJ56 _ () h _ (ji 9 7 e e e))))
    exact z6 (hJ56 _ () h _ (ji 0 7 e e e))
   refine zam (z8 (eL6 _ _ (zL (zE (wsr (oM e (oM e (zO h fun q59 h=>?_))))))))
   refine oV (zfo e e q59) (oA e (rnf (zp (wsr (oM e (oV (zay e e) (oM e (zab (jb 49) je .nil h 3 e (fun q60 g60 h=>?_) (fun J61 h hJ61=>?_)))))))))
   ·refine oM e (zab (jb 59) je .nil h 9 e (fun q63 g63 h=>?_) (fun J64 h hJ64=>?_))
    ·refine oM e (zab (jb 68) je .nil h 8 e (fun q70 g70 h=>?_) (fun J71 h hJ71=>?_))
     ·refine oM e (zab (jb 74) je .nil h 5 e (fun q77 g77 h=>?_) (fun J78 h hJ78=>?_))
      ·refine oM e (zab (jb 78) je .nil h 3 e (fun q82 g82 h=>?_) (fun J83 h hJ83=>?_))
       ·refine oM e (zab (jb 86) je .nil h 7 e (fun q85 g85 h=>?_) (fun J86 h hJ86=>?_))
        ·refine rnf (zg h e (fun _ h=>?_) (fun _ h=>?_))
         ·refine wsr (oA e (rnf (zD (zx ?_))))
          cases h
          exact zh (.tmp e .nil) .nil ⟨e,e⟩
         refine wkf (wsr (oM e (oA e (rnf (zD ?_)))))
         cases h
         exact zh (.tmp e .nil) .nil ⟨e,e⟩
        refine zn (j:=79) h e (fun g87 h=>?_) (fun g87 h=>?_)
        ·exact oP 79 e e g87 (oP 79 e e g87 (oP 79 e e g87 (zk e (dj:=82) e (zk e (dj:=82) e (oP 79 e e g87 (oV (zi e g87 e) (hJ86 _ () h _ (ji 7 86 e e e))))))))
        refine oK 79 e e e g87 (zs e) (oK 79 e e e g87 (za2 e) (oK 79 e e e g87 (zs e) (zab (jb 85) je .nil h 3 e (fun q88 g88 h=>?_) (fun J89 h hJ89=>?_))))
        ·exact oV (zj e g87 e) (hJ86 _ () h _ (ji 5 86 e e e))
        refine zn (j:=82) h e (fun g90 h=>?_) (fun g90 h=>?_)
        ·exact oK 82 e e e g90 (zs e) (oK 82 e e e g90 (zjr e e) (oK 79 e e e g87 (zi e g90 e) (hJ89 _ () h _ (ji 3 85 e e e))))
        exact oP 82 e e g90 (oP 82 e e g90 (oK 79 e e e g87 (zj e g90 e) (hJ89 _ () h _ (ji 3 85 e e e))))
       refine zn (j:=75) h e (fun g84 h=>?_) (fun g84 h=>?_)
       ·exact oP 75 e e g84 (oP 75 e e g84 (oV (zi e g84 e) (hJ83 _ () h _ (ji 3 78 e e e))))
       exact oK 75 e e e g84 (zs e) (oK 75 e e e g84 (zlo e e) (oV (zj e g84 e) (hJ83 _ () h _ (ji 3 78 e e e))))
      refine zn (j:=69) h e (fun g79 h=>?_) (fun g79 h=>?_)
      ·exact oP 69 e e g79 (oP 69 e e g79 (oP 69 e e g79 (oP 69 e e g79 (oV (zi e g79 e) (hJ78 _ () h _ (ji 5 74 e e e))))))
      exact oK 69 e e e g79 (zs e) (oK 69 e e e g79 (zs e) (zb h fun y80 hy80 h=>zai e e (dj:=69) e g79 (zA (zeM hy80) hT (s2 e e) .nil (zb h fun y81 hy81 h=>zai e e (dj:=69) e g79 (zA (zgx hy81) hT (s1 e) .nil (oV (zj e g79 e) (hJ78 _ () h _ (ji 5 74 e e e))))))))
     refine zn (j:=60) h e (fun g72 h=>?_) (fun g72 h=>?_)
     ·exact oP 60 e e g72 (oP 60 e e g72 (zk e (dj:=62) e (zk e (dj:=62) e (zk e (dj:=62) e (zk e (dj:=62) e (oP 60 e e g72 (oV (zi e g72 e) (hJ71 _ () h _ (ji 8 68 e e e)))))))))
     refine oK 60 e e e g72 (zs e) (oK 60 e e e g72 (zs e) (zab (jb 67) je .nil h 5 e (fun q73 g73 h=>?_) (fun J74 h hJ74=>?_)))
     ·exact oV (zj e g72 e) (hJ71 _ () h _ (ji 4 68 e e e))
     refine zn (j:=62) h e (fun g75 h=>?_) (fun g75 h=>?_)
     ·exact oK 62 e e e g75 (zs e) (oK 62 e e e g75 (zs e) (zb h fun y76 hy76 h=>oK 62 e e e g75 (zb5 y76 st9 e e hy76) (oK 62 e e e g75 (zce eq5 e e) (oK 60 e e e g72 (zi e g75 e) (hJ74 _ () h _ (ji 5 67 e e e))))))
     exact oP 62 e e g75 (oP 62 e e g75 (oP 62 e e g75 (oP 62 e e g75 (oK 60 e e e g72 (zj e g75 e) (hJ74 _ () h _ (ji 5 67 e e e))))))
    refine zn (j:=50) h e (fun g65 h=>?_) (fun g65 h=>?_)
    ·refine oP 50 e e g65 (oP 50 e e g65 (oP 50 e e g65 (zk e (dj:=53) e (zk e (dj:=53) e (zk e (dj:=53) e (zk e (dj:=53) e (oP 50 e e g65 (oV (zi e g65 e) ?_))))))))
     exact hJ64 _ () h _ (ji 9 59 e e e)
    refine oK 50 e e e g65 (zs e) (oK 50 e e e g65 (zb1 e e) (oK 50 e e e g65 (zs e) (zab (jb 58) je .nil h 5 e (fun q66 g66 h=>?_) (fun J67 h hJ67=>?_))))
    ·exact oV (zj e g65 e) (hJ64 _ () h _ (ji 5 59 e e e))
    refine zn (j:=53) h e (fun g68 h=>?_) (fun g68 h=>?_)
    ·exact oK 53 e e e g68 (zs e) (oK 53 e e e g68 (zs e) (zb h fun y69 hy69 h=>oK 53 e e e g68 (zb5 y69 st9 e e hy69) (oK 53 e e e g68 (zce eq5 e e) (oK 50 e e e g65 (zi e g68 e) (hJ67 _ () h _ (ji 5 58 e e e))))))
    exact oP 53 e e g68 (oP 53 e e g68 (oP 53 e e g68 (oP 53 e e g68 (oK 50 e e e g65 (zj e g68 e) (hJ67 _ () h _ (ji 5 58 e e e))))))
   refine zn (j:=46) h e (fun g62 h=>?_) (fun g62 h=>?_)
   ·exact oP 46 e e g62 (oP 46 e e g62 (oV (zi e g62 e) (hJ61 _ () h _ (ji 3 49 e e e))))
   exact oK 46 e e e g62 (zs e) (oK 46 e e e g62 (zb1 e e) (oV (zj e g62 e) (hJ61 _ () h _ (ji 3 49 e e e))))
  refine zn (j:=21) h e (fun g51 h=>?_) (fun g51 h=>?_)
  ·exact oK 21 e e e g51 (zs e) (oK 21 e e e g51 (zs e) (zb h fun y52 hy52 h=>oK 21 e e e g51 (zb5 y52 st9 e e hy52) (zb h fun y53 hy53 h=>zai e e (dj:=21) e g51 (zA (zeR hy53) hT (s1 e) .nil (oV (zi e g51 e) (hJ50 _ () h _ (ji 5 26 e e e)))))))
  exact oP 21 e e g51 (oP 21 e e g51 (oP 21 e e g51 (oP 21 e e g51 (oV (zj e g51 e) (hJ50 _ () h _ (ji 5 26 e e e))))))
 refine zg h e (fun _ h=>?_) (fun _ h=>?_)
 ·exact zt (oM e (zO h fun q4 h=>oV (zan e e q4) (oA e (zF (hJ3 _ () h _ (ji 3 1 e e e))))))
 exact z6 (hJ3 _ () h _ (ji 0 1 e e e))


theorem zng:∀ {a_s:Str} {a_i:Int} {r:Int × Str},zgp a_s a_i=some r→Ctr Tryz.prog 142 [isv (a_s),isv (a_i)] [] (fun R H=>R=oneOf [isv (r.1),isv (r.2)]∧H=[]):=by
 intro a_s a_i r h
 unfold zgp at h
 refine zr Tryz.func142 e fun w0 S0 hT=>wsr (oA e (oA e (rnf (wsr (oM e (zO h fun q1 h=>oV (zan e e q1) ?_))))))
 refine oA e (rnf (wsr (oM e (oA e (rnf (zp (zB (zbx (ι:=Int) (γ:=Unit) (fun q2 g2=>[(1,isv (q2))]) (fun q2 g2=>[]) h () (za (j:=1) e hI ze) .nil (fun L3 q2 g2 Q58 h hL3 eL3 rL3=>?_)))))))))
 refine zp (wsr (oM e (oM e (oV (zdX st9 e) (oV (zay e e) (oM e (zab (jb 31) je .nil h 17 e (fun q31 g31 h=>?_) (fun J32 h hJ32=>?_))))))))
 ·refine rnf (zg h e (fun _ h=>?_) (fun _ h=>?_))
  ·refine wkf (zB (zt (oM e (zO h fun q44 h=>oV (zan e e q44) (oA e (zF (zq ?_)))))))
   exact hL3 _ () h _ (ji 10 1 e e e)
  refine zam (z8 (eL3 _ _ (zL (zE (zp (wsr (oM e (oM e ?_))))))))
  refine zO h fun q45 h=>oV (zfo e e q45) (zaf h fun q46 h=>oV (zpH e e q46) (oV (zbo e e) (oM e (zab (jb 44) je .nil h 5 e (fun q47 g47 h=>?_) (fun J48 h hJ48=>?_)))))
  ·refine oM e (zab (jb 51) je .nil h 6 e (fun q51 g51 h=>?_) (fun J52 h hJ52=>?_))
   ·refine rnf (zg h e (fun _ h=>?_) (fun _ h=>?_))
    ·refine wsr (oA e (oA e (rnf (zD (zx ?_)))))
     cases h
     exact zh (.tmp e (.tmp e .nil)) .nil ⟨e,e⟩
    refine wkf (zp (zae (.v 0 (.v 1 (.v 2 (.v 3 (.v 4 (.v 5 (.v 6 (.v 7 .nil)))))))) moOrd (by kernel_rfl) ?_))
    refine rvm e e (zO h fun q56 h=>zC e (zan e e q56) (rvm e e (rvm e e (rvm e e (zak h fun q57 h=>zC e (zja st9 e (.inr ⟨_,e,e⟩) (.inr ⟨_,e,e⟩) q57.1 q57.2.1 q57.2.2) (zC e (zaM e) ?_))))))
    refine zC e (zaM e) (zaA (zE (zD ?_)))
    cases h
    exact zh (.tmp e (.tmp e .nil)) .nil ⟨e,e⟩
   refine zn (j:=45) h e (fun g53 h=>?_) (fun g53 h=>?_)
   ·exact oP 45 e e g53 (oP 45 e e g53 (oP 45 e e g53 (oP 45 e e g53 (oP 45 e e g53 (oV (zi e g53 e) (hJ52 _ () h _ (ji 6 51 e e e)))))))
   exact oK 45 e e e g53 (zs e) (oK 45 e e e g53 (zs e) (zO h fun q54 h=>oK 45 e e e g53 (zan e e q54) (zb h fun y55 hy55 h=>zai e e (dj:=45) e g53 (zA (zeM hy55) hT (s2 e e) .nil (oK 45 e e e g53 (zi7 eq5 e e) (oV (zj e g53 e) (hJ52 _ () h _ (ji 6 51 e e e))))))))
  refine zn (j:=39) h e (fun g49 h=>?_) (fun g49 h=>?_)
  ·exact oP 39 e e g49 (oP 39 e e g49 (oP 39 e e g49 (oP 39 e e g49 (oV (zi e g49 e) (hJ48 _ () h _ (ji 5 44 e e e))))))
  exact oK 39 e e e g49 (zs e) (oK 39 e e e g49 (zs e) (zb h fun y50 hy50 h=>zai e e (dj:=39) e g49 (zA (zeM hy50) hT (s2 e e) .nil (oK 39 e e e g49 (zi7 eq5 e e) (oV (zj e g49 e) (hJ48 _ () h _ (ji 5 44 e e e)))))))
 refine zn (j:=14) h e (fun g33 h=>?_) (fun g33 h=>?_)
 ·refine oK 14 e e e g33 (zs e) (oK 14 e e e g33 (zs e) (zb h fun y34 hy34 h=>oK 14 e e e g33 (zb5 y34 st9 e e hy34) (zb h fun y35 hy35 h=>zai e e (dj:=14) e g33 (zA (zeR hy35) hT (s1 e) .nil (oK 14 e e e g33 (zs e) (zab (jb 30) je .nil h 11 e (fun q36 g36 h=>?_) (fun J37 h hJ37=>?_)))))))
  ·exact oV (zi e g33 e) (hJ32 _ () h _ (ji 7 31 e e e))
  refine zn (j:=19) h e (fun g38 h=>?_) (fun g38 h=>?_)
  ·refine oP 19 e e g38 (oP 19 e e g38 (oP 19 e e g38 (oP 19 e e g38 (oP 19 e e g38 (zk e (dj:=24) e (zk e (dj:=24) e (zk e (dj:=24) e (zk e (dj:=24) e ?_))))))))
   exact oP 19 e e g38 (oK 14 e e e g33 (zi e g38 e) (hJ37 _ () h _ (ji 11 30 e e e)))
  refine oK 19 e e e g38 (zs e) (oK 19 e e e g38 (zs e) (zb h fun y39 hy39 h=>oK 19 e e e g38 (zb5 y39 st9 e e hy39) (oK 19 e e e g38 (zj9 e e) (oK 19 e e e g38 (zs e) (zab (jb 29) je .nil h 5 e (fun q40 g40 h=>?_) (fun J41 h hJ41=>?_))))))
  ·exact oK 14 e e e g33 (zj e g38 e) (hJ37 _ () h _ (ji 7 30 e e e))
  refine zn (j:=24) h e (fun g42 h=>?_) (fun g42 h=>?_)
  ·exact oK 24 e e e g42 (zs e) (oK 24 e e e g42 (zs e) (zb h fun y43 hy43 h=>oK 24 e e e g42 (zb5 y43 st9 e e hy43) (oK 24 e e e g42 (zjC e e) (oK 19 e e e g38 (zi e g42 e) (hJ41 _ () h _ (ji 5 29 e e e))))))
  exact oP 24 e e g42 (oP 24 e e g42 (oP 24 e e g42 (oP 24 e e g42 (oK 19 e e e g38 (zj e g42 e) (hJ41 _ () h _ (ji 5 29 e e e))))))
 refine oP 14 e e g33 (oP 14 e e g33 (oP 14 e e g33 (oP 14 e e g33 (oP 14 e e g33 (zk e (dj:=19) e (zk e (dj:=19) e (zk e (dj:=19) e (zk e (dj:=19) e ?_))))))))
 exact zk e (dj:=19) e (zk e (dj:=24) e (zk e (dj:=24) e (zk e (dj:=24) e (zk e (dj:=24) e (zk e (dj:=19) e (oP 14 e e g33 (oV (zj e g33 e) (hJ32 _ () h _ (ji 17 31 e e e)))))))))


theorem zkU:∀ {a_s:Str} {a_i:Int} {r:Int × Str},zdP a_s a_i=some r→Ctr Tryz.prog 143 [isv (a_s),isv (a_i)] [] (fun R H=>R=oneOf [isv (r.1),isv (r.2)]∧H=[]):=by
 intro a_s a_i r h
 unfold zdP at h
 refine zr Tryz.func143 e fun w0 S0 hT=>wsr (oA e (oA e (rnf (wsr (oA e (rnf (zp ?_)))))))
 refine wsr (oM e (zO h fun q1 h=>oV (zan e e q1) (oA e (rnf (zB (zbx (ι:=Int × Str) (γ:=Unit) (fun q2 g2=>[(1,isv (q2.1)),(6,isv (q2.2))]) (fun q2 g2=>[]) h () (za (j:=1) e hI (za (j:=6) e hI ze)) .nil (fun L3 q2 g2 Q30 h hL3 eL3 rL3=>zp ?_)))))))
 refine wsr (oM e (oM e (oV (zdX st9 e) (oV (zay e e) (rnf (zg h e (fun _ h=>?_) (fun _ h=>?_)))))))
 ·refine wkf (zp (zdF (ι:=Int × Str) (γ:=Unit) (fun q17 g17=>[(1,isv (q17.1)),(6,isv (q17.2))]) (fun q17 g17=>[]) .nil h (fun q17 g17 h=>?_) (fun J18 h hJ18=>?_)))
  ·exact zt (oM e (zO h fun q29 h=>oV (zan e e q29) (oA e (zF (hL3 _ () h _ (zf 11 e e (za (j:=1) e hI (za (j:=6) e hI ze)) .nil))))))
  refine zB (zp (wsr (oM e (oM e (zb h fun y19 hy19 h=>oV (zb5 y19 st9 e e hy19) (oV (zi7 eq5 e e) (rnf ?_)))))))
  refine zg h e (fun _ h=>?_) (fun _ h=>?_)
  ·refine wsr (oM e (oM e (oM e (oM e (zO h fun q20 h=>oV (zan e e q20) (zak h fun q21 h=>oV (zja st9 e (.inr ⟨_,e,e⟩) (.inr ⟨_,e,e⟩) q21.1 q21.2.1 q21.2.2) ?_))))))
   exact zaf h fun q22 h=>oV (zfj e e q22) (oA e (rnf (zam (z8 (zL (hJ18 _ () h _ (zf 12 e e (za (j:=1) e hI (za (j:=6) e hI ze)) .nil)))))))
  refine wkf (zp (wsr (oM e (oM e (zO h fun q23 h=>oV (zan e e q23) (zb h fun y24 hy24 h=>oT (zA (zeM hy24) hT (s2 e e) .nil ?_)))))))
  refine oV (zi7 eq5 e e) (rnf (zg h e (fun _ h=>?_) (fun _ h=>?_)))
  ·refine zp (wsr (oM e (zb h fun y25 hy25 h=>oT (zA (zhU hy25) hT (s1 e) .nil (oV (za2 e) (rnf (zg h e (fun _ h=>?_) (fun _ h=>?_))))))))
   ·refine wsr (oA e (oA e (rnf (zD (zx (zx (zz (zx ?_))))))))
    refine rL3 _ (zz (zx ?_))
    cases h
    exact zh (.tmp e (.tmp e .nil)) .nil ⟨e,e⟩
   refine wkf (wsr (oM e (zO h fun q26 h=>oV (zan e e q26) (oM e (oA e (oA e (rnf ?_)))))))
   refine zD (zx (zz (zx (rL3 _ (zz (zx ?_))))))
   cases h
   exact zh (.tmp e (.tmp e .nil)) .nil ⟨e,e⟩
  refine wkf (wsr (oM e (zaf h fun q27 h=>oV (zfj e e q27) (oA e (rnf (zt (oM e ?_)))))))
  exact zO h fun q28 h=>oV (zan e e q28) (oA e (zF (zq (hJ18 _ () h _ (zf 15 e e (za (j:=1) e hI (za (j:=6) e hI ze)) .nil)))))
 refine zam (z8 (eL3 _ _ (zL (zE (wsr (oA e (oA e (rnf ?_))))))))
 refine zD ?_
 cases h
 exact zh (.tmp e (.tmp e .nil)) .nil ⟨e,e⟩


theorem zmb:∀ {a_s:Str} {a_i:Int} {r:Int},zfw a_s a_i=some r→Ctr Tryz.prog 144 [isv (a_s),isv (a_i)] [] (fun R H=>R=oneOf [isv (r)]∧H=[]):=by
 intro a_s a_i r h
 unfold zfw at h
 refine zr Tryz.func144 e fun w0 S0 hT=>wsr (oA e (rnf (wsr (oM e (oM e (zak h fun q1 h=>oV (zja st9 e (.inr ⟨_,e,e⟩) (.inl ⟨e,e⟩) q1.1 q1.2.1 q1.2.2) ?_))))))
 refine oA e (rnf (wsr (oT (zZ (l:=([(Str.mk [58,58,61]),(Str.mk [46,46,46]),(Str.mk [46,46]),(Str.mk [91,91]),(Str.mk [93,93]),(Str.mk [123]),(Str.mk [125]),(Str.mk [91]),(Str.mk [93]),(Str.mk [40]),(Str.mk [41]),(Str.mk [44]),(Str.mk [58])]:(List Str))) el22 (.cons e hI (.cons e hI (.cons e hI (.cons e hI (.cons e hI (.cons e hI (.cons e hI (.cons e hI (.cons e hI (.cons e hI (.cons e hI (.cons e hI (.cons e hI .nil))))))))))))) e e (oA e (rnf (zp (wsr (oA e ?_)))))))))
 refine rnf (zB (zbx (ι:=Int) (γ:=Unit) (fun q3 g3=>[(7,isv (q3))]) (fun q3 g3=>[]) h () (za (j:=7) e hI ze) .nil (fun L4 q3 g3 Q19 h hL4 eL4 rL4=>zp (wsr (oM e (oM e (oV (zaH (l:=([(Str.mk [58,58,61]),(Str.mk [46,46,46]),(Str.mk [46,46]),(Str.mk [91,91]),(Str.mk [93,93]),(Str.mk [123]),(Str.mk [125]),(Str.mk [91]),(Str.mk [93]),(Str.mk [40]),(Str.mk [41]),(Str.mk [44]),(Str.mk [58])]:(List Str))) e zQ sl22) (oV (zay e e) ?_))))))))
 refine rnf (zg h e (fun _ h=>?_) (fun _ h=>?_))
 ·refine wkf (zp (zB (wsr (oM e (oM e (zb h fun y12 hy12 h=>oV (zaz (l:=([(Str.mk [58,58,61]),(Str.mk [46,46,46]),(Str.mk [46,46]),(Str.mk [91,91]),(Str.mk [93,93]),(Str.mk [123]),(Str.mk [125]),(Str.mk [91]),(Str.mk [93]),(Str.mk [40]),(Str.mk [41]),(Str.mk [44]),(Str.mk [58])]:(List Str))) e zQ e sl22 hy12) (oV (zd ty9 e) ?_)))))))
  refine oV (zdX st9 e) (oA e (rnf (zp (zae (.v 0 (.v 1 (.v 2 (.v 3 (.v 4 (.v 5 (.v 6 (.v 7 (.v 8 (.v 9 (.v 10 (.v 11 (.v 12 (.v 13 .nil)))))))))))))) moOrd (by kernel_rfl) ?_))))
  refine rvm e e (zC e (zdX st9 e) (rvm e e (zC e (zcR e e) (rvm e e (zdk (jb 37) je .nil h 9 e (fun q13 g13 h=>?_) (fun J14 h hJ14=>?_))))))
  ·refine zaA (zE (zg h e (fun _ h=>?_) (fun _ h=>?_)))
   ·refine wsr (oM e (oA e (rnf (zD (zz (zx (rL4 _ (zz ?_))))))))
    refine zx ?_
    cases h
    exact zh (.tmp e .nil) .nil ⟨e,e⟩
   refine z6 (zq (zE (zt (oM e (zO h fun q18 h=>oV (zan e e q18) (oA e (zF ?_)))))))
   exact hL4 _ () h _ (ji 20 7 e e e)
  refine zaJ (j:=28) h e (fun g15 h=>?_) (fun g15 h=>?_)
  ·refine rvt 28 e e e g15 (zs e) (rvt 28 e e e g15 (zs e) (zak h fun q16 h=>rvt 28 e e e g15 (zja st9 e (.inl ⟨e,e⟩) (.inr ⟨_,e,e⟩) q16.1 q16.2.1 q16.2.2) (rvt 28 e e e g15 (zs e) (rvt 28 e e e g15 (zs e) (zb h fun y17 hy17 h=>rvt 28 e e e g15 (zaz (l:=([(Str.mk [58,58,61]),(Str.mk [46,46,46]),(Str.mk [46,46]),(Str.mk [91,91]),(Str.mk [93,93]),(Str.mk [123]),(Str.mk [125]),(Str.mk [91]),(Str.mk [93]),(Str.mk [40]),(Str.mk [41]),(Str.mk [44]),(Str.mk [58])]:(List Str))) e zQ e sl22 hy17) (rvt 28 e e e g15 (zd ty9 e) ?_))))))
   exact rvt 28 e e e g15 (zce eq9 e e) (zC e (zi e g15 e) (hJ14 _ () h _ (ji 9 37 e e e)))
  refine rpv 28 e e e g15 (rpv 28 e e e g15 (rpv 28 e e e g15 (rpv 28 e e e g15 (rpv 28 e e e g15 (rpv 28 e e e g15 (rpv 28 e e e g15 (rpv 28 e e e g15 (zC e (zj e g15 e) ?_))))))))
  exact hJ14 _ () h _ (ji 9 37 e e e)
 refine zam (z8 (eL4 _ _ (zL (zE (wsr (oA e (rnf (zD ?_))))))))
 cases h
 exact zh (.tmp e .nil) .nil ⟨e,e⟩


theorem znm:∀ {a_s:Str} {a_i:Int} {r:GTok × Int},zgg a_s a_i=some r→Ctr Tryz.prog 103 [isv (a_s),isv (a_i)] [] (fun R H=>R=oneOf [isv (r.1),isv (r.2)]∧H=[]):=by
 intro a_s a_i r h
 unfold zgg at h
 refine zr Tryz.func103 e fun w0 S0 hT=>wsr (oT (zag _ ze133 fun b1=>oA e (rnf (wsr (oM e (oV (zar (z:=(GTok.mk (0:Int) (Str.mk []) a_i)) e bu133 ze133 (.cons GTok.f2 zls e hI .nil)) (oT (zag _ ze133 fun b2=>?_))))))))
 refine oT (zo (y':=((GTok.mk (0:Int) (Str.mk []) a_i):GTok)) ty133 e e hI .here e (rnf (wsr (oM e (oM e (zb h fun y3 hy3 h=>oV (zb5 y3 st9 e e hy3) (oA e (rnf ?_))))))))
 refine wsr (oA e (rnf (zp (zdF (ι:=Int × GTok) (γ:=Unit) (fun q4 g4=>[(8,isv (q4.1))]) (fun q4 g4=>[boxE b2 (q4.2:GTok)]) k1 h (fun q4 g4 h=>?_) (fun J5 h hJ5=>?_)))))
 ·refine wsr (oT (zH (R:=isv (q4.2)) ty133 e .here hI (oM e (oT (zo (y':=(q4.2:GTok)) ty133 e e hI tH e (oA e (rnf (zD ?_))))))))
  cases h
  exact zh (.cell e .here ty133 (.tmp e .nil)) .nil ⟨e,e⟩
 refine zB (wsr (oM e (zb h fun y6 hy6 h=>oT (zA (zgx hy6) hT (s1 e) .nil (oA e (rnf (zg h e (fun _ h=>?_) (fun _ h=>?_))))))))
 ·refine wsr (oM e (oM e (zb h fun y7 hy7 h=>oT (zA (zmg hy7) hT (s2 e e) .nil (oA e (rnf (zp (wsr ?_))))))))
  refine oM e (oV (zay e e) (rnf (zg h e (fun _ h=>?_) (fun _ h=>?_))))
  ·refine wsr (oT (zH (R:=isv ((GTok.mk (0:Int) (Str.mk []) a_i))) ty133 e .here hI (oT (zo (y':=((GTok.mk (0:Int) (Str.mk []) a_i):GTok)) ty133 e e hI tH e (oA e (rnf (zD (zx (zz (zx ?_))))))))))
   cases h
   exact zh (.cell e .here ty133 (.tmp e .nil)) .nil ⟨e,e⟩
  refine wkf (zp (zae (.v 0 (.v 1 (.v 2 (.v 3 (.v 4 (.t 5 (.v 6 (.t 7 .nil)))))))) moOrd (by kernel_rfl) ?_))
  refine rvm e e (rvm e e (rvm e e (zak h fun q8 h=>zC e (zja st9 e (.inr ⟨_,e,e⟩) (.inr ⟨_,e,e⟩) q8.1 q8.2.1 q8.2.2) (zC e (zY e GTok.f0 zci) (zaK e e (zo (y':=((GTok.mk (2:Int) (Str.mk []) a_i):GTok)) ty3 e e hI .here e (zC e (zY e GTok.f1 zc8) (zaK e e (zo (y':=((GTok.mk (2:Int) (Str.mk ((a_s.b.take (y7).toNat).drop (a_i).toNat)) a_i):GTok)) ty9 e e hI .here e ?_)))))))))
  refine zaA (zE (zp (wsr (oM e (oV (zjC e e) (rnf (zdF (ι:=GTok) (γ:=Unit) (fun q9 g9=>[]) (fun q9 g9=>[boxE b2 (q9:GTok)]) k1 h (fun q9 g9 h=>?_) (fun J10 h hJ10=>?_))))))))
  ·refine wsr (oV (zY e GTok.f1 zc8) (oT (zH (R:=isv (q9.text)) ty9 e .here hI (zb h fun y11 hy11 h=>oT (zA (zmz hy11) hT (s1 e) .nil (rnf (zg h e (fun _ h=>?_) (fun _ h=>?_))))))))
   ·exact zt (oV (zY e GTok.f0 zci) (oT (zo (y':=({ q9 with kind:=(5:Int) }:GTok)) ty3 e e hI .here e (zF (zq (hJ5 _ () h _ (zf 21 e e (za (j:=8) e hI ze) k2)))))))
   exact z6 (zq (hJ5 _ () h _ (zf 20 e e (za (j:=8) e hI ze) k2)))
  refine zg h e (fun _ h=>?_) (fun _ h=>?_)
  ·exact zt (oV (zY e GTok.f0 zci) (oT (zo (y':=((GTok.mk (1:Int) (Str.mk ((a_s.b.take (y7).toNat).drop (a_i).toNat)) a_i):GTok)) ty3 e e hI .here e (zF (hJ10 _ () h _ (zf 1 e e ze k2))))))
  exact z6 (hJ10 _ () h _ (zf 0 e e ze k2))
 refine wsr (oM e (zb h fun y12 hy12 h=>oT (zA (zeR hy12) hT (s1 e) .nil (oM e (zab (jb 66) je .nil h 10 e (fun q13 g13 h=>?_) (fun J14 h hJ14=>?_))))))
 ·refine oA e (rnf (zg h e (fun _ h=>?_) (fun _ h=>?_)))
  ·refine wsr (oM e (oM e (zb h fun y22 hy22 h=>oT (zA (zkR hy22) hT (s2 e e) .nil (oA e (rnf (zp (wsr ?_))))))))
   refine oM e (oV (zay e e) (rnf (zg h e (fun _ h=>?_) (fun _ h=>?_))))
   ·refine wsr (oT (zH (R:=isv ((GTok.mk (0:Int) (Str.mk []) a_i))) ty133 e .here hI (oT (zo (y':=((GTok.mk (0:Int) (Str.mk []) a_i):GTok)) ty133 e e hI tH e (oA e (rnf (zD (zx (zz (zx ?_))))))))))
    cases h
    exact zh (.cell e .here ty133 (.tmp e .nil)) .nil ⟨e,e⟩
   refine wkf (zae (.v 0 (.v 1 (.v 2 (.v 3 (.v 4 (.t 5 (.v 6 (.t 7 .nil)))))))) moOrd (by kernel_rfl) ?_)
   refine rvm e e (rvm e e (rvm e e (zak h fun q23 h=>zC e (zja st9 e (.inr ⟨_,e,e⟩) (.inr ⟨_,e,e⟩) q23.1 q23.2.1 q23.2.2) (zC e (zY e GTok.f0 zci) (zaK e e (zo (y':=((GTok.mk (3:Int) (Str.mk []) a_i):GTok)) ty3 e e hI .here e (zC e (zY e GTok.f1 zc8) (zaK e e (zo (y':=((GTok.mk (3:Int) (Str.mk ((a_s.b.take (y22).toNat).drop (a_i).toNat)) a_i):GTok)) ty9 e e hI .here e ?_)))))))))
   exact zaA (zq (hJ5 _ () h _ (zf 20 e e (za (j:=8) e hI ze) k2)))
  refine wsr (oM e (oV (zce eq5 e e) (oA e (rnf (zg h e (fun _ h=>?_) (fun _ h=>?_))))))
  ·refine wsr (oV (zY e GTok.f0 zci) (oT (zo (y':=((GTok.mk (4:Int) (Str.mk []) a_i):GTok)) ty3 e e hI .here e (rnf (zt (oM e (oM e (zb h fun y24 hy24 h=>oT (zA (zng hy24) hT (s2 e e) .nil ?_)))))))))
   exact oM e (oV (z7 e e) (oV (z7 e e) (oA e (oV (zY e GTok.f1 zc8) (oT (zo (y':=((GTok.mk (4:Int) y24.2 a_i):GTok)) ty9 e e hI .here e (zF (zq (hJ5 _ () h _ (zf 20 e e (za (j:=8) e hI ze) k2))))))))))
  refine wsr (oM e (oV (zce eq5 e e) (oA e (rnf (zg h e (fun _ h=>?_) (fun _ h=>?_))))))
  ·refine wsr (oV (zY e GTok.f0 zci) (oT (zo (y':=((GTok.mk (7:Int) (Str.mk []) a_i):GTok)) ty3 e e hI .here e (rnf (zt (oM e (oM e (zb h fun y25 hy25 h=>oT (zA (zkU hy25) hT (s2 e e) .nil ?_)))))))))
   exact oM e (oV (z7 e e) (oV (z7 e e) (oA e (oV (zY e GTok.f1 zc8) (oT (zo (y':=((GTok.mk (7:Int) y25.2 a_i):GTok)) ty9 e e hI .here e (zF (zq (hJ5 _ () h _ (zf 23 e e (za (j:=8) e hI ze) k2))))))))))
  refine wsr (oM e (oM e (zb h fun y26 hy26 h=>oT (zA (zmb hy26) hT (s2 e e) .nil (oA e (rnf (wsr (oM e ?_))))))))
  refine oV (zb1 e e) (rnf (zg h e (fun _ h=>?_) (fun _ h=>?_)))
  ·refine zae (.v 0 (.v 1 (.v 2 (.v 3 (.v 4 (.v 5 (.v 6 (.v 7 (.v 8 (.v 9 (.t 10 (.v 11 (.t 12 (.v 13 .nil)))))))))))))) moOrd (by kernel_rfl) ?_
   refine rvm e e (rvm e e (rvm e e (rvm e e (zO h fun q27 h=>zC e (zan e e q27) (zak h fun q28 h=>zC e (zja st9 e (.inr ⟨_,e,e⟩) (.inr ⟨_,e,e⟩) q28.1 q28.2.1 q28.2.2) (rvm e e ?_))))))
   refine rvm e e (zO h fun q29 h=>zC e (zan e e q29) (zC e (zY e GTok.f0 zci) (zaK e e (zo (y':=((GTok.mk (6:Int) (Str.mk []) a_i):GTok)) ty3 e e hI .here e (zC e (zY e GTok.f1 zc8) (zaK e e (zo (y':=((GTok.mk (6:Int) (Str.mk ((a_s.b.take ((a_i + y26)).toNat).drop (a_i).toNat)) a_i):GTok)) ty9 e e hI .here e (zC e (zaM e) (zaA ?_)))))))))
   exact zq (hJ5 _ () h _ (zf 32 e e (za (j:=8) e hI ze) k2))
  exact z6 (zq (hJ5 _ () h _ (zf 20 e e (za (j:=8) e hI ze) k2)))
 refine zn (j:=56) h e (fun g15 h=>?_) (fun g15 h=>?_)
 ·refine oP 56 e e g15 (oP 56 e e g15 (oP 56 e e g15 (zk e (dj:=59) e (zk e (dj:=59) e (zk e (dj:=59) e (zk e (dj:=59) e (zk e (dj:=59) e (oP 56 e e g15 ?_))))))))
  exact oV (zi e g15 e) (hJ14 _ () h _ (zf 10 e e (za (j:=66) e hI ze) k2))
 refine oK 56 e e e g15 (zs e) (oK 56 e e e g15 (zce eq5 e e) (oK 56 e e e g15 (zs e) (zab (jb 65) je .nil h 6 e (fun q16 g16 h=>?_) (fun J17 h hJ17=>?_))))
 ·exact oV (zj e g15 e) (hJ14 _ () h _ (zf 5 e e (za (j:=66) e hI ze) k2))
 refine zn (j:=59) h e (fun g18 h=>?_) (fun g18 h=>?_)
 ·refine oK 59 e e e g18 (zs e) (oK 59 e e e g18 (zs e) (zO h fun q19 h=>oK 59 e e e g18 (zan e e q19) (zb h fun y20 hy20 h=>zai e e (dj:=59) e g18 (zA (zeM hy20) hT (s2 e e) .nil (zb h fun y21 hy21 h=>zai e e (dj:=59) e g18 (zA (zeR hy21) hT (s1 e) .nil (oK 56 e e e g15 (zi e g18 e) ?_)))))))
  exact hJ17 _ () h _ (zf 6 e e (za (j:=65) e hI ze) k2)
 exact oP 59 e e g18 (oP 59 e e g18 (oP 59 e e g18 (oP 59 e e g18 (oP 59 e e g18 (oK 56 e e e g15 (zj e g18 e) (hJ17 _ () h _ (zf 6 e e (za (j:=65) e hI ze) k2)))))))


theorem zlr:∀ {zbz:Str} {r:(List GTok) × Int × Int},zdg zbz=some r→Ctr Tryz.prog 69 [isv (zbz)] [] (fun R H=>R=oneOf [isv (r.1),isv (r.2.1),isv (r.2.2)]∧H=[]):=by
 intro zbz r h
 unfold zdg at h
 refine zr Tryz.func69 e fun w0 S0 hT=>wsr (oA e (oA e (oA e (rnf (zp (wsr (oM e ?_)))))))
 refine oV (zdX st9 e) (oV (zb1 e e) (rnf (zg h e (fun _ h=>?_) (fun _ h=>?_))))
 ·refine wsr (oA e (oA e (oA e (rnf (zD (zx ?_))))))
  cases h
  exact zh (.as e (zed (α:=GTok)) (.tmp e (.tmp e .nil))) .nil ⟨e,e⟩
 refine wkf (wsr (oA e (rnf (wsr (oA e (rnf (zB (zgZ (zbh) ?_))))))))
 refine zbx (ι:=(List GTok) × Int) (γ:=Tok) (fun q1 g1=>[(5,appv g1 (q1.1)),(6,isv (q1.2))]) (fun q1 g1=>[tokE g1]) h (none) (za (j:=5) e zb4 (za (j:=6) e hI ze)) k1 (fun L2 q1 g1 Q22 h hL2 eL2 rL2=>zB (wsr (oM e (oM e (zb h fun y12 hy12 h=>oT (zA (zl1 hy12) hT (s2 e e) .nil (oA e (rnf ?_))))))))
 refine zp (wsr (oM e (oM e (oV (zdX st9 e) (oV (zcR e e) (rnf (zg h e (fun _ h=>?_) (fun _ h=>?_))))))))
 ·refine wsr (oM e (oM e (oV (zdX st9 e) (oV (zar (z:=(GTok.mk (0:Int) (Str.mk []) (zbz.b.length:Int))) e bu133 ze133 (.cons GTok.f2 zls e hI .nil)) (oT (zZ (l:=([(GTok.mk (0:Int) (Str.mk []) (zbz.b.length:Int))]:(List GTok))) el124 (.cons e hI .nil) e e (zaf h fun q15 h=>oT (zbU (l:=q1.1) (m:=([(GTok.mk (0:Int) (Str.mk []) (zbz.b.length:Int))]:(List GTok))) zkx e hI e zQ .here q15 fun t14=>oA e ?_))))))))
  refine oA e (oA e (rnf (zD (zx (zz (rL2 _ (zz ?_)))))))
  cases h
  exact zh (.as e zQ (.tmp e (.tmp e .nil))) .nil ⟨e,e⟩
 refine wkf (wsr (oM e (oM e (zb h fun y16 hy16 h=>oT (zA (znm hy16) hT (s2 e e) .nil (oM e (oV (z7 e e) (oV (z7 e e) ?_))))))))
 refine oT (zag _ ze133 fun b17=>oT (zo (y':=(y16.1:GTok)) ty133 e e hI .here e (zaj (zaQ 7 .here e) (oA e (rnf (zp (wsr (oM e (oV (zay e e) ?_)))))))))
 refine rnf (zg h e (fun _ h=>?_) (fun _ h=>?_))
 ·refine wsr (oM e (oA e (oA e (oA e (rnf (zD (zx (zz ?_))))))))
  refine rL2 _ (zz ?_)
  cases h
  exact zh (.as e (zed (α:=GTok)) (.tmp e (.tmp e .nil))) .nil ⟨e,e⟩
 refine wkf (wsr (oM e (oV (zd ty133 e) (oT (zZ (l:=([y16.1]:(List GTok))) el124 (.cons e hI .nil) e e (zaf h fun q20 h=>oT (zbU (l:=q1.1) (m:=([y16.1]:(List GTok))) zkx e hI e zQ .here q20 fun t19=>oA e (rnf ?_))))))))
 exact zt (oM e (oA e (zF (zq (hL2 _ (t19) h _ (zf 28 e e (za (j:=5) e hI (za (j:=6) e hI ze)) k1))))))


theorem zaZ:∀ {a_x:GPar} {zJ:Nat} {t_a_x1:Tok} {t_a_x2:Tok} {zM:Vt} {r:GTok × GPar},zat a_x=some r→Ctr Tryz.prog 73 [ptrv zJ (Fld.id ((List GTok) × Int × (Str × Int × (TList Str) × (TList Int) × Vh) × Int × Int))] [boxE zJ ((a_x.l,a_x.at_,(a_x.m.name,a_x.m.tagging,(TList.mk t_a_x1 a_x.m.names),(TList.mk t_a_x2 a_x.m.types),(Vh.mk zM a_x.m.nodes.length)),a_x.e,a_x.p):((List GTok) × Int × (Str × Int × (TList Str) × (TList Int) × Vh) × Int × Int)),tokE t_a_x1,tokE t_a_x2,vecE zM (a_x.m.nodes:List GNode)] (fun R H=>∃ u1:Tok,∃ u2:Tok,R=oneOf [isv (r.1)]∧H=[boxE zJ ((r.2.l,r.2.at_,(r.2.m.name,r.2.m.tagging,(TList.mk u1 r.2.m.names),(TList.mk u2 r.2.m.types),(Vh.mk zM r.2.m.nodes.length)),r.2.e,r.2.p)),tokE u1,tokE u2,vecE zM (r.2.m.nodes)]):=by
 intro a_x zJ t_a_x1 t_a_x2 zM r h
 unfold zat at h
 refine zr Tryz.func73 e fun w0 S0 hT=>wsr (oT (zag _ ze133 fun b4=>rnf (zp (zdh 0 tH e (fun o5 hn6=>zae (.v 0 (.v 1 (.v 2 (.v 3 (.v 4 (.v 5 (.v 6 (.v 7 (.v 8 (.v 9 (.t 10 .nil))))))))))) moOrd (by kernel_rfl) ?_)))))
 refine rvm e e (zC e (zbJ e) (zC e (zf0 e zhw zjq) (zC e (zdx (R:=isv (a_x.l)) ty124 e (List.Mem.head _) hI) (rvm e e (zC e (zbJ e) (zC e (zf0 e zf8 zis) (zC e (zdx (R:=isv (a_x.at_)) ty3 e (List.Mem.head _) hI) (zb h fun y7 hy7 h=>?_))))))))
 refine zC e (zaz (l:=a_x.l) e hI e sl124 hy7) (zC e (zd ty133 e) (zaK e e (zo (y':=(y7:GTok)) ty133 e e hI .here e (zaA (za7 0 hn6 e (zE (zD (zh (.cell e tH ty133 .nil) (.cons .here (.cons tH (.cons tH (.cons tH .nil)))) ?_))))))))
 cases h
 exact ⟨t_a_x1,t_a_x2,e,e⟩


theorem zbk:∀ {a_x:GPar} {a_e:Int} {a_t:GTok} {zJ:Nat} {t_a_x1:Tok} {t_a_x2:Tok} {zM:Vt} {r:GPar},zaO a_x a_e a_t=some r→Ctr Tryz.prog 74 [ptrv zJ (Fld.id ((List GTok) × Int × (Str × Int × (TList Str) × (TList Int) × Vh) × Int × Int)),isv (a_e),isv (a_t)] [boxE zJ ((a_x.l,a_x.at_,(a_x.m.name,a_x.m.tagging,(TList.mk t_a_x1 a_x.m.names),(TList.mk t_a_x2 a_x.m.types),(Vh.mk zM a_x.m.nodes.length)),a_x.e,a_x.p):((List GTok) × Int × (Str × Int × (TList Str) × (TList Int) × Vh) × Int × Int)),tokE t_a_x1,tokE t_a_x2,vecE zM (a_x.m.nodes:List GNode)] (fun R H=>∃ u1:Tok,∃ u2:Tok,R=oneOf []∧H=[boxE zJ ((r.l,r.at_,(r.m.name,r.m.tagging,(TList.mk u1 r.m.names),(TList.mk u2 r.m.types),(Vh.mk zM r.m.nodes.length)),r.e,r.p)),tokE u1,tokE u2,vecE zM (r.m.nodes)]):=by
 intro a_x a_e a_t zJ t_a_x1 t_a_x2 zM r h
 unfold zaO at h
 refine zr Tryz.func74 e fun w0 S0 hT=>wsr (oT (zaw (y:=a_t) e hI (rnf (wsr (oM e (oV (zw e) (oV (zY e zbD zcv) (oT (zH (R:=isv (a_x.e)) ty65 e .here hI ?_)))))))))
 refine oV (zaa e e) (rnf (zg h e (fun _ h=>?_) (fun _ h=>?_)))
 ·refine zae (.v 0 (.v 1 (.v 2 (.v 3 (.v 4 (.v 5 (.v 6 (.t 7 (.v 8 (.v 9 (.t 10 .nil))))))))))) moOrd (by kernel_rfl) ?_
  refine rvm e e (rvm e e (rvm e e (zC e (zI e GTok.f2 zls e (z:=a_t.at_)) (zC e (zd ty3 e) (zC e (zw e) (zC e (zY e zbD zcv) (zaK e e (zo (y':=((a_x.l,a_x.at_,(a_x.m.name,a_x.m.tagging,(TList.mk t_a_x1 a_x.m.names),(TList.mk t_a_x2 a_x.m.types),(Vh.mk zM a_x.m.nodes.length)),a_e,a_x.p):((List GTok) × Int × (Str × Int × (TList Str) × (TList Int) × Vh) × Int × Int))) ty65 e e hI .here e (zC e (zw e) ?_)))))))))
  refine zC e (zY e zkr zmM) (zaK e e (zo (y':=((a_x.l,a_x.at_,(a_x.m.name,a_x.m.tagging,(TList.mk t_a_x1 a_x.m.names),(TList.mk t_a_x2 a_x.m.types),(Vh.mk zM a_x.m.nodes.length)),a_e,a_t.at_):((List GTok) × Int × (Str × Int × (TList Str) × (TList Int) × Vh) × Int × Int))) ty3 e e hI .here e (zaA (zaP .nil k4 ?_))))
  cases h
  exact ⟨t_a_x1,t_a_x2,e,e⟩
 refine z6 (zaP .nil k4 ?_)
 cases h
 exact ⟨t_a_x1,t_a_x2,e,e⟩


theorem zbT:∀ {a_x:GPar} {zJ:Nat} {t_a_x1:Tok} {t_a_x2:Tok} {zM:Vt} {r:GTok × GPar},zaX a_x=some r→Ctr Tryz.prog 104 [ptrv zJ (Fld.id ((List GTok) × Int × (Str × Int × (TList Str) × (TList Int) × Vh) × Int × Int))] [boxE zJ ((a_x.l,a_x.at_,(a_x.m.name,a_x.m.tagging,(TList.mk t_a_x1 a_x.m.names),(TList.mk t_a_x2 a_x.m.types),(Vh.mk zM a_x.m.nodes.length)),a_x.e,a_x.p):((List GTok) × Int × (Str × Int × (TList Str) × (TList Int) × Vh) × Int × Int)),tokE t_a_x1,tokE t_a_x2,vecE zM (a_x.m.nodes:List GNode)] (fun R H=>∃ u1:Tok,∃ u2:Tok,R=oneOf [isv (r.1)]∧H=[boxE zJ ((r.2.l,r.2.at_,(r.2.m.name,r.2.m.tagging,(TList.mk u1 r.2.m.names),(TList.mk u2 r.2.m.types),(Vh.mk zM r.2.m.nodes.length)),r.2.e,r.2.p)),tokE u1,tokE u2,vecE zM (r.2.m.nodes)]):=by
 intro a_x zJ t_a_x1 t_a_x2 zM r h
 unfold zaX at h
 refine zr Tryz.func104 e fun w0 S0 hT=>wsr (oT (zag _ ze133 fun b4=>rnf (zp (zdh 0 tH e (fun o5 hn6=>zae (.v 0 (.v 1 (.v 2 (.v 3 (.v 4 (.v 5 (.v 6 (.v 7 (.v 8 (.v 9 (.t 10 (.t 11 .nil)))))))))))) moOrd (by kernel_rfl) ?_)))))
 refine rvm e e (zC e (zbJ e) (zC e (zf0 e zhw zjq) (zC e (zdx (R:=isv (a_x.l)) ty124 e (List.Mem.head _) hI) (rvm e e (zC e (zbJ e) (zC e (zf0 e zf8 zis) (zC e (zdx (R:=isv (a_x.at_)) ty3 e (List.Mem.head _) hI) (zb h fun y7 hy7 h=>?_))))))))
 refine zC e (zaz (l:=a_x.l) e hI e sl124 hy7) (zC e (zd ty133 e) (zaK e e (zag _ ze133 fun b8=>zaK e e (zo (y':=(y7:GTok)) ty133 e e hI .here e (zfi (zaQ 3 .here e) (zaA (za7 0 hn6 e (zE (zp ?_)))))))))
 refine zp (zdh 0 .here e (fun o9 hn10=>zae (.v 0 (.v 1 (.v 2 (.v 3 (.v 4 (.v 5 (.v 6 (.v 7 (.v 8 (.v 9 (.v 10 .nil))))))))))) moOrd (by kernel_rfl) ?_))
 refine rvm e e (zC e (zbJ e) (zC e (zf0 e zf8 zis) (zC e (zdx (R:=isv (a_x.at_)) ty3 e (List.Mem.head _) hI) (zO h fun q11 h=>zC e (zan e e q11) (rvm e e (zC e (zbJ e) (zC e (zf0 e zhw zjq) ?_)))))))
 refine zC e (zdx (R:=isv (a_x.l)) ty124 e (List.Mem.head _) hI) (zC e (zaH (l:=a_x.l) e hI sl124) (zC e (zay e e) (zaA (za7 0 hn10 e (zE (zdF (ι:=GPar) (γ:=Tok × Tok) (fun q12 g12=>[]) (fun q12 g12=>[boxE zJ ((q12.l,q12.at_,(q12.m.name,q12.m.tagging,(TList.mk g12.1 q12.m.names),(TList.mk g12.2 q12.m.types),(Vh.mk zM q12.m.nodes.length)),q12.e,q12.p):((List GTok) × Int × (Str × Int × (TList Str) × (TList Int) × Vh) × Int × Int)),tokE g12.1,tokE g12.2,vecE zM (q12.m.nodes:List GNode)]) (.cons .here (.cons tH (.cons tH (.cons tH .nil)))) h (fun q12 g12 h=>?_) (fun J13 h hJ13=>?_)))))))
 ·refine wsr (oV (zd ty133 e) (oT (zo (y':=(y7:GTok)) ty133 e e hI (.there (.there tI)) e (rnf (zD (zh (.cell e .here ty133 .nil) (.cons tH (.cons tH (.cons tH (.cons tH .nil)))) ?_))))))
  cases h
  exact ⟨g12.1,g12.2,e,e⟩
 refine zg h e (fun _ h=>?_) (fun _ h=>?_)
 ·refine zt (oM e (oV (zw e) (oV (zY e zf8 zis) (oT (zH (R:=isv (a_x.at_)) ty3 e .here hI (zO h fun q14 h=>oV (zan e e q14) (oV (zw e) (oV (zY e zf8 zis) ?_))))))))
  exact oT (zo (y':=((a_x.l,(a_x.at_ + (1:Int)),(a_x.m.name,a_x.m.tagging,(TList.mk t_a_x1 a_x.m.names),(TList.mk t_a_x2 a_x.m.types),(Vh.mk zM a_x.m.nodes.length)),a_x.e,a_x.p):((List GTok) × Int × (Str × Int × (TList Str) × (TList Int) × Vh) × Int × Int))) ty3 e e hI .here e (zF (hJ13 _ (t_a_x1,t_a_x2) h _ (zf 7 e e ze (.cons .here (.cons tH (.cons tH (.cons tH k1))))))))
 exact z6 (hJ13 _ (t_a_x1,t_a_x2) h _ (zf 0 e e ze (.cons .here (.cons tH (.cons tH (.cons tH k1))))))


theorem zcE:∀ {a_x:GPar} {a_k:Int} {zJ:Nat} {t_a_x1:Tok} {t_a_x2:Tok} {zM:Vt} {r:Str × GPar},zaY a_x a_k=some r→Ctr Tryz.prog 70 [ptrv zJ (Fld.id ((List GTok) × Int × (Str × Int × (TList Str) × (TList Int) × Vh) × Int × Int)),isv (a_k)] [boxE zJ ((a_x.l,a_x.at_,(a_x.m.name,a_x.m.tagging,(TList.mk t_a_x1 a_x.m.names),(TList.mk t_a_x2 a_x.m.types),(Vh.mk zM a_x.m.nodes.length)),a_x.e,a_x.p):((List GTok) × Int × (Str × Int × (TList Str) × (TList Int) × Vh) × Int × Int)),tokE t_a_x1,tokE t_a_x2,vecE zM (a_x.m.nodes:List GNode)] (fun R H=>∃ u1:Tok,∃ u2:Tok,R=oneOf [isv (r.1)]∧H=[boxE zJ ((r.2.l,r.2.at_,(r.2.m.name,r.2.m.tagging,(TList.mk u1 r.2.m.names),(TList.mk u2 r.2.m.types),(Vh.mk zM r.2.m.nodes.length)),r.2.e,r.2.p)),tokE u1,tokE u2,vecE zM (r.2.m.nodes)]):=by
 intro a_x a_k zJ t_a_x1 t_a_x2 zM r h
 unfold zaY at h
 refine zr Tryz.func70 e fun w0 S0 hT=>wsr (oA e (rnf (wsr (oM e (zb h fun y4 hy4 h=>oT (zN (zaZ hy4) hT (s1 e) k4 (fun R H' hR=>?_)))))))
 obtain ⟨t5,t6,rfl,rfl⟩:=hR
 refine oT (zag _ ze133 fun b7=>oT (zo (y':=(y4.1:GTok)) ty133 e e hI .here e (zaj (zaQ 5 .here e) (rnf (zp (wsr (oM e (oV (zw e) (oV (zY e zbD zcv) ?_)))))))))
 refine oT (zH (R:=isv (y4.2.e)) ty65 e .here hI (oV (zbo e e) (oM e (zab (jb 18) je .nil h 5 e (fun q8 g8 h=>?_) (fun J9 h hJ9=>?_)))))
 ·refine rnf (zg h e (fun _ h=>?_) (fun _ h=>?_))
  ·refine wsr (oM e (oV (zd ty133 e) (zb h fun y11 hy11 h=>oT (zN (zbk hy11) hT (s3 e e e) k4 (fun R H' hR=>?_)))))
   obtain ⟨t12,t13,rfl,rfl⟩:=hR
   refine rnf (wsr (oA e (rnf (zD (zx (zh (.tmp e .nil) k4 ?_))))))
   cases h
   exact ⟨t12,t13,e,e⟩
  refine wkf (wsr (oM e (zb h fun y14 hy14 h=>oT (zN (zbT hy14) hT (s1 e) k4 (fun R H' hR=>?_)))))
  obtain ⟨t15,t16,rfl,rfl⟩:=hR
  refine oV (zhh GTok.f1 e zc8 e) (oA e (rnf (zD (zh (.tmp e .nil) k4 ?_))))
  cases h
  exact ⟨t15,t16,e,e⟩
 refine zn (j:=13) h e (fun g10 h=>?_) (fun g10 h=>?_)
 ·exact oP 13 e e g10 (oP 13 e e g10 (oP 13 e e g10 (oP 13 e e g10 (oV (zi e g10 e) (hJ9 _ () h _ (zf 5 e e (za (j:=18) e hI ze) k4))))))
 exact oK 13 e e e g10 (zI e GTok.f0 zci e (z:=y4.1.kind)) (oK 13 e e e g10 (zd ty3 e) (oK 13 e e e g10 (zs e) (oK 13 e e e g10 (zbo e e) (oV (zj e g10 e) (hJ9 _ () h _ (zf 5 e e (za (j:=18) e hI ze) k4))))))


theorem zS:∀ {a_x:GPar} {a_s:Str} {zJ:Nat} {t_a_x1:Tok} {t_a_x2:Tok} {zM:Vt} {r:Bool × GPar},zK a_x a_s=some r→Ctr Tryz.prog 72 [ptrv zJ (Fld.id ((List GTok) × Int × (Str × Int × (TList Str) × (TList Int) × Vh) × Int × Int)),isv (a_s)] [boxE zJ ((a_x.l,a_x.at_,(a_x.m.name,a_x.m.tagging,(TList.mk t_a_x1 a_x.m.names),(TList.mk t_a_x2 a_x.m.types),(Vh.mk zM a_x.m.nodes.length)),a_x.e,a_x.p):((List GTok) × Int × (Str × Int × (TList Str) × (TList Int) × Vh) × Int × Int)),tokE t_a_x1,tokE t_a_x2,vecE zM (a_x.m.nodes:List GNode)] (fun R H=>∃ u1:Tok,∃ u2:Tok,R=oneOf [isv (r.1)]∧H=[boxE zJ ((r.2.l,r.2.at_,(r.2.m.name,r.2.m.tagging,(TList.mk u1 r.2.m.names),(TList.mk u2 r.2.m.types),(Vh.mk zM r.2.m.nodes.length)),r.2.e,r.2.p)),tokE u1,tokE u2,vecE zM (r.2.m.nodes)]):=by
 intro a_x a_s zJ t_a_x1 t_a_x2 zM r h
 unfold zK at h
 refine zr Tryz.func72 e fun w0 S0 hT=>wsr (oA e (rnf (wsr (oM e (zb h fun y4 hy4 h=>oT (zN (zaZ hy4) hT (s1 e) k4 (fun R H' hR=>?_)))))))
 obtain ⟨t5,t6,rfl,rfl⟩:=hR
 refine oT (zag _ ze133 fun b7=>oT (zo (y':=(y4.1:GTok)) ty133 e e hI .here e (zaj (zaQ 5 .here e) (rnf (zp (wsr (oM e (oV (zw e) (oV (zY e zbD zcv) ?_)))))))))
 refine oT (zH (R:=isv (y4.2.e)) ty65 e .here hI (oV (zaa e e) (oM e (zab (jb 22) je .nil h 9 e (fun q8 g8 h=>?_) (fun J9 h hJ9=>?_)))))
 ·refine oM e (zab (jb 28) je .nil h 5 e (fun q14 g14 h=>?_) (fun J15 h hJ15=>?_))
  ·refine rnf (zg h e (fun _ h=>?_) (fun _ h=>?_))
   ·refine wsr (oM e (zb h fun y17 hy17 h=>oT (zN (zbT hy17) hT (s1 e) k4 (fun R H' hR=>?_))))
    obtain ⟨t18,t19,rfl,rfl⟩:=hR
    refine rnf (wsr (oA e (rnf (zD (zx (zh (.tmp e .nil) k4 ?_))))))
    cases h
    exact ⟨t18,t19,e,e⟩
   refine wkf (wsr (oA e (rnf (zD (zh (.tmp e .nil) k4 ?_)))))
   cases h
   exact ⟨t5,t6,e,e⟩
  refine zn (j:=23) h e (fun g16 h=>?_) (fun g16 h=>?_)
  ·exact oK 23 e e e g16 (zI e GTok.f1 zc8 e (z:=y4.1.text)) (oK 23 e e e g16 (zd ty9 e) (oK 23 e e e g16 (zs e) (oK 23 e e e g16 (zce eq9 e e) (oV (zi e g16 e) (hJ15 _ () h _ (zf 5 e e (za (j:=28) e hI ze) k4))))))
  exact oP 23 e e g16 (oP 23 e e g16 (oP 23 e e g16 (oP 23 e e g16 (oV (zj e g16 e) (hJ15 _ () h _ (zf 5 e e (za (j:=28) e hI ze) k4))))))
 refine zn (j:=13) h e (fun g10 h=>?_) (fun g10 h=>?_)
 ·refine oK 13 e e e g10 (zI e GTok.f0 zci e (z:=y4.1.kind)) (oK 13 e e e g10 (zd ty3 e) (oK 13 e e e g10 (zaa e e) (oK 13 e e e g10 (zs e) (zab (jb 21) je .nil h 4 e (fun q11 g11 h=>?_) (fun J12 h hJ12=>?_)))))
  ·exact oV (zi e g10 e) (hJ9 _ () h _ (zf 6 e e (za (j:=22) e hI ze) k4))
  refine zn (j:=17) h e (fun g13 h=>?_) (fun g13 h=>?_)
  ·exact oP 17 e e g13 (oP 17 e e g13 (oP 17 e e g13 (oK 13 e e e g10 (zi e g13 e) (hJ12 _ () h _ (zf 4 e e (za (j:=21) e hI ze) k4)))))
  exact oK 17 e e e g13 (zI e GTok.f0 zci e (z:=y4.1.kind)) (oK 17 e e e g13 (zd ty3 e) (oK 17 e e e g13 (zaa e e) (oK 13 e e e g10 (zj e g13 e) (hJ12 _ () h _ (zf 4 e e (za (j:=21) e hI ze) k4)))))
 refine oP 13 e e g10 (oP 13 e e g10 (oP 13 e e g10 (oP 13 e e g10 (zk e (dj:=17) e (zk e (dj:=17) e (zk e (dj:=17) e (oP 13 e e g10 (oV (zj e g10 e) ?_))))))))
 exact hJ9 _ () h _ (zf 9 e e (za (j:=22) e hI ze) k4)


theorem zac:∀ {a_x:GPar} {a_s:Str} {zJ:Nat} {t_a_x1:Tok} {t_a_x2:Tok} {zM:Vt} {r:GPar},zU a_x a_s=some r→Ctr Tryz.prog 71 [ptrv zJ (Fld.id ((List GTok) × Int × (Str × Int × (TList Str) × (TList Int) × Vh) × Int × Int)),isv (a_s)] [boxE zJ ((a_x.l,a_x.at_,(a_x.m.name,a_x.m.tagging,(TList.mk t_a_x1 a_x.m.names),(TList.mk t_a_x2 a_x.m.types),(Vh.mk zM a_x.m.nodes.length)),a_x.e,a_x.p):((List GTok) × Int × (Str × Int × (TList Str) × (TList Int) × Vh) × Int × Int)),tokE t_a_x1,tokE t_a_x2,vecE zM (a_x.m.nodes:List GNode)] (fun R H=>∃ u1:Tok,∃ u2:Tok,R=oneOf []∧H=[boxE zJ ((r.l,r.at_,(r.m.name,r.m.tagging,(TList.mk u1 r.m.names),(TList.mk u2 r.m.types),(Vh.mk zM r.m.nodes.length)),r.e,r.p)),tokE u1,tokE u2,vecE zM (r.m.nodes)]):=by
 intro a_x a_s zJ t_a_x1 t_a_x2 zM r h
 unfold zU at h
 refine zr Tryz.func71 e fun w0 S0 hT=>wsr (oM e (oV (zw e) (oV (zY e zbD zcv) (oT (zH (R:=isv (a_x.e)) ty65 e .here hI (oV (zaa e e) (oM e (zab (ι:=Bool × GPar) (γ:=Tok × Tok) (fun q4 g4=>[(14,isv (q4.1))]) (fun q4 g4=>[boxE zJ ((q4.2.l,q4.2.at_,(q4.2.m.name,q4.2.m.tagging,(TList.mk g4.1 q4.2.m.names),(TList.mk g4.2 q4.2.m.types),(Vh.mk zM q4.2.m.nodes.length)),q4.2.e,q4.2.p):((List GTok) × Int × (Str × Int × (TList Str) × (TList Int) × Vh) × Int × Int)),tokE g4.1,tokE g4.2,vecE zM (q4.2.m.nodes:List GNode)]) k4 h 5 e (fun q4 g4 h=>?_) (fun J5 h hJ5=>?_)))))))))
 ·refine rnf (zg h e (fun _ h=>?_) (fun _ h=>?_))
  ·refine zt (oM e (oM e (zb h fun y10 hy10 h=>oT (zN (zaZ hy10) hT (s1 e) k4 (fun R H' hR=>?_)))))
   obtain ⟨t11,t12,rfl,rfl⟩:=hR
   refine zb h fun y13 hy13 h=>oT (zN (zbk hy13) hT (s3 e e e) k4 (fun R H' hR=>?_))
   obtain ⟨t14,t15,rfl,rfl⟩:=hR
   refine zF (zaP .nil k4 ?_)
   cases h
   exact ⟨t14,t15,e,e⟩
  refine z6 (zaP .nil k4 ?_)
  cases h
  exact ⟨g4.1,g4.2,e,e⟩
 refine zn (j:=9) h e (fun g6 h=>?_) (fun g6 h=>?_)
 ·refine oK 9 e e e g6 (zs e) (oK 9 e e e g6 (zs e) (zb h fun y7 hy7 h=>zai e e (dj:=9) e g6 (zN (zS hy7) hT (s2 e e) k4 (fun R H' hR=>?_))))
  obtain ⟨t8,t9,rfl,rfl⟩:=hR
  exact oK 9 e e e g6 (za2 e) (oV (zi e g6 e) (hJ5 _ (t8,t9) h _ (zf 5 e e (za (j:=14) e hI ze) k4)))
 exact oP 9 e e g6 (oP 9 e e g6 (oP 9 e e g6 (oP 9 e e g6 (oV (zj e g6 e) (hJ5 _ (t_a_x1,t_a_x2) h _ (zf 5 e e (za (j:=14) e hI ze) k4))))))


theorem zkI:∀ {a_t:GTok} {r:Bool},zeE a_t=some r→Ctr Tryz.prog 105 [isv (a_t)] [] (fun R H=>R=oneOf [isv (r)]∧H=[]):=by
 intro a_t r h
 unfold zeE at h
 refine zr Tryz.func105 e fun w0 S0 hT=>wsr (oT (zaw (y:=a_t) e hI (oA e (rnf (wsr (oT (zZ (l:=([(Str.mk [91]),(Str.mk [66,79,79,76,69,65,78]),(Str.mk [78,85,76,76]),(Str.mk [85,84,70,56,83,116,114,105,110,103]),(Str.mk [73,78,84,69,71,69,82]),(Str.mk [79,67,84,69,84]),(Str.mk [69,78,85,77,69,82,65,84,69,68]),(Str.mk [83,69,84]),(Str.mk [67,72,79,73,67,69]),(Str.mk [83,69,81,85,69,78,67,69])]:(List Str))) el22 (.cons e hI (.cons e hI (.cons e hI (.cons e hI (.cons e hI (.cons e hI (.cons e hI (.cons e hI (.cons e hI (.cons e hI .nil)))))))))) e e (oA e (rnf ?_)))))))))
 refine zp (wsr (oA e (rnf (zB (zbx (ι:=Int) (γ:=Unit) (fun q2 g2=>[(4,isv (q2))]) (fun q2 g2=>[]) h () (za (j:=4) e hI ze) .nil (fun L3 q2 g2 Q20 h hL3 eL3 rL3=>zp (wsr (oM e ?_))))))))
 refine oM e (oV (zaH (l:=([(Str.mk [91]),(Str.mk [66,79,79,76,69,65,78]),(Str.mk [78,85,76,76]),(Str.mk [85,84,70,56,83,116,114,105,110,103]),(Str.mk [73,78,84,69,71,69,82]),(Str.mk [79,67,84,69,84]),(Str.mk [69,78,85,77,69,82,65,84,69,68]),(Str.mk [83,69,84]),(Str.mk [67,72,79,73,67,69]),(Str.mk [83,69,81,85,69,78,67,69])]:(List Str))) e zQ sl22) (oV (zay e e) (rnf (zg h e (fun _ h=>?_) (fun _ h=>?_)))))
 ·refine wkf (zp (zB (zp (zae (.v 0 (.v 1 (.v 2 (.v 3 (.v 4 (.v 5 (.v 6 (.v 7 (.v 8 (.v 9 (.v 10 (.v 11 (.v 12 (.v 13 (.v 14 (.v 15 (.v 16 .nil))))))))))))))))) moOrd (by kernel_rfl) ?_))))
  refine rvm e e (rvm e e (zb h fun y12 hy12 h=>zC e (zaz (l:=([(Str.mk [91]),(Str.mk [66,79,79,76,69,65,78]),(Str.mk [78,85,76,76]),(Str.mk [85,84,70,56,83,116,114,105,110,103]),(Str.mk [73,78,84,69,71,69,82]),(Str.mk [79,67,84,69,84]),(Str.mk [69,78,85,77,69,82,65,84,69,68]),(Str.mk [83,69,84]),(Str.mk [67,72,79,73,67,69]),(Str.mk [83,69,81,85,69,78,67,69])]:(List Str))) e zQ e sl22 hy12) (zC e (zd ty9 e) (zC e (zI e GTok.f1 zc8 e (z:=a_t.text)) (zC e (zd ty9 e) (zC e (zce eq9 e e) (rvm e e ?_)))))))
  refine zdk (jb 28) je .nil h 9 e (fun q13 g13 h=>?_) (fun J14 h hJ14=>?_)
  ·refine zaA (zE (zg h e (fun _ h=>?_) (fun _ h=>?_)))
   ·refine wsr (oA e (rnf (zD (zz (zx (rL3 _ (zz (zx ?_))))))))
    cases h
    exact zh (.tmp e .nil) .nil ⟨e,e⟩
   refine z6 (zq (zE (zt (oM e (zO h fun q19 h=>oV (zan e e q19) (oA e (zF ?_)))))))
   exact hL3 _ () h _ (ji 17 4 e e e)
  refine zaJ (j:=19) h e (fun g15 h=>?_) (fun g15 h=>?_)
  ·refine rvt 19 e e e g15 (zI e GTok.f0 zci e (z:=a_t.kind)) (rvt 19 e e e g15 (zd ty3 e) (rvt 19 e e e g15 (zaa e e) (rvt 19 e e e g15 (zs e) (zdk (jb 27) je .nil h 4 e (fun q16 g16 h=>?_) (fun J17 h hJ17=>?_)))))
   ·exact zC e (zi e g15 e) (hJ14 _ () h _ (ji 6 28 e e e))
   refine zaJ (j:=23) h e (fun g18 h=>?_) (fun g18 h=>?_)
   ·exact rpv 23 e e e g18 (rpv 23 e e e g18 (rpv 23 e e e g18 (rvt 19 e e e g15 (zi e g18 e) (hJ17 _ () h _ (ji 4 27 e e e)))))
   exact rvt 23 e e e g18 (zI e GTok.f0 zci e (z:=a_t.kind)) (rvt 23 e e e g18 (zd ty3 e) (rvt 23 e e e g18 (zaa e e) (rvt 19 e e e g15 (zj e g18 e) (hJ17 _ () h _ (ji 4 27 e e e)))))
  refine rpv 19 e e e g15 (rpv 19 e e e g15 (rpv 19 e e e g15 (rpv 19 e e e g15 (zbL e e (dj:=23) e (zbL e e (dj:=23) e (zbL e e (dj:=23) e (rpv 19 e e e g15 (zC e (zj e g15 e) ?_))))))))
  exact hJ14 _ () h _ (ji 9 28 e e e)
 refine zam (z8 (eL3 _ _ (zL (zE (wsr (oV (zI e GTok.f0 zci e (z:=a_t.kind)) (oV (zd ty3 e) (oV (zaa e e) ?_))))))))
 refine oA e (rnf (zD ?_))
 cases h
 exact zh (.tmp e .nil) .nil ⟨e,e⟩


theorem zjf:∀ {a_s:Str} {r:Int},zdw a_s=some r→Ctr Tryz.prog 145 [isv (a_s)] [] (fun R H=>R=oneOf [isv (r)]∧H=[]):=by
 intro a_s r h
 unfold zdw at h
 refine zr Tryz.func145 e fun w0 S0 hT=>wsr (oA e (rnf (wsr (oM e (zb h fun y1 hy1 h=>oV (zb5 y1 st9 e e hy1) (oV (zce eq5 e e) ?_))))))
 refine oA e (rnf (zp (wsr (oM e (rnf (zdF (ι:=Str) (γ:=Unit) (fun q2 g2=>[(0,isv (q2))]) (fun q2 g2=>[]) .nil h (fun q2 g2 h=>?_) (fun J3 h hJ3=>?_)))))))
 ·refine wsr (oA e (rnf (zp (wsr (oA e (rnf (zB (zbx (ι:=UInt64 × Int) (γ:=Unit) (fun q5 g5=>[(4,isv (q5.1)),(5,isv (q5.2))]) (fun q5 g5=>[]) h () (za (j:=4) e hI (za (j:=5) e hI ze)) .nil (fun L6 q5 g5 Q19 h hL6 eL6 rL6=>?_)))))))))
  refine zp (wsr (oM e (oM e (oV (zdX st9 e) (oV (zay e e) (rnf (zg h e (fun _ h=>?_) (fun _ h=>?_))))))))
  ·refine wkf (zp (zB (zt (oM e (oV (zm3 e e) (oM e (oM e (zb h fun y13 hy13 h=>?_))))))))
   refine oV (zb5 y13 st9 e e hy13) (oV (zkY e e) (oV (zdI Tryz.underlying5 Tryz.underlying41 e) (oV (zjp e e) (oA e (zF (zq (zE (zt ?_))))))))
   exact oM e (zO h fun q14 h=>oV (zan e e q14) (oA e (zF (hL6 _ () h _ (zf 18 e e (za (j:=4) e hI (za (j:=5) e hI ze)) .nil)))))
  refine zam (z8 (eL6 _ _ (zL (zE (zp (wsr (oM e (rnf ?_))))))))
  refine zg h e (fun _ h=>?_) (fun _ h=>?_)
  ·refine wsr (oM e (oV (zps e e) (zO h fun q15 h=>oV (zh8 Tryz.underlying41 Tryz.underlying2 e q15) (zO h fun q16 h=>oV (zp5 e q16) (zO h fun q17 h=>oV (zfo e e q17) ?_)))))
   refine oA e (rnf (zD (zx ?_)))
   cases h
   exact zh (.tmp e .nil) .nil ⟨e,e⟩
  refine wkf (wsr (oM e (zO h fun q18 h=>oV (zh8 Tryz.underlying41 Tryz.underlying2 e q18) (oA e (rnf (zD ?_))))))
  cases h
  exact zh (.tmp e .nil) .nil ⟨e,e⟩
 refine zg h e (fun _ h=>?_) (fun _ h=>?_)
 ·exact zt (oM e (zak h fun q4 h=>oV (zja st9 e (.inr ⟨_,e,e⟩) (.inl ⟨e,e⟩) q4.1 q4.2.1 q4.2.2) (oA e (zF (hJ3 _ () h _ (ji 3 0 e e e))))))
 exact z6 (hJ3 _ () h _ (ji 0 0 e e e))


theorem zcH:∀ {a_x:GPar} {zJ:Nat} {t_a_x1:Tok} {t_a_x2:Tok} {zM:Vt} {r:Int × GPar},za8 a_x=some r→Ctr Tryz.prog 106 [ptrv zJ (Fld.id ((List GTok) × Int × (Str × Int × (TList Str) × (TList Int) × Vh) × Int × Int))] [boxE zJ ((a_x.l,a_x.at_,(a_x.m.name,a_x.m.tagging,(TList.mk t_a_x1 a_x.m.names),(TList.mk t_a_x2 a_x.m.types),(Vh.mk zM a_x.m.nodes.length)),a_x.e,a_x.p):((List GTok) × Int × (Str × Int × (TList Str) × (TList Int) × Vh) × Int × Int)),tokE t_a_x1,tokE t_a_x2,vecE zM (a_x.m.nodes:List GNode)] (fun R H=>∃ u1:Tok,∃ u2:Tok,R=oneOf [isv (r.1)]∧H=[boxE zJ ((r.2.l,r.2.at_,(r.2.m.name,r.2.m.tagging,(TList.mk u1 r.2.m.names),(TList.mk u2 r.2.m.types),(Vh.mk zM r.2.m.nodes.length)),r.2.e,r.2.p)),tokE u1,tokE u2,vecE zM (r.2.m.nodes)]):=by
 intro a_x zJ t_a_x1 t_a_x2 zM r h
 unfold za8 at h
 refine zr Tryz.func106 e fun w0 S0 hT=>wsr (oA e (rnf (wsr (oM e (zb h fun y4 hy4 h=>oT (zN (zcE hy4) hT (s2 e e) k4 (fun R H' hR=>?_)))))))
 obtain ⟨t5,t6,rfl,rfl⟩:=hR
 refine oA e (rnf (zp (wsr (oM e (oV (zce eq9 e e) (rnf (zg h e (fun _ h=>?_) (fun _ h=>?_))))))))
 ·refine wsr (oA e (rnf (zD (zx (zh (.tmp e .nil) k4 ?_)))))
  cases h
  exact ⟨t5,t6,e,e⟩
 refine wkf (wsr (oM e (zb h fun y7 hy7 h=>oT (zA (zjf hy7) hT (s1 e) .nil (oA e (rnf (zD (zh (.tmp e .nil) k4 ?_))))))))
 cases h
 exact ⟨t5,t6,e,e⟩


theorem ze1:∀ {a_x:GPar} {zJ:Nat} {t_a_x1:Tok} {t_a_x2:Tok} {zM:Vt} {r:GCon × GPar},zbA a_x=some r→Ctr Tryz.prog 147 [ptrv zJ (Fld.id ((List GTok) × Int × (Str × Int × (TList Str) × (TList Int) × Vh) × Int × Int))] [boxE zJ ((a_x.l,a_x.at_,(a_x.m.name,a_x.m.tagging,(TList.mk t_a_x1 a_x.m.names),(TList.mk t_a_x2 a_x.m.types),(Vh.mk zM a_x.m.nodes.length)),a_x.e,a_x.p):((List GTok) × Int × (Str × Int × (TList Str) × (TList Int) × Vh) × Int × Int)),tokE t_a_x1,tokE t_a_x2,vecE zM (a_x.m.nodes:List GNode)] (fun R H=>∃ u1:Tok,∃ u2:Tok,R=oneOf [isv (r.1)]∧H=[boxE zJ ((r.2.l,r.2.at_,(r.2.m.name,r.2.m.tagging,(TList.mk u1 r.2.m.names),(TList.mk u2 r.2.m.types),(Vh.mk zM r.2.m.nodes.length)),r.2.e,r.2.p)),tokE u1,tokE u2,vecE zM (r.2.m.nodes)]):=by
 intro a_x zJ t_a_x1 t_a_x2 zM r h
 unfold zbA at h
 refine zr Tryz.func147 e fun w0 S0 hT=>wsr (oT (zag _ ze83 fun b4=>rnf (wsr (oV (zar (z:=(GCon.mk true false false false (0:Int) (0:Int))) e bu83 ze83 (.cons GCon.f0 zkN e hI .nil)) (oT (zag _ ze83 fun b5=>oT (zo (y':=((GCon.mk true false false false (0:Int) (0:Int)):GCon)) ty83 e e hI .here e (rnf ?_))))))))
 refine zp (wsr (oM e (zb h fun y6 hy6 h=>oT (zN (zS hy6) hT (s2 e e) (.cons tI (.cons tI (.cons tI (.cons tI .nil)))) (fun R H' hR=>?_)))))
 obtain ⟨t7,t8,rfl,rfl⟩:=hR
 refine oV (za2 e) (rnf (zdF (ι:=GPar × GCon) (γ:=Tok × Tok) (fun q9 g9=>[]) (fun q9 g9=>[boxE zJ ((q9.1.l,q9.1.at_,(q9.1.m.name,q9.1.m.tagging,(TList.mk g9.1 q9.1.m.names),(TList.mk g9.2 q9.1.m.types),(Vh.mk zM q9.1.m.nodes.length)),q9.1.e,q9.1.p):((List GTok) × Int × (Str × Int × (TList Str) × (TList Int) × Vh) × Int × Int)),tokE g9.1,tokE g9.2,vecE zM (q9.1.m.nodes:List GNode),boxE b5 (q9.2:GCon)]) (.cons .here (.cons (.there tI) k3)) h (fun q9 g9 h=>?_) (fun J10 h hJ10=>?_)))
 ·refine zp (zdF (ι:=GPar × GCon) (γ:=Tok × Tok) (fun q14 g14=>[]) (fun q14 g14=>[boxE zJ ((q14.1.l,q14.1.at_,(q14.1.m.name,q14.1.m.tagging,(TList.mk g14.1 q14.1.m.names),(TList.mk g14.2 q14.1.m.types),(Vh.mk zM q14.1.m.nodes.length)),q14.1.e,q14.1.p):((List GTok) × Int × (Str × Int × (TList Str) × (TList Int) × Vh) × Int × Int)),tokE g14.1,tokE g14.2,vecE zM (q14.1.m.nodes:List GNode),boxE b5 (q14.2:GCon)]) (.cons .here (.cons (.there tI) k3)) h (fun q14 g14 h=>?_) (fun J15 h hJ15=>?_))
  ·refine zp (wsr (oM e (zb h fun y25 hy25 h=>oT (zN (zS hy25) hT (s2 e e) k4 (fun R H' hR=>?_)))))
   obtain ⟨t26,t27,rfl,rfl⟩:=hR
   refine rnf (zdF (ι:=GPar × GCon) (γ:=Tok × Tok) (fun q28 g28=>[]) (fun q28 g28=>[boxE zJ ((q28.1.l,q28.1.at_,(q28.1.m.name,q28.1.m.tagging,(TList.mk g28.1 q28.1.m.names),(TList.mk g28.2 q28.1.m.types),(Vh.mk zM q28.1.m.nodes.length)),q28.1.e,q28.1.p):((List GTok) × Int × (Str × Int × (TList Str) × (TList Int) × Vh) × Int × Int)),tokE g28.1,tokE g28.2,vecE zM (q28.1.m.nodes:List GNode),boxE b5 (q28.2:GCon)]) (.cons .here (.cons (.there tI) k3)) h (fun q28 g28 h=>?_) (fun J29 h hJ29=>?_))
   ·refine wsr (oT (zH (R:=isv (q28.2)) ty83 e (.there (.there tI)) hI (oT (zo (y':=(q28.2:GCon)) ty83 e e hI (.there (.there (.there tI))) e (rnf (zD (zh (.cell e .here ty83 .nil) (.cons tH (.cons tH (.cons tH (.cons tH .nil)))) ?_)))))))
    cases h
    exact ⟨g28.1,g28.2,e,e⟩
   refine zg h e (fun _ h=>?_) (fun _ h=>?_)
   ·refine wsr (oM e (zb h fun y30 hy30 h=>oT (zN (zac hy30) hT (s2 e e) k4 (fun R H' hR=>?_))))
    obtain ⟨t31,t32,rfl,rfl⟩:=hR
    exact rnf (zt (oV (zY e GCon.f3 zk1) (oT (zo (y':=({ q14.2 with more:=true }:GCon)) ty4 e e hI (.there (.there tI)) e (zF (hJ29 _ (t31,t32) h _ (zf 3 e e ze (.cons tH (.cons tH (.cons tH (.cons tH k2)))))))))))
   exact z6 (hJ29 _ (t26,t27) h _ (zf 0 e e ze (.cons .here (.cons .here k4))))
  refine zB (wsr (oM e (zb h fun y16 hy16 h=>oT (zN (zS hy16) hT (s2 e e) k4 (fun R H' hR=>?_)))))
  obtain ⟨t17,t18,rfl,rfl⟩:=hR
  refine oA e (rnf (zg h e (fun _ h=>?_) (fun _ h=>?_)))
  ·refine wsr (oM e (zb h fun y19 hy19 h=>oT (zN (zS hy19) hT (s2 e e) k4 (fun R H' hR=>?_))))
   obtain ⟨t20,t21,rfl,rfl⟩:=hR
   refine oV (za2 e) (rnf (zg h e (fun _ h=>?_) (fun _ h=>?_)))
   ·refine zt (oM e (zb h fun y22 hy22 h=>oT (zN (zcH hy22) hT (s1 e) k4 (fun R H' hR=>?_))))
    obtain ⟨t23,t24,rfl,rfl⟩:=hR
    exact oV (zY e GCon.f2 ziZ) (oT (zo (y':=({ q9.2 with hasHigh:=true }:GCon)) ty4 e e hI (.there (.there tI)) e (oV (zY e GCon.f5 zig) (oT (zo (y':=({ { q9.2 with hasHigh:=true } with high:=y22.1 }:GCon)) ty2 e e hI .here e (zF (zq (hJ15 _ (t23,t24) h _ (zf 10 e e ze (.cons tH (.cons tH (.cons tH (.cons tH k2)))))))))))))
   exact z6 (zq (hJ15 _ (t20,t21) h _ (zf 6 e e ze (.cons .here (.cons .here k4)))))
  refine wsr (oV (zY e GCon.f1 ziO) (oT (zH (R:=isv (q9.2.hasLow)) ty4 e (.there (.there tI)) hI (oA e (rnf (zg h e (fun _ h=>?_) (fun _ h=>?_)))))))
  ·refine zt (oV (zY e GCon.f4 zh0) (oT (zH (R:=isv (q9.2.low)) ty2 e (.there (.there tI)) hI (oV (zY e GCon.f2 ziZ) (oT (zo (y':=({ q9.2 with hasHigh:=true }:GCon)) ty4 e e hI (.there (.there tI)) e (oV (zY e GCon.f5 zig) (oT (zo (y':=({ { q9.2 with hasHigh:=true } with high:=q9.2.low }:GCon)) ty2 e e hI .here e (zF (zq ?_)))))))))))
   exact hJ15 _ (t17,t18) h _ (zf 10 e e ze (.cons tH (.cons tH (.cons tH (.cons tH k2)))))
  exact z6 (zq (hJ15 _ (t17,t18) h _ (zf 6 e e ze (.cons .here (.cons .here k4)))))
 refine zg h e (fun _ h=>?_) (fun _ h=>?_)
 ·refine zt (oM e (zb h fun y11 hy11 h=>oT (zN (zcH hy11) hT (s1 e) k4 (fun R H' hR=>?_))))
  obtain ⟨t12,t13,rfl,rfl⟩:=hR
  exact oV (zY e GCon.f1 ziO) (oT (zo (y':=((GCon.mk true true false false (0:Int) (0:Int)):GCon)) ty4 e e hI (.there (.there tI)) e (oV (zY e GCon.f4 zh0) (oT (zo (y':=((GCon.mk true true false false y11.1 (0:Int)):GCon)) ty2 e e hI .here e (zF (hJ10 _ (t12,t13) h _ (zf 4 e e ze (.cons tH (.cons tH (.cons tH (.cons tH k2))))))))))))
 exact z6 (hJ10 _ (t7,t8) h _ (zf 0 e e ze (.cons .here (.cons .here k4))))

end Go.Proofs.Q


namespace Go.Proofs.Q
open Go.Sy
set_option maxRecDepth 4000
theorem zep:∀ {a_x:GPar} {zJ:Nat} {t_a_x1:Tok} {t_a_x2:Tok} {zM:Vt} {r:GCon × GPar},zbH a_x=some r→Ctr Tryz.prog 146 [ptrv zJ (Fld.id ((List GTok) × Int × (Str × Int × (TList Str) × (TList Int) × Vh) × Int × Int))] [boxE zJ ((a_x.l,a_x.at_,(a_x.m.name,a_x.m.tagging,(TList.mk t_a_x1 a_x.m.names),(TList.mk t_a_x2 a_x.m.types),(Vh.mk zM a_x.m.nodes.length)),a_x.e,a_x.p):((List GTok) × Int × (Str × Int × (TList Str) × (TList Int) × Vh) × Int × Int)),tokE t_a_x1,tokE t_a_x2,vecE zM (a_x.m.nodes:List GNode)] (fun R H=>∃ u1:Tok,∃ u2:Tok,R=oneOf [isv (r.1)]∧H=[boxE zJ ((r.2.l,r.2.at_,(r.2.m.name,r.2.m.tagging,(TList.mk u1 r.2.m.names),(TList.mk u2 r.2.m.types),(Vh.mk zM r.2.m.nodes.length)),r.2.e,r.2.p)),tokE u1,tokE u2,vecE zM (r.2.m.nodes)]):=by
 intro a_x zJ t_a_x1 t_a_x2 zM r h
 unfold zbH at h
 refine zr Tryz.func146 e fun w0 S0 hT=>wsr (oT (zag _ ze83 fun b4=>rnf (zp (wsr (oM e (zb h fun y5 hy5 h=>oT (zN (zS hy5) hT (s2 e e) (.cons tH (.cons tH (.cons tH (.cons tH .nil)))) (fun R H' hR=>?_))))))))
 obtain ⟨t6,t7,rfl,rfl⟩:=hR
 refine oV (za2 e) (rnf (zg h e (fun _ h=>?_) (fun _ h=>?_)))
 ·refine wsr (oV (zar (z:=(GCon.mk false false false false (0:Int) (0:Int))) e bu83 ze83 .nil) (oT (zo (y':=((GCon.mk false false false false (0:Int) (0:Int)):GCon)) ty83 e e hI (.there (.there tI)) e (rnf (zD (zx (zh (.cell e .here ty83 .nil) (.cons tH (.cons tH (.cons tH (.cons tH .nil)))) ?_)))))))
  cases h
  exact ⟨t6,t7,e,e⟩
 refine wkf (wsr (oM e (zb h fun y8 hy8 h=>oT (zN (zac hy8) hT (s2 e e) k4 (fun R H' hR=>?_)))))
 obtain ⟨t9,t10,rfl,rfl⟩:=hR
 refine rnf (wsr (oM e (zb h fun y11 hy11 h=>oT (zN (zac hy11) hT (s2 e e) k4 (fun R H' hR=>?_)))))
 obtain ⟨t12,t13,rfl,rfl⟩:=hR
 refine rnf (wsr (oM e (zb h fun y14 hy14 h=>oT (zN (ze1 hy14) hT (s1 e) k4 (fun R H' hR=>?_)))))
 obtain ⟨t15,t16,rfl,rfl⟩:=hR
 refine oT (zag _ ze83 fun b17=>oT (zo (y':=(y14.1:GCon)) ty83 e e hI .here e (zaj (zaQ 3 .here e) (rnf (wsr (oM e (zb h fun y18 hy18 h=>oT (zN (zac hy18) hT (s2 e e) k4 (fun R H' hR=>?_)))))))))
 obtain ⟨t19,t20,rfl,rfl⟩:=hR
 refine rnf (wsr (oM e (zb h fun y21 hy21 h=>oT (zN (zac hy21) hT (s2 e e) k4 (fun R H' hR=>?_)))))
 obtain ⟨t22,t23,rfl,rfl⟩:=hR
 refine rnf (wsr (oV (zd ty83 e) (oT (zo (y':=(y14.1:GCon)) ty83 e e hI (.there (.there tI)) e (rnf (zD (zh (.cell e .here ty83 .nil) (.cons tH (.cons tH (.cons tH (.cons tH .nil)))) ?_)))))))
 cases h
 exact ⟨t22,t23,e,e⟩


theorem zh6:∀ {a_x:GPar} {a_n_:GNode} {zJ:Nat} {t_a_x1:Tok} {t_a_x2:Tok} {zM:Vt} {zbc:Nat} {t_a_n_4:Tok} {t_a_n_5:Tok} {r:GPar × GNode},zcK a_x a_n_=some r→Ctr Tryz.prog 148 [ptrv zJ (Fld.id ((List GTok) × Int × (Str × Int × (TList Str) × (TList Int) × Vh) × Int × Int)),ptrv zbc (Fld.id (Int × Str × GMark × GCon × (TList GItem) × (TList GFld) × Int × Bool × Int))] [boxE zJ ((a_x.l,a_x.at_,(a_x.m.name,a_x.m.tagging,(TList.mk t_a_x1 a_x.m.names),(TList.mk t_a_x2 a_x.m.types),(Vh.mk zM a_x.m.nodes.length)),a_x.e,a_x.p):((List GTok) × Int × (Str × Int × (TList Str) × (TList Int) × Vh) × Int × Int)),tokE t_a_x1,tokE t_a_x2,vecE zM (a_x.m.nodes:List GNode),boxE zbc ((a_n_.kind,a_n_.name,a_n_.mark,a_n_.con,(TList.mk t_a_n_4 a_n_.items),(TList.mk t_a_n_5 a_n_.fields),a_n_.root,a_n_.more,a_n_.of):(Int × Str × GMark × GCon × (TList GItem) × (TList GFld) × Int × Bool × Int)),tokE t_a_n_4,tokE t_a_n_5] (fun R H=>∃ u1:Tok,∃ u2:Tok,∃ u3:Tok,∃ u4:Tok,R=oneOf []∧H=[boxE zJ ((r.1.l,r.1.at_,(r.1.m.name,r.1.m.tagging,(TList.mk u1 r.1.m.names),(TList.mk u2 r.1.m.types),(Vh.mk zM r.1.m.nodes.length)),r.1.e,r.1.p)),tokE u1,tokE u2,vecE zM (r.1.m.nodes),boxE zbc ((r.2.kind,r.2.name,r.2.mark,r.2.con,(TList.mk u3 r.2.items),(TList.mk u4 r.2.fields),r.2.root,r.2.more,r.2.of)),tokE u3,tokE u4]):=by
 intro a_x a_n_ zJ t_a_x1 t_a_x2 zM zbc t_a_n_4 t_a_n_5 r h
 unfold zcK at h
 refine zr Tryz.func148 e fun w0 S0 hT=>zp (zdF (ι:=GPar × GNode) (γ:=Tok × Tok × Tok × Tok) (fun q6 g6=>[]) (fun q6 g6=>[boxE zJ ((q6.1.l,q6.1.at_,(q6.1.m.name,q6.1.m.tagging,(TList.mk g6.1 q6.1.m.names),(TList.mk g6.2.1 q6.1.m.types),(Vh.mk zM q6.1.m.nodes.length)),q6.1.e,q6.1.p):((List GTok) × Int × (Str × Int × (TList Str) × (TList Int) × Vh) × Int × Int)),tokE g6.1,tokE g6.2.1,vecE zM (q6.1.m.nodes:List GNode),boxE zbc ((q6.2.kind,q6.2.name,q6.2.mark,q6.2.con,(TList.mk g6.2.2.1 q6.2.items),(TList.mk g6.2.2.2 q6.2.fields),q6.2.root,q6.2.more,q6.2.of):(Int × Str × GMark × GCon × (TList GItem) × (TList GFld) × Int × Bool × Int)),tokE g6.2.2.1,tokE g6.2.2.2]) (.cons .here (.cons (.there tI) (.cons .here k4))) h (fun q6 g6 h=>?_) (fun J7 h hJ7=>?_))
 ·refine wsr (oM e (oV (zw e) (oV (zY e zeD ze9) (oT (zH (R:=isv (q6.2.more)) ty4 e (.there (.there tI)) hI (oV (za2 e) (rnf (zg h e (fun _ h=>?_) (fun _ h=>?_)))))))))
  ·refine zt (oM e (oM e (oV (zw e) (oV (zY e zff zeH) (oT (zH (R:=appv g6.2.2.1 (q6.2.items)) ty84 e (.there (.there tI)) isvT1 (oV (zaH (l:=q6.2.items) e zQ sl84) (oV (zw e) (oV (zY e zhn zfD) ?_)))))))))
   refine oT (zo (y':=((q6.2.kind,q6.2.name,q6.2.mark,q6.2.con,(TList.mk g6.2.2.1 q6.2.items),(TList.mk g6.2.2.2 q6.2.fields),(q6.2.items.length:Int),q6.2.more,q6.2.of):(Int × Str × GMark × GCon × (TList GItem) × (TList GFld) × Int × Bool × Int))) ty3 e e hI (.there (.there tI)) e (zF (zaP .nil (.cons tH (.cons tH (.cons tH (.cons tH k3)))) ?_)))
   cases h
   exact ⟨g6.1,g6.2.1,g6.2.2.1,g6.2.2.2,e,e⟩
  refine z6 (zaP .nil (.cons .here (.cons .here (.cons .here k4))) ?_)
  cases h
  exact ⟨g6.1,g6.2.1,g6.2.2.1,g6.2.2.2,e,e⟩
 refine zB (zbx (ι:=GPar × GNode) (γ:=Tok × Tok × Tok × Tok) (fun q8 g8=>[]) (fun q8 g8=>[boxE zJ ((q8.1.l,q8.1.at_,(q8.1.m.name,q8.1.m.tagging,(TList.mk g8.1 q8.1.m.names),(TList.mk g8.2.1 q8.1.m.types),(Vh.mk zM q8.1.m.nodes.length)),q8.1.e,q8.1.p):((List GTok) × Int × (Str × Int × (TList Str) × (TList Int) × Vh) × Int × Int)),tokE g8.1,tokE g8.2.1,vecE zM (q8.1.m.nodes:List GNode),boxE zbc ((q8.2.kind,q8.2.name,q8.2.mark,q8.2.con,(TList.mk g8.2.2.1 q8.2.items),(TList.mk g8.2.2.2 q8.2.fields),q8.2.root,q8.2.more,q8.2.of):(Int × Str × GMark × GCon × (TList GItem) × (TList GFld) × Int × Bool × Int)),tokE g8.2.2.1,tokE g8.2.2.2]) h (t_a_x1,t_a_x2,t_a_n_4,t_a_n_5) ze (.cons .here (.cons .here (.cons .here k4))) (fun L9 q8 g8 Q82 h hL9 eL9 rL9=>zp (wsr (oM e (oV (zw e) (oV (zY e zbD zcv) (oT (zH (R:=isv (q8.1.e)) ty65 e .here hI (oV (zaa e e) ?_)))))))))
 refine rnf (zg h e (fun _ h=>?_) (fun _ h=>?_))
 ·refine wkf (zB (zp (wsr (oM e (oV (zw e) (oV (zY e zff zeH) (oT (zH (R:=appv g8.2.2.1 (q8.2.items)) ty84 e (.there (.there tI)) isvT1 (oV (zaH (l:=q8.2.items) e zQ sl84) ?_)))))))))
  refine oV (zb1 e e) (oM e (zab (jb 22) je .nil h 6 e (fun q46 g46 h=>?_) (fun J47 h hJ47=>?_)))
  ·refine oM e (zab (ι:=Bool × GPar) (γ:=Tok × Tok) (fun q49 g49=>[(26,isv (q49.1))]) (fun q49 g49=>[boxE zJ ((q49.2.l,q49.2.at_,(q49.2.m.name,q49.2.m.tagging,(TList.mk g49.1 q49.2.m.names),(TList.mk g49.2 q49.2.m.types),(Vh.mk zM q49.2.m.nodes.length)),q49.2.e,q49.2.p):((List GTok) × Int × (Str × Int × (TList Str) × (TList Int) × Vh) × Int × Int)),tokE g49.1,tokE g49.2,vecE zM (q49.2.m.nodes:List GNode)]) k4 h 3 e (fun q49 g49 h=>?_) (fun J50 h hJ50=>?_))
   ·refine rnf (zdF (ι:=GPar × GNode) (γ:=Tok × Tok × Tok × Tok) (fun q55 g55=>[]) (fun q55 g55=>[boxE zJ ((q55.1.l,q55.1.at_,(q55.1.m.name,q55.1.m.tagging,(TList.mk g55.1 q55.1.m.names),(TList.mk g55.2.1 q55.1.m.types),(Vh.mk zM q55.1.m.nodes.length)),q55.1.e,q55.1.p):((List GTok) × Int × (Str × Int × (TList Str) × (TList Int) × Vh) × Int × Int)),tokE g55.1,tokE g55.2.1,vecE zM (q55.1.m.nodes:List GNode),boxE zbc ((q55.2.kind,q55.2.name,q55.2.mark,q55.2.con,(TList.mk g55.2.2.1 q55.2.items),(TList.mk g55.2.2.2 q55.2.fields),q55.2.root,q55.2.more,q55.2.of):(Int × Str × GMark × GCon × (TList GItem) × (TList GFld) × Int × Bool × Int)),tokE g55.2.2.1,tokE g55.2.2.2]) (.cons .here (.cons (.there tI) (.cons .here k4))) h (fun q55 g55 h=>?_) (fun J56 h hJ56=>?_))
    ·refine wsr (oM e (zb h fun y79 hy79 h=>oT (zN (zS hy79) hT (s2 e e) k4 (fun R H' hR=>?_))))
     obtain ⟨t80,t81,rfl,rfl⟩:=hR
     refine oV (za2 e) (rnf (zg h e (fun _ h=>?_) (fun _ h=>?_)))
     ·exact zam (zgY e (eL9 _ _ (zL (hJ7 _ (t80,t81,g55.2.2.1,g55.2.2.2) h _ (zf 18 e e ze (.cons .here (.cons .here (.cons .here k4))))))))
     exact z6 (zq (hL9 _ (t80,t81,g55.2.2.1,g55.2.2.2) h _ (zf 18 e e ze (.cons .here (.cons .here (.cons .here k4))))))
    refine zg h e (fun _ h=>?_) (fun _ h=>?_)
    ·refine zt (oM e (oM e (oM e (oV (zw e) (oV (zY e zff zeH) (oT (zH (R:=appv g8.2.2.1 (q8.2.items)) ty84 e (.there (.there tI)) isvT1 (oV (zaH (l:=q8.2.items) e zQ sl84) (oV (zw e) ?_)))))))))
     exact oV (zY e zeD ze9) (oT (zo (y':=((q8.2.kind,q8.2.name,q8.2.mark,q8.2.con,(TList.mk g8.2.2.1 q8.2.items),(TList.mk g8.2.2.2 q8.2.fields),q8.2.root,true,q8.2.of):(Int × Str × GMark × GCon × (TList GItem) × (TList GFld) × Int × Bool × Int))) ty4 e e hI (.there (.there tI)) e (oV (zw e) (oV (zY e zhn zfD) (oT (zo (y':=((q8.2.kind,q8.2.name,q8.2.mark,q8.2.con,(TList.mk g8.2.2.1 q8.2.items),(TList.mk g8.2.2.2 q8.2.fields),(q8.2.items.length:Int),true,q8.2.of):(Int × Str × GMark × GCon × (TList GItem) × (TList GFld) × Int × Bool × Int))) ty3 e e hI .here e (zF (hJ56 _ (g49.1,g49.2,g8.2.2.1,g8.2.2.2) h _ (zf 11 e e ze (.cons tH (.cons tH (.cons tH (.cons tH k3)))))))))))))
    refine wsr (oM e (zb h fun y57 hy57 h=>oT (zN (zcE hy57) hT (s2 e e) k4 (fun R H' hR=>?_))))
    obtain ⟨t58,t59,rfl,rfl⟩:=hR
    refine oV (zar (z:=(GItem.mk y57.1 (0:Int) false)) e bu97 ze97 (.cons GItem.f0 zlm e hI .nil)) (oT (zag _ ze97 fun b60=>oT (zo (y':=((GItem.mk y57.1 (0:Int) false):GItem)) ty97 e e hI .here e (rnf (zp (wsr (oM e (zb h fun y61 hy61 h=>oT (zN (zS hy61) hT (s2 e e) (.cons tH (.cons tH (.cons tH (.cons tH .nil)))) (fun R H' hR=>?_))))))))))
    obtain ⟨t62,t63,rfl,rfl⟩:=hR
    refine rnf (zdF (ι:=GPar × GItem) (γ:=Tok × Tok) (fun q64 g64=>[]) (fun q64 g64=>[boxE zJ ((q64.1.l,q64.1.at_,(q64.1.m.name,q64.1.m.tagging,(TList.mk g64.1 q64.1.m.names),(TList.mk g64.2 q64.1.m.types),(Vh.mk zM q64.1.m.nodes.length)),q64.1.e,q64.1.p):((List GTok) × Int × (Str × Int × (TList Str) × (TList Int) × Vh) × Int × Int)),tokE g64.1,tokE g64.2,vecE zM (q64.1.m.nodes:List GNode),boxE b60 (q64.2:GItem)]) (.cons .here (.cons (.there tI) k3)) h (fun q64 g64 h=>?_) (fun J65 h hJ65=>?_))
    ·refine zdh 4 (.there (.there tI)) e (fun o72 hn73=>zae (.v 0 (.v 1 (.v 2 (.v 3 (.v 5 (.alt 4 (.t 6 (.t 7 (.v 8 (.v 9 (.t 10 .nil))))) (.t 6 (.t 4 (.t 7 (.v 8 (.v 9 (.t 10 .nil)))))))))))) moOrd (by kernel_rfl) ?_)
     refine rvm e e (rvm e e (zC e (zw e) (zC e (zY e zff zeH) (zC e (zdx (R:=isv (q64.2)) ty97 e (List.Mem.head _) hI) (zaf h fun q76 h=>zfv ?_ ?_)))))
     ·exact zaK e e (zH (R:=appv g8.2.2.1 (q8.2.items)) ty84 e (.there (.there tI)) isvT1 (zaK e e (zZ (l:=([q64.2]:(List GItem))) el84 (.cons e hI .nil) e e (zaK e e (zbU (l:=q8.2.items) (m:=([q64.2]:(List GItem))) zjn e hI e zQ (.there (.there (.there tI))) q76 fun t75=>zC e (zw e) (zC e (zY e zff zeH) (zaK e e (zo (y':=((q8.2.kind,q8.2.name,q8.2.mark,q8.2.con,(TList.mk t75 (q8.2.items ++ ([q64.2]:(List GItem)))),(TList.mk g8.2.2.2 q8.2.fields),q8.2.root,q8.2.more,q8.2.of):(Int × Str × GMark × GCon × (TList GItem) × (TList GFld) × Int × Bool × Int))) ty84 e e isvT2 (.there (.there (.there tI))) e (zaA (za7 4 hn73 e (hJ56 _ (g64.1,g64.2,t75,g8.2.2.2) h _ (zf 18 e e ze (.cons (.there tI) (.cons (.there tI) (.cons (.there tI) (.cons (.there tI) (.cons tH (.cons tH (.cons tH .nil)))))))))))))))))))
     exact zaK e e (zZ (l:=([q64.2]:(List GItem))) el84 (.cons e hI .nil) e e (zaK e e (zH (R:=appv g8.2.2.1 (q8.2.items)) ty84 e (.there (.there tI)) isvT1 (zaK e e (zbU (l:=q8.2.items) (m:=([q64.2]:(List GItem))) zjn e hI e zQ (.there (.there (.there tI))) q76 fun t78=>zC e (zw e) (zC e (zY e zff zeH) (zaK e e (zo (y':=((q8.2.kind,q8.2.name,q8.2.mark,q8.2.con,(TList.mk t78 (q8.2.items ++ ([q64.2]:(List GItem)))),(TList.mk g8.2.2.2 q8.2.fields),q8.2.root,q8.2.more,q8.2.of):(Int × Str × GMark × GCon × (TList GItem) × (TList GFld) × Int × Bool × Int))) ty84 e e isvT2 (.there (.there (.there tI))) e (zaA (za7 4 hn73 e (hJ56 _ (g64.1,g64.2,t78,g8.2.2.2) h _ (zf 18 e e ze (.cons (.there tI) (.cons (.there tI) (.cons (.there tI) (.cons (.there tI) (.cons tH (.cons tH (.cons tH .nil)))))))))))))))))))
    refine zg h e (fun _ h=>?_) (fun _ h=>?_)
    ·refine wsr (oM e (zb h fun y66 hy66 h=>oT (zN (zcH hy66) hT (s1 e) k4 (fun R H' hR=>?_))))
     obtain ⟨t67,t68,rfl,rfl⟩:=hR
     refine oV (zY e GItem.f2 ziL) (oT (zo (y':=((GItem.mk y57.1 (0:Int) true):GItem)) ty4 e e hI (.there (.there tI)) e (oV (zY e GItem.f1 zdV) (oT (zo (y':=((GItem.mk y57.1 y66.1 true):GItem)) ty2 e e hI .here e (rnf (zt (oM e (zb h fun y69 hy69 h=>oT (zN (zac hy69) hT (s2 e e) (.cons tH (.cons tH (.cons tH (.cons tH .nil)))) (fun R H' hR=>?_)))))))))))
     obtain ⟨t70,t71,rfl,rfl⟩:=hR
     exact zF (hJ65 _ (t70,t71) h _ (zf 6 e e ze (.cons .here (.cons .here (.cons .here (.cons .here k4))))))
    exact z6 (hJ65 _ (t62,t63) h _ (zf 0 e e ze (.cons .here (.cons .here (.cons .here (.cons .here k4))))))
   refine zn (j:=23) h e (fun g51 h=>?_) (fun g51 h=>?_)
   ·refine oK 23 e e e g51 (zs e) (zb h fun y52 hy52 h=>zai e e (dj:=23) e g51 (zN (zS hy52) hT (s2 e e) k4 (fun R H' hR=>?_)))
    obtain ⟨t53,t54,rfl,rfl⟩:=hR
    exact oV (zi e g51 e) (hJ50 _ (t53,t54) h _ (zf 3 e e (za (j:=26) e hI ze) (.cons .here (.cons .here (.cons .here k4)))))
   exact oP 23 e e g51 (oP 23 e e g51 (oV (zj e g51 e) (hJ50 _ (g8.1,g8.2.1) h _ (zf 3 e e (za (j:=26) e hI ze) (.cons .here (.cons .here (.cons .here k4)))))))
  refine zn (j:=16) h e (fun g48 h=>?_) (fun g48 h=>?_)
  ·exact oK 16 e e e g48 (zs e) (oK 16 e e e g48 (zw e) (oK 16 e e e g48 (zY e zeD ze9) (zai e e (dj:=16) e g48 (zH (R:=isv (q8.2.more)) ty4 e (.there (.there tI)) hI (oK 16 e e e g48 (za2 e) (oV (zi e g48 e) (hJ47 _ () h _ (zf 6 e e (za (j:=22) e hI ze) (.cons .here (.cons .here (.cons .here k4)))))))))))
  exact oP 16 e e g48 (oP 16 e e g48 (oP 16 e e g48 (oP 16 e e g48 (oP 16 e e g48 (oV (zj e g48 e) (hJ47 _ () h _ (zf 6 e e (za (j:=22) e hI ze) (.cons .here (.cons .here (.cons .here k4))))))))))
 exact zam (z8 (eL9 _ _ (zL (hJ7 _ (g8.1,g8.2.1,g8.2.2.1,g8.2.2.2) h _ (zf 5 e e ze (.cons .here (.cons .here (.cons .here k4))))))))


theorem zns:∀ {a_s:Str} {r:(List UInt8)},ziF a_s=some r→Ctr Tryz.prog 192 [isv (a_s)] [] (fun R H=>R=oneOf [isv (r)]∧H=[]):=by
 intro a_s r h
 unfold ziF at h
 refine zr Tryz.func192 e fun w0 S0 hT=>wsr (oA e (rnf (wsr (oA e (rnf (zp (wsr ?_)))))))
 refine oA e (rnf (zB (zgZ (zbh) (zbx (ι:=(List UInt8) × Int) (γ:=Tok) (fun q1 g1=>[(3,appv g1 (q1.1)),(4,isv (q1.2))]) (fun q1 g1=>[tokE g1]) h (none) (za (j:=3) e zb4 (za (j:=4) e hI ze)) k1 (fun L2 q1 g1 Q60 h hL2 eL2 rL2=>zp (wsr (oM e (zO h fun q31 h=>?_))))))))
 refine oV (zan e e q31) (oM e (oV (zdX st9 e) (oV (zay e e) (rnf (zg h e (fun _ h=>?_) (fun _ h=>?_))))))
 ·refine wkf (zp (zB (wsr (oA e (rnf (zp (wsr (oM e ?_))))))))
  refine oA e (rnf (zB (zbx (ι:=UInt8 × Int) (γ:=Unit) (fun q32 g32=>[(5,isv (q32.1)),(6,isv (q32.2))]) (fun q32 g32=>[]) h () (za (j:=5) e hI (za (j:=6) e hI ze)) .nil (fun L33 q32 g32 Q58 h hL33 eL33 rL33=>zp (wsr (oM e (oM e (zO h fun q46 h=>?_))))))))
  refine oV (zan e e q46) (oV (zay e e) (rnf (zg h e (fun _ h=>?_) (fun _ h=>?_))))
  ·refine wkf (zp (zB (wsr (oM e (oM e (zb h fun y47 hy47 h=>oV (zb5 y47 st9 e e hy47) (oV (zkY e e) ?_)))))))
   refine oA e (rnf (zp (wsr (oM e (oM e (zb h fun y48 hy48 h=>oV (zb5 y48 st9 e e hy48) (oV (zj9 e e) ?_)))))))
   refine rnf (zdF (ι:=UInt8) (γ:=Unit) (fun q49 g49=>[(7,isv (q49))]) (fun q49 g49=>[]) .nil h (fun q49 g49 h=>?_) (fun J50 h hJ50=>?_))
   ·refine zt (oM e (zaf h fun q52 h=>oV (zpM e e q52) (oM e (oV (zp3 e e) (oA e (zF (zq ?_)))))))
    exact zE (zt (oM e (zO h fun q53 h=>oV (zan e e q53) (oA e (zF (hL33 _ () h _ (zf 24 e e (za (j:=5) e hI (za (j:=6) e hI ze)) k1)))))))
   refine zg h e (fun _ h=>?_) (fun _ h=>?_)
   ·refine zt (oM e (oM e (zb h fun y51 hy51 h=>oV (zb5 y51 st9 e e hy51) (oV (zkY e e) (oV (zpV e e) (oA e (zF ?_)))))))
    exact hJ50 _ () h _ (jk 6 7 e e e)
   exact z6 (hJ50 _ () h _ (jk 0 7 e e e))
  refine zam (z8 (eL33 _ _ (zL (zE (zt (oM e (oM e (oT (zZ (l:=([q32.1]:(List UInt8))) el42 (.cons e hI .nil) e e ?_)))))))))
  refine zaf h fun q56 h=>oT (zbU (l:=q1.1) (m:=([q32.1]:(List UInt8))) zmX e hI e zQ .here q56 fun t55=>oA e (zF (zq (zE (zt (oM e (zO h fun q57 h=>?_)))))))
  exact oV (zan e e q57) (oA e (zF (hL2 _ (t55) h _ (zf 24 e e (za (j:=3) e hI (za (j:=4) e hI ze)) k1))))
 refine zam (z8 (eL2 _ _ (zL (zE (wsr (oM e (oA e (rnf ?_))))))))
 refine zD ?_
 cases h
 exact zh (.as e zQ .nil) .nil ⟨e,e⟩


theorem zhS:∀ {a_x:GPar} {zJ:Nat} {t_a_x1:Tok} {t_a_x2:Tok} {zM:Vt} {r:Val × GPar},zcL a_x=some r→Ctr Tryz.prog 185 [ptrv zJ (Fld.id ((List GTok) × Int × (Str × Int × (TList Str) × (TList Int) × Vh) × Int × Int))] [boxE zJ ((a_x.l,a_x.at_,(a_x.m.name,a_x.m.tagging,(TList.mk t_a_x1 a_x.m.names),(TList.mk t_a_x2 a_x.m.types),(Vh.mk zM a_x.m.nodes.length)),a_x.e,a_x.p):((List GTok) × Int × (Str × Int × (TList Str) × (TList Int) × Vh) × Int × Int)),tokE t_a_x1,tokE t_a_x2,vecE zM (a_x.m.nodes:List GNode)] (fun R H=>∃ u1:Tok,∃ u2:Tok,R=oneOf [isv (r.1)]∧H=[boxE zJ ((r.2.l,r.2.at_,(r.2.m.name,r.2.m.tagging,(TList.mk u1 r.2.m.names),(TList.mk u2 r.2.m.types),(Vh.mk zM r.2.m.nodes.length)),r.2.e,r.2.p)),tokE u1,tokE u2,vecE zM (r.2.m.nodes)]):=by
 intro a_x zJ t_a_x1 t_a_x2 zM r h
 unfold zcL at h
 refine zr Tryz.func185 e fun w0 S0 hT=>wsr (oT (zag _ ze46 fun b4=>rnf (wsr (oM e (zb h fun y5 hy5 h=>oT (zN (zaZ hy5) hT (s1 e) (.cons tH (.cons tH (.cons tH (.cons tH .nil)))) (fun R H' hR=>?_)))))))
 obtain ⟨t6,t7,rfl,rfl⟩:=hR
 refine oT (zag _ ze133 fun b8=>oT (zo (y':=(y5.1:GTok)) ty133 e e hI .here e (zaj (zaQ 3 .here e) (rnf (zp (zdF (ι:=GPar) (γ:=Tok × Tok) (fun q9 g9=>[]) (fun q9 g9=>[boxE zJ ((q9.l,q9.at_,(q9.m.name,q9.m.tagging,(TList.mk g9.1 q9.m.names),(TList.mk g9.2 q9.m.types),(Vh.mk zM q9.m.nodes.length)),q9.e,q9.p):((List GTok) × Int × (Str × Int × (TList Str) × (TList Int) × Vh) × Int × Int)),tokE g9.1,tokE g9.2,vecE zM (q9.m.nodes:List GNode)]) k4 h (fun q9 g9 h=>?_) (fun J10 h hJ10=>?_)))))))
 ·refine wsr (oV (zar (z:=(Val.mk (0:Int) (0:Int) ([]:(List UInt8)) ([]:(List Val)) (0:Int) ([]:(List Raw)))) e bu46 ze46 .nil) (oT (zo (y':=((Val.mk (0:Int) (0:Int) ([]:(List UInt8)) ([]:(List Val)) (0:Int) ([]:(List Raw))):Val)) ty46 e e hI (.there (.there tI)) e (rnf (zD (zh (.cell e .here ty46 .nil) (.cons tH (.cons tH (.cons tH (.cons tH .nil)))) ?_))))))
  cases h
  exact ⟨g9.1,g9.2,e,e⟩
 refine zB (wsr (oM e (oV (zw e) (oV (zY e zbD zcv) (oT (zH (R:=isv (y5.2.e)) ty65 e .here hI (oV (zbo e e) (oA e (rnf ?_)))))))))
 refine zg h e (fun _ h=>?_) (fun _ h=>?_)
 ·exact z6 (zq (hJ10 _ (t6,t7) h _ (zf 6 e e ze (.cons .here k4))))
 refine wsr (oM e (zb h fun y11 hy11 h=>oT (zN (zS hy11) hT (s2 e e) k4 (fun R H' hR=>?_))))
 obtain ⟨t12,t13,rfl,rfl⟩:=hR
 refine oA e (rnf (zg h e (fun _ h=>?_) (fun _ h=>?_)))
 ·refine wsr (oV (zar (z:=(Val.mk (1:Int) (1:Int) ([]:(List UInt8)) ([]:(List Val)) (0:Int) ([]:(List Raw)))) e bu46 ze46 (.cons Val.f0 zcy e hI (.cons Val.f1 zcx e hI .nil))) (oT (zo (y':=((Val.mk (1:Int) (1:Int) ([]:(List UInt8)) ([]:(List Val)) (0:Int) ([]:(List Raw))):Val)) ty46 e e hI (.there (.there tI)) e (rnf (zD (zz (zx (zh (.cell e .here ty46 .nil) (.cons tH (.cons tH (.cons tH (.cons tH .nil)))) ?_))))))))
  cases h
  exact ⟨t12,t13,e,e⟩
 refine wsr (oM e (zb h fun y14 hy14 h=>oT (zN (zS hy14) hT (s2 e e) k4 (fun R H' hR=>?_))))
 obtain ⟨t15,t16,rfl,rfl⟩:=hR
 refine oA e (rnf (zg h e (fun _ h=>?_) (fun _ h=>?_)))
 ·refine wsr (oV (zar (z:=(Val.mk (1:Int) (0:Int) ([]:(List UInt8)) ([]:(List Val)) (0:Int) ([]:(List Raw)))) e bu46 ze46 (.cons Val.f0 zcy e hI .nil)) (oT (zo (y':=((Val.mk (1:Int) (0:Int) ([]:(List UInt8)) ([]:(List Val)) (0:Int) ([]:(List Raw))):Val)) ty46 e e hI (.there (.there tI)) e (rnf (zD (zz (zx (zh (.cell e .here ty46 .nil) (.cons tH (.cons tH (.cons tH (.cons tH .nil)))) ?_))))))))
  cases h
  exact ⟨t15,t16,e,e⟩
 refine wsr (oM e (zb h fun y17 hy17 h=>oT (zN (zS hy17) hT (s2 e e) k4 (fun R H' hR=>?_))))
 obtain ⟨t18,t19,rfl,rfl⟩:=hR
 refine oA e (rnf (zg h e (fun _ h=>?_) (fun _ h=>?_)))
 ·refine wsr (oV (zar (z:=(Val.mk (4:Int) (0:Int) ([]:(List UInt8)) ([]:(List Val)) (0:Int) ([]:(List Raw)))) e bu46 ze46 (.cons Val.f0 zcy e hI .nil)) (oT (zo (y':=((Val.mk (4:Int) (0:Int) ([]:(List UInt8)) ([]:(List Val)) (0:Int) ([]:(List Raw))):Val)) ty46 e e hI (.there (.there tI)) e (rnf (zD (zz (zx (zh (.cell e .here ty46 .nil) (.cons tH (.cons tH (.cons tH (.cons tH .nil)))) ?_))))))))
  cases h
  exact ⟨t18,t19,e,e⟩
 refine wsr (oV (zI e GTok.f0 zci e (z:=y5.1.kind)) (oV (zd ty3 e) (oV (zaa e e) (oA e (rnf (zg h e (fun _ h=>?_) (fun _ h=>?_)))))))
 ·refine wsr (oM e (zb h fun y20 hy20 h=>oT (zN (zbT hy20) hT (s1 e) k4 (fun R H' hR=>?_))))
  obtain ⟨t21,t22,rfl,rfl⟩:=hR
  refine oV (zhh GTok.f1 e zc8 e) (zb h fun y23 hy23 h=>oT (zA (zjf hy23) hT (s1 e) .nil (oV (zar (z:=(Val.mk (2:Int) y23 ([]:(List UInt8)) ([]:(List Val)) (0:Int) ([]:(List Raw)))) e bu46 ze46 (.cons Val.f0 zcy e hI (.cons Val.f1 zcx e hI .nil))) (oT (zo (y':=((Val.mk (2:Int) y23 ([]:(List UInt8)) ([]:(List Val)) (0:Int) ([]:(List Raw))):Val)) ty46 e e hI (.there (.there tI)) e (rnf (zD (zz (zx ?_)))))))))
  refine zh (.cell e .here ty46 .nil) (.cons tH (.cons tH (.cons tH (.cons tH .nil)))) ?_
  cases h
  exact ⟨t21,t22,e,e⟩
 refine wsr (oV (zI e GTok.f0 zci e (z:=y5.1.kind)) (oV (zd ty3 e) (oV (zaa e e) (oA e (rnf (zg h e (fun _ h=>?_) (fun _ h=>?_)))))))
 ·refine wsr (oM e (zb h fun y24 hy24 h=>oT (zN (zbT hy24) hT (s1 e) k4 (fun R H' hR=>?_))))
  obtain ⟨t25,t26,rfl,rfl⟩:=hR
  refine oV (zhh GTok.f1 e zc8 e) (zaf h fun q27 h=>oT (zqa Tryz.underlying9 Tryz.underlying42 Tryz.underlying5 e q27 (oV (zar (z:=(Val.mk (3:Int) (0:Int) y24.1.text.b ([]:(List Val)) (0:Int) ([]:(List Raw)))) e bu46 ze46 (.cons Val.f0 zcy e hI (.cons Val.f2 zc5 e hI .nil))) (oT (zo (y':=((Val.mk (3:Int) (0:Int) y24.1.text.b ([]:(List Val)) (0:Int) ([]:(List Raw))):Val)) ty46 e e hI (.there (.there tI)) e (rnf (zD (zz (zx ?_)))))))))
  refine zh (.cell e .here ty46 .nil) (.cons tH (.cons tH (.cons tH (.cons tH .nil)))) ?_
  cases h
  exact ⟨t25,t26,e,e⟩
 refine wsr (oV (zI e GTok.f0 zci e (z:=y5.1.kind)) (oV (zd ty3 e) (oV (zaa e e) (oA e (rnf (zg h e (fun _ h=>?_) (fun _ h=>?_)))))))
 ·refine wsr (oM e (zb h fun y28 hy28 h=>oT (zN (zbT hy28) hT (s1 e) k4 (fun R H' hR=>?_))))
  obtain ⟨t29,t30,rfl,rfl⟩:=hR
  refine oV (zhh GTok.f1 e zc8 e) (zb h fun y31 hy31 h=>oT (zA (zns hy31) hT (s1 e) .nil (oV (zar (z:=(Val.mk (5:Int) (0:Int) y31 ([]:(List Val)) (0:Int) ([]:(List Raw)))) e bu46 ze46 (.cons Val.f0 zcy e hI (.cons Val.f2 zc5 e hI .nil))) (oT (zo (y':=((Val.mk (5:Int) (0:Int) y31 ([]:(List Val)) (0:Int) ([]:(List Raw))):Val)) ty46 e e hI (.there (.there tI)) e (rnf (zD (zz (zx ?_)))))))))
  refine zh (.cell e .here ty46 .nil) (.cons tH (.cons tH (.cons tH (.cons tH .nil)))) ?_
  cases h
  exact ⟨t29,t30,e,e⟩
 refine wsr (oV (zI e GTok.f0 zci e (z:=y5.1.kind)) (oV (zd ty3 e) (oV (zaa e e) (oA e (rnf (zg h e (fun _ h=>?_) (fun _ h=>?_)))))))
 ·refine wsr (oM e (zb h fun y32 hy32 h=>oT (zN (zbT hy32) hT (s1 e) k4 (fun R H' hR=>?_))))
  obtain ⟨t33,t34,rfl,rfl⟩:=hR
  refine oV (zhh GTok.f1 e zc8 e) (zaf h fun q35 h=>oT (zqa Tryz.underlying9 Tryz.underlying42 Tryz.underlying5 e q35 (oV (zar (z:=(Val.mk (6:Int) (0:Int) y32.1.text.b ([]:(List Val)) (0:Int) ([]:(List Raw)))) e bu46 ze46 (.cons Val.f0 zcy e hI (.cons Val.f2 zc5 e hI .nil))) (oT (zo (y':=((Val.mk (6:Int) (0:Int) y32.1.text.b ([]:(List Val)) (0:Int) ([]:(List Raw))):Val)) ty46 e e hI (.there (.there tI)) e (rnf (zD (zz (zx ?_)))))))))
  refine zh (.cell e .here ty46 .nil) (.cons tH (.cons tH (.cons tH (.cons tH .nil)))) ?_
  cases h
  exact ⟨t33,t34,e,e⟩
 refine zt (oM e (oV (zd ty133 e) (zb h fun y36 hy36 h=>oT (zN (zbk hy36) hT (s3 e e e) k4 (fun R H' hR=>?_)))))
 obtain ⟨t37,t38,rfl,rfl⟩:=hR
 exact zF (zq (hJ10 _ (t37,t38) h _ (zf 34 e e ze (.cons .here k4))))

end Go.Proofs.Q


namespace Go.Proofs.Q
open Go.Sy
set_option maxRecDepth 4000
def zcq (f':GPar→GNode→Int→Int→Option (GPar × GNode)):Prop :=
 ∀ {a_x:GPar} {a_n_:GNode} {zG:Int} {zcB:Int} {zJ:Nat} {t_a_x1:Tok} {t_a_x2:Tok} {zM:Vt} {zbc:Nat} {t_a_n_4:Tok} {t_a_n_5:Tok} {r:GPar × GNode},f' a_x a_n_ zG zcB=some r→Ctr Tryz.prog 173 [ptrv zJ (Fld.id ((List GTok) × Int × (Str × Int × (TList Str) × (TList Int) × Vh) × Int × Int)),ptrv zbc (Fld.id (Int × Str × GMark × GCon × (TList GItem) × (TList GFld) × Int × Bool × Int)),isv (zG),isv (zcB)] [boxE zJ ((a_x.l,a_x.at_,(a_x.m.name,a_x.m.tagging,(TList.mk t_a_x1 a_x.m.names),(TList.mk t_a_x2 a_x.m.types),(Vh.mk zM a_x.m.nodes.length)),a_x.e,a_x.p):((List GTok) × Int × (Str × Int × (TList Str) × (TList Int) × Vh) × Int × Int)),tokE t_a_x1,tokE t_a_x2,vecE zM (a_x.m.nodes:List GNode),boxE zbc ((a_n_.kind,a_n_.name,a_n_.mark,a_n_.con,(TList.mk t_a_n_4 a_n_.items),(TList.mk t_a_n_5 a_n_.fields),a_n_.root,a_n_.more,a_n_.of):(Int × Str × GMark × GCon × (TList GItem) × (TList GFld) × Int × Bool × Int)),tokE t_a_n_4,tokE t_a_n_5] (fun R H=>∃ u1:Tok,∃ u2:Tok,∃ u3:Vt,∃ u4:Tok,∃ u5:Tok,R=oneOf []∧H=[boxE zJ ((r.1.l,r.1.at_,(r.1.m.name,r.1.m.tagging,(TList.mk u1 r.1.m.names),(TList.mk u2 r.1.m.types),(Vh.mk u3 r.1.m.nodes.length)),r.1.e,r.1.p)),tokE u1,tokE u2,vecE u3 (r.1.m.nodes),boxE zbc ((r.2.kind,r.2.name,r.2.mark,r.2.con,(TList.mk u4 r.2.items),(TList.mk u5 r.2.fields),r.2.root,r.2.more,r.2.of)),tokE u4,tokE u5])
def zcm (f':GPar→Int→Option (Int × GPar)):Prop :=
 ∀ {a_x:GPar} {zG:Int} {zJ:Nat} {t_a_x1:Tok} {t_a_x2:Tok} {zM:Vt} {r:Int × GPar},f' a_x zG=some r→Ctr Tryz.prog 75 [ptrv zJ (Fld.id ((List GTok) × Int × (Str × Int × (TList Str) × (TList Int) × Vh) × Int × Int)),isv (zG)] [boxE zJ ((a_x.l,a_x.at_,(a_x.m.name,a_x.m.tagging,(TList.mk t_a_x1 a_x.m.names),(TList.mk t_a_x2 a_x.m.types),(Vh.mk zM a_x.m.nodes.length)),a_x.e,a_x.p):((List GTok) × Int × (Str × Int × (TList Str) × (TList Int) × Vh) × Int × Int)),tokE t_a_x1,tokE t_a_x2,vecE zM (a_x.m.nodes:List GNode)] (fun R H=>∃ u1:Tok,∃ u2:Tok,∃ u3:Vt,R=oneOf [isv (r.1)]∧H=[boxE zJ ((r.2.l,r.2.at_,(r.2.m.name,r.2.m.tagging,(TList.mk u1 r.2.m.names),(TList.mk u2 r.2.m.types),(Vh.mk u3 r.2.m.nodes.length)),r.2.e,r.2.p)),tokE u1,tokE u2,vecE u3 (r.2.m.nodes)])
def zcD (f':GPar→GNode→Int→Option (GPar × GNode)):Prop :=
 ∀ {a_x:GPar} {a_n_:GNode} {zG:Int} {zJ:Nat} {t_a_x1:Tok} {t_a_x2:Tok} {zM:Vt} {zbc:Nat} {t_a_n_4:Tok} {t_a_n_5:Tok} {r:GPar × GNode},f' a_x a_n_ zG=some r→Ctr Tryz.prog 107 [ptrv zJ (Fld.id ((List GTok) × Int × (Str × Int × (TList Str) × (TList Int) × Vh) × Int × Int)),ptrv zbc (Fld.id (Int × Str × GMark × GCon × (TList GItem) × (TList GFld) × Int × Bool × Int)),isv (zG)] [boxE zJ ((a_x.l,a_x.at_,(a_x.m.name,a_x.m.tagging,(TList.mk t_a_x1 a_x.m.names),(TList.mk t_a_x2 a_x.m.types),(Vh.mk zM a_x.m.nodes.length)),a_x.e,a_x.p):((List GTok) × Int × (Str × Int × (TList Str) × (TList Int) × Vh) × Int × Int)),tokE t_a_x1,tokE t_a_x2,vecE zM (a_x.m.nodes:List GNode),boxE zbc ((a_n_.kind,a_n_.name,a_n_.mark,a_n_.con,(TList.mk t_a_n_4 a_n_.items),(TList.mk t_a_n_5 a_n_.fields),a_n_.root,a_n_.more,a_n_.of):(Int × Str × GMark × GCon × (TList GItem) × (TList GFld) × Int × Bool × Int)),tokE t_a_n_4,tokE t_a_n_5] (fun R H=>∃ u1:Tok,∃ u2:Tok,∃ u3:Vt,∃ u4:Tok,∃ u5:Tok,R=oneOf []∧H=[boxE zJ ((r.1.l,r.1.at_,(r.1.m.name,r.1.m.tagging,(TList.mk u1 r.1.m.names),(TList.mk u2 r.1.m.types),(Vh.mk u3 r.1.m.nodes.length)),r.1.e,r.1.p)),tokE u1,tokE u2,vecE u3 (r.1.m.nodes),boxE zbc ((r.2.kind,r.2.name,r.2.mark,r.2.con,(TList.mk u4 r.2.items),(TList.mk u5 r.2.fields),r.2.root,r.2.more,r.2.of)),tokE u4,tokE u5])
def zcg (f':GPar→GNode→Int→Option (GPar × GNode)):Prop :=
 ∀ {a_x:GPar} {a_n_:GNode} {zG:Int} {zJ:Nat} {t_a_x1:Tok} {t_a_x2:Tok} {zM:Vt} {zbc:Nat} {t_a_n_4:Tok} {t_a_n_5:Tok} {r:GPar × GNode},f' a_x a_n_ zG=some r→Ctr Tryz.prog 149 [ptrv zJ (Fld.id ((List GTok) × Int × (Str × Int × (TList Str) × (TList Int) × Vh) × Int × Int)),ptrv zbc (Fld.id (Int × Str × GMark × GCon × (TList GItem) × (TList GFld) × Int × Bool × Int)),isv (zG)] [boxE zJ ((a_x.l,a_x.at_,(a_x.m.name,a_x.m.tagging,(TList.mk t_a_x1 a_x.m.names),(TList.mk t_a_x2 a_x.m.types),(Vh.mk zM a_x.m.nodes.length)),a_x.e,a_x.p):((List GTok) × Int × (Str × Int × (TList Str) × (TList Int) × Vh) × Int × Int)),tokE t_a_x1,tokE t_a_x2,vecE zM (a_x.m.nodes:List GNode),boxE zbc ((a_n_.kind,a_n_.name,a_n_.mark,a_n_.con,(TList.mk t_a_n_4 a_n_.items),(TList.mk t_a_n_5 a_n_.fields),a_n_.root,a_n_.more,a_n_.of):(Int × Str × GMark × GCon × (TList GItem) × (TList GFld) × Int × Bool × Int)),tokE t_a_n_4,tokE t_a_n_5] (fun R H=>∃ u1:Tok,∃ u2:Tok,∃ u3:Vt,∃ u4:Tok,∃ u5:Tok,R=oneOf []∧H=[boxE zJ ((r.1.l,r.1.at_,(r.1.m.name,r.1.m.tagging,(TList.mk u1 r.1.m.names),(TList.mk u2 r.1.m.types),(Vh.mk u3 r.1.m.nodes.length)),r.1.e,r.1.p)),tokE u1,tokE u2,vecE u3 (r.1.m.nodes),boxE zbc ((r.2.kind,r.2.name,r.2.mark,r.2.con,(TList.mk u4 r.2.items),(TList.mk u5 r.2.fields),r.2.root,r.2.more,r.2.of)),tokE u4,tokE u5])
theorem zhB {zau:GPar→GNode→Int→Int→Option (GPar × GNode)} {zaE:GPar→Int→Option (Int × GPar)} {zaD:GPar→GNode→Int→Option (GPar × GNode)} {zap:GPar→GNode→Int→Option (GPar × GNode)} (zcn:zcq zau) (zcJ:zcm zaE) (zda:zcD zaD) (zbX:zcg zap):∀ {a_x:GPar} {a_n_:GNode} {zG:Int} {zcB:Int} {zJ:Nat} {t_a_x1:Tok} {t_a_x2:Tok} {zM:Vt} {zbc:Nat} {t_a_n_4:Tok} {t_a_n_5:Tok} {r:GPar × GNode},zct zau zaE zaD zap a_x a_n_ zG zcB=some r→Ctr Tryz.prog 173 [ptrv zJ (Fld.id ((List GTok) × Int × (Str × Int × (TList Str) × (TList Int) × Vh) × Int × Int)),ptrv zbc (Fld.id (Int × Str × GMark × GCon × (TList GItem) × (TList GFld) × Int × Bool × Int)),isv (zG),isv (zcB)] [boxE zJ ((a_x.l,a_x.at_,(a_x.m.name,a_x.m.tagging,(TList.mk t_a_x1 a_x.m.names),(TList.mk t_a_x2 a_x.m.types),(Vh.mk zM a_x.m.nodes.length)),a_x.e,a_x.p):((List GTok) × Int × (Str × Int × (TList Str) × (TList Int) × Vh) × Int × Int)),tokE t_a_x1,tokE t_a_x2,vecE zM (a_x.m.nodes:List GNode),boxE zbc ((a_n_.kind,a_n_.name,a_n_.mark,a_n_.con,(TList.mk t_a_n_4 a_n_.items),(TList.mk t_a_n_5 a_n_.fields),a_n_.root,a_n_.more,a_n_.of):(Int × Str × GMark × GCon × (TList GItem) × (TList GFld) × Int × Bool × Int)),tokE t_a_n_4,tokE t_a_n_5] (fun R H=>∃ u1:Tok,∃ u2:Tok,∃ u3:Vt,∃ u4:Tok,∃ u5:Tok,R=oneOf []∧H=[boxE zJ ((r.1.l,r.1.at_,(r.1.m.name,r.1.m.tagging,(TList.mk u1 r.1.m.names),(TList.mk u2 r.1.m.types),(Vh.mk u3 r.1.m.nodes.length)),r.1.e,r.1.p)),tokE u1,tokE u2,vecE u3 (r.1.m.nodes),boxE zbc ((r.2.kind,r.2.name,r.2.mark,r.2.con,(TList.mk u4 r.2.items),(TList.mk u5 r.2.fields),r.2.root,r.2.more,r.2.of)),tokE u4,tokE u5]):=by
 intro a_x a_n_ zG zcB zJ t_a_x1 t_a_x2 zM zbc t_a_n_4 t_a_n_5 r h
 unfold zct at h
 refine zr Tryz.func173 e fun w0 S0 hT=>wsr (oM e (zb h fun y6 hy6 h=>oT (zN (zcE hy6) hT (s2 e e) k4 (fun R H' hR=>?_))))
 obtain ⟨t7,t8,rfl,rfl⟩:=hR
 refine oM e (oV (zar (z:=(GFld.mk y6.1 (0:Int) false false (Val.mk (0:Int) (0:Int) ([]:(List UInt8)) ([]:(List Val)) (0:Int) ([]:(List Raw))) zcB)) e bu92 ze92 (.cons GFld.f0 zmv e hI (.cons GFld.f5 zlq e hI .nil))) (oT (zag _ ze92 fun b9=>oT (zo (y':=((GFld.mk y6.1 (0:Int) false false (Val.mk (0:Int) (0:Int) ([]:(List UInt8)) ([]:(List Val)) (0:Int) ([]:(List Raw))) zcB):GFld)) ty92 e e hI .here e (rnf (wsr (oM e (oM e (zO h fun q10 h=>?_)))))))))
 refine oV (zan e e q10) (zb h fun y11 hy11 h=>oT (zN (zcJ hy11) hT (s2 e e) (.cons tH (.cons tH (.cons tH (.cons tH .nil)))) (fun R H' hR=>?_)))
 obtain ⟨t12,t13,v14,rfl,rfl⟩:=hR
 refine oV (zY e GFld.f1 zdA) (oT (zo (y':=((GFld.mk y6.1 y11.1 false false (Val.mk (0:Int) (0:Int) ([]:(List UInt8)) ([]:(List Val)) (0:Int) ([]:(List Raw))) zcB):GFld)) ty3 e e hI (.there (.there tI)) e (rnf (zp (zdF (ι:=GFld × GPar) (γ:=Tok × Tok) (fun q15 g15=>[]) (fun q15 g15=>[boxE b9 (q15.1:GFld),boxE zJ ((q15.2.l,q15.2.at_,(q15.2.m.name,q15.2.m.tagging,(TList.mk g15.1 q15.2.m.names),(TList.mk g15.2 q15.2.m.types),(Vh.mk v14 q15.2.m.nodes.length)),q15.2.e,q15.2.p):((List GTok) × Int × (Str × Int × (TList Str) × (TList Int) × Vh) × Int × Int)),tokE g15.1,tokE g15.2,vecE v14 (q15.2.m.nodes:List GNode)]) (.cons .here k4) h (fun q15 g15 h=>?_) (fun J16 h hJ16=>?_))))))
 ·refine zdh 8 .here e (fun o26 hn27=>zae (.v 0 (.v 1 (.v 2 (.v 3 (.v 5 (.alt 4 (.t 6 (.t 7 (.v 8 (.v 9 (.t 10 .nil))))) (.t 6 (.t 4 (.t 7 (.v 8 (.v 9 (.t 10 .nil)))))))))))) moOrd (by kernel_rfl) ?_)
  refine rvm e e (rvm e e (zC e (zw e) (zC e (zY e zfX zdv) (zC e (zdx (R:=isv (q15.1)) ty92 e (List.Mem.head _) hI) (zaf h fun q30 h=>zfv ?_ ?_)))))
  ·refine zaK e e (zH (R:=appv t_a_n_5 (a_n_.fields)) ty85 e (.there (.there tI)) isvT1 (zaK e e (zZ (l:=([q15.1]:(List GFld))) el85 (.cons e hI .nil) e e (zaK e e (zbU (l:=a_n_.fields) (m:=([q15.1]:(List GFld))) zk3 e hI e zQ (.there (.there (.there (.there tI)))) q30 fun t29=>zC e (zw e) (zC e (zY e zfX zdv) (zaK e e (zo (y':=((a_n_.kind,a_n_.name,a_n_.mark,a_n_.con,(TList.mk t_a_n_4 a_n_.items),(TList.mk t29 (a_n_.fields ++ ([q15.1]:(List GFld)))),a_n_.root,a_n_.more,a_n_.of):(Int × Str × GMark × GCon × (TList GItem) × (TList GFld) × Int × Bool × Int))) ty85 e e isvT2 (.there (.there (.there tI))) e (zaA (za7 8 hn27 e (zaP .nil (.cons (.there tI) (.cons (.there tI) (.cons (.there tI) (.cons (.there tI) (.cons tH (.cons tI (.cons tH .nil))))))) ?_)))))))))))
   cases h
   exact ⟨g15.1,g15.2,v14,t_a_n_4,t29,e,e⟩
  refine zaK e e (zZ (l:=([q15.1]:(List GFld))) el85 (.cons e hI .nil) e e (zaK e e (zH (R:=appv t_a_n_5 (a_n_.fields)) ty85 e (.there (.there tI)) isvT1 (zaK e e (zbU (l:=a_n_.fields) (m:=([q15.1]:(List GFld))) zk3 e hI e zQ (.there (.there (.there (.there tI)))) q30 fun t32=>zC e (zw e) (zC e (zY e zfX zdv) (zaK e e (zo (y':=((a_n_.kind,a_n_.name,a_n_.mark,a_n_.con,(TList.mk t_a_n_4 a_n_.items),(TList.mk t32 (a_n_.fields ++ ([q15.1]:(List GFld)))),a_n_.root,a_n_.more,a_n_.of):(Int × Str × GMark × GCon × (TList GItem) × (TList GFld) × Int × Bool × Int))) ty85 e e isvT2 (.there (.there (.there tI))) e (zaA (za7 8 hn27 e (zaP .nil (.cons (.there tI) (.cons (.there tI) (.cons (.there tI) (.cons (.there tI) (.cons tH (.cons tI (.cons tH .nil))))))) ?_)))))))))))
  cases h
  exact ⟨g15.1,g15.2,v14,t_a_n_4,t32,e,e⟩
 refine zB (wsr (oM e (oV (zw e) (oV (zY e zcA zb0) (oT (zH (R:=isv (a_n_.kind)) ty3 e (.there (.there (.there tI))) hI (oV (zaa e e) (oA e (rnf ?_)))))))))
 refine zg h e (fun _ h=>?_) (fun _ h=>?_)
 ·exact z6 (zq (hJ16 _ (t12,t13) h _ (zf 6 e e ze (.cons .here (.cons .here (.cons .here (.cons .here k4)))))))
 refine wsr (oM e (zb h fun y17 hy17 h=>oT (zN (zS hy17) hT (s2 e e) (.cons tH (.cons tH (.cons tH (.cons tH .nil)))) (fun R H' hR=>?_))))
 obtain ⟨t18,t19,rfl,rfl⟩:=hR
 refine oA e (rnf (zg h e (fun _ h=>?_) (fun _ h=>?_)))
 ·exact zt (oV (zY e GFld.f2 zkL) (oT (zo (y':=((GFld.mk y6.1 y11.1 true false (Val.mk (0:Int) (0:Int) ([]:(List UInt8)) ([]:(List Val)) (0:Int) ([]:(List Raw))) zcB):GFld)) ty4 e e hI (.there (.there tI)) e (zF (zq (hJ16 _ (t18,t19) h _ (zf 10 e e ze (.cons .here (.cons .here (.cons .here (.cons .here k4)))))))))))
 refine wsr (oM e (zb h fun y20 hy20 h=>oT (zN (zS hy20) hT (s2 e e) k4 (fun R H' hR=>?_))))
 obtain ⟨t21,t22,rfl,rfl⟩:=hR
 refine oA e (rnf (zg h e (fun _ h=>?_) (fun _ h=>?_)))
 ·refine zt (oM e (zb h fun y23 hy23 h=>oT (zN (zhS hy23) hT (s1 e) k4 (fun R H' hR=>?_))))
  obtain ⟨t24,t25,rfl,rfl⟩:=hR
  exact oV (zY e GFld.f3 ziM) (oT (zo (y':=((GFld.mk y6.1 y11.1 false true (Val.mk (0:Int) (0:Int) ([]:(List UInt8)) ([]:(List Val)) (0:Int) ([]:(List Raw))) zcB):GFld)) ty4 e e hI (.there (.there tI)) e (oV (zY e GFld.f4 zk4) (oT (zo (y':=((GFld.mk y6.1 y11.1 false true y23.1 zcB):GFld)) ty46 e e hI .here e (zF (zq (hJ16 _ (t24,t25) h _ (zf 16 e e ze (.cons .here (.cons .here (.cons .here (.cons .here k4)))))))))))))
 exact z6 (zq (hJ16 _ (t21,t22) h _ (zf 12 e e ze (.cons (.there (.there tI)) (.cons .here (.cons .here (.cons .here k4)))))))

theorem zik {zau:GPar→GNode→Int→Int→Option (GPar × GNode)} {zaE:GPar→Int→Option (Int × GPar)} {zaD:GPar→GNode→Int→Option (GPar × GNode)} {zap:GPar→GNode→Int→Option (GPar × GNode)} (zcn:zcq zau) (zcJ:zcm zaE) (zda:zcD zaD) (zbX:zcg zap):∀ {a_x:GPar} {zG:Int} {zJ:Nat} {t_a_x1:Tok} {t_a_x2:Tok} {zM:Vt} {r:Int × GPar},zb3 zau zaE zaD zap a_x zG=some r→Ctr Tryz.prog 75 [ptrv zJ (Fld.id ((List GTok) × Int × (Str × Int × (TList Str) × (TList Int) × Vh) × Int × Int)),isv (zG)] [boxE zJ ((a_x.l,a_x.at_,(a_x.m.name,a_x.m.tagging,(TList.mk t_a_x1 a_x.m.names),(TList.mk t_a_x2 a_x.m.types),(Vh.mk zM a_x.m.nodes.length)),a_x.e,a_x.p):((List GTok) × Int × (Str × Int × (TList Str) × (TList Int) × Vh) × Int × Int)),tokE t_a_x1,tokE t_a_x2,vecE zM (a_x.m.nodes:List GNode)] (fun R H=>∃ u1:Tok,∃ u2:Tok,∃ u3:Vt,R=oneOf [isv (r.1)]∧H=[boxE zJ ((r.2.l,r.2.at_,(r.2.m.name,r.2.m.tagging,(TList.mk u1 r.2.m.names),(TList.mk u2 r.2.m.types),(Vh.mk u3 r.2.m.nodes.length)),r.2.e,r.2.p)),tokE u1,tokE u2,vecE u3 (r.2.m.nodes)]):=by
 intro a_x zG zJ t_a_x1 t_a_x2 zM r h
 unfold zb3 at h
 refine zr Tryz.func75 e fun w0 S0 hT=>wsr (oA e (rnf (zp (wsr (oM e (oV (zw e) (oV (zY e zbD zcv) ?_)))))))
 refine oT (zH (R:=isv (a_x.e)) ty65 e .here hI (oV (zbo e e) (rnf (zg h e (fun _ h=>?_) (fun _ h=>?_)))))
 ·refine wsr (oA e (rnf (zD (zx (zh (.tmp e .nil) k4 ?_)))))
  cases h
  exact ⟨t_a_x1,t_a_x2,zM,e,e⟩
 refine wkf (zp (wsr (oM e (zb h fun y4 hy4 h=>oT (zN (zaZ hy4) hT (s1 e) k4 (fun R H' hR=>?_))))))
 obtain ⟨t5,t6,rfl,rfl⟩:=hR
 refine zb h fun y7 hy7 h=>oT (zA (zkI hy7) hT (s1 e) .nil (oV (za2 e) (rnf (zg h e (fun _ h=>?_) (fun _ h=>?_)))))
 ·refine wsr (oM e (oM e (zb h fun y8 hy8 h=>oT (zN (zaZ hy8) hT (s1 e) k4 (fun R H' hR=>?_)))))
  obtain ⟨t9,t10,rfl,rfl⟩:=hR
  refine zb h fun y11 hy11 h=>oT (zN (zbk hy11) hT (s3 e e e) k4 (fun R H' hR=>?_))
  obtain ⟨t12,t13,rfl,rfl⟩:=hR
  refine rnf (wsr (oA e (rnf (zD (zx (zh (.tmp e .nil) k4 ?_))))))
  cases h
  exact ⟨t12,t13,zM,e,e⟩
 refine wkf (zp (wsr (oM e (oV (zb1 e e) (oM e (zab (jb 32) je .nil h 8 e (fun q14 g14 h=>?_) (fun J15 h hJ15=>?_)))))))
 ·refine rnf (zg h e (fun _ h=>?_) (fun _ h=>?_))
  ·refine wsr (oM e (oM e (zb h fun y17 hy17 h=>oT (zN (zaZ hy17) hT (s1 e) k4 (fun R H' hR=>?_)))))
   obtain ⟨t18,t19,rfl,rfl⟩:=hR
   refine zb h fun y20 hy20 h=>oT (zN (zbk hy20) hT (s3 e e e) k4 (fun R H' hR=>?_))
   obtain ⟨t21,t22,rfl,rfl⟩:=hR
   refine rnf (wsr (oA e (rnf (zD (zx (zh (.tmp e .nil) k4 ?_))))))
   cases h
   exact ⟨t21,t22,zM,e,e⟩
  refine wkf (wsr (oM e (oV (zw e) (oV (zY e zcf zc9) (oV (zY e zgU zgq) (oT (zH (R:=vecv zM (y4.2.m.nodes.length)) ty71 e .here isvV1 (oV (zh9 sl71 e) (oA e ?_)))))))))
  refine rnf (wsr (oM e (oM e (oV (zw e) (oV (zY e zcf zc9) (oV (zY e zgU zgq) (oT (zH (R:=vecv zM (y4.2.m.nodes.length)) ty71 e .here isvV1 (oV (zar (z:=(GNode.mk (0:Int) (Str.mk []) (GMark.mk false (0:Int) (0:Int)) (GCon.mk false false false false (0:Int) (0:Int)) ([]:(List GItem)) ([]:(List GFld)) (0:Int) false (0:Int))) e bu167 ze167 .nil) ?_)))))))))
  refine oT (zZ (l:=([(GNode.mk (0:Int) (Str.mk []) (GMark.mk false (0:Int) (0:Int)) (GCon.mk false false false false (0:Int) (0:Int)) ([]:(List GItem)) ([]:(List GFld)) (0:Int) false (0:Int))]:(List GNode))) el71 (.cons e hI .nil) e e (zaf h fun q25 h=>oT (zim (m:=([(GNode.mk (0:Int) (Str.mk []) (GMark.mk false (0:Int) (0:Int)) (GCon.mk false false false false (0:Int) (0:Int)) ([]:(List GItem)) ([]:(List GFld)) (0:Int) false (0:Int))]:(List GNode))) zpc e e zQ (.there tI) (by first | rfl | simp) q25 fun v24=>?_)))
  refine oV (zw e) (oV (zY e zcf zc9) (oV (zY e zgU zgq) (oT (zo (y':=((y4.2.l,y4.2.at_,(y4.2.m.name,y4.2.m.tagging,(TList.mk t5 y4.2.m.names),(TList.mk t6 y4.2.m.types),(Vh.mk v24 (y4.2.m.nodes ++ ([(GNode.mk (0:Int) (Str.mk []) (GMark.mk false (0:Int) (0:Int)) (GCon.mk false false false false (0:Int) (0:Int)) ([]:(List GItem)) ([]:(List GFld)) (0:Int) false (0:Int))]:(List GNode))).length)),y4.2.e,y4.2.p):((List GTok) × Int × (Str × Int × (TList Str) × (TList Int) × Vh) × Int × Int))) ty71 e e isvV2 tH e (rnf (wsr (oV (zar (z:=(((0:Int),(Str.mk []),(GMark.mk false (0:Int) (0:Int)),(GCon.mk false false false false (0:Int) (0:Int)),(TList.mk none ([]:(List GItem))),(TList.mk none ([]:(List GFld))),(0:Int),false,(0:Int)):(Int × Str × GMark × GCon × (TList GItem) × (TList GFld) × Int × Bool × Int))) e bu167 zmW .nil) (oT (zag _ zmW fun b26=>zaj (zbh) ?_)))))))))
  refine zaj (zbh) (zaj (zbh) (zaj (zbh) (oT (zo (y':=(((0:Int),(Str.mk []),(GMark.mk false (0:Int) (0:Int)),(GCon.mk false false false false (0:Int) (0:Int)),(TList.mk none ([]:(List GItem))),(TList.mk none ([]:(List GFld))),(0:Int),false,(0:Int)):(Int × Str × GMark × GCon × (TList GItem) × (TList GFld) × Int × Bool × Int))) ty167 e e hI (.there (.there tI)) e (rnf (zp (wsr (oM e (zb h fun y31 hy31 h=>?_)))))))))
  refine oT (zN (zS hy31) hT (s2 e e) (.cons (.there (.there (.there tI))) (.cons (.there (.there (.there (.there tI)))) (.cons (.there (.there (.there (.there tI)))) (.cons (.there (.there (.there tI))) .nil)))) (fun R H' hR=>?_))
  obtain ⟨t32,t33,rfl,rfl⟩:=hR
  refine rnf (zdF (ι:=GPar × GNode) (γ:=Tok × Tok × Tok × Tok) (fun q34 g34=>[]) (fun q34 g34=>[boxE zJ ((q34.1.l,q34.1.at_,(q34.1.m.name,q34.1.m.tagging,(TList.mk g34.1 q34.1.m.names),(TList.mk g34.2.1 q34.1.m.types),(Vh.mk v24 q34.1.m.nodes.length)),q34.1.e,q34.1.p):((List GTok) × Int × (Str × Int × (TList Str) × (TList Int) × Vh) × Int × Int)),tokE g34.1,tokE g34.2.1,vecE v24 (q34.1.m.nodes:List GNode),boxE b26 ((q34.2.kind,q34.2.name,q34.2.mark,q34.2.con,(TList.mk g34.2.2.1 q34.2.items),(TList.mk g34.2.2.2 q34.2.fields),q34.2.root,q34.2.more,q34.2.of):(Int × Str × GMark × GCon × (TList GItem) × (TList GFld) × Int × Bool × Int)),tokE g34.2.2.1,tokE g34.2.2.2]) (.cons .here (.cons (.there tI) (.cons .here k4))) h (fun q34 g34 h=>?_) (fun J35 h hJ35=>?_))
  ·refine wsr (oM e (oM e (zb h fun y63 hy63 h=>oT (zN (zda hy63) hT (s3 e e e) (.cons .here (.cons .here (.cons .here k4))) (fun R H' hR=>?_)))))
   obtain ⟨t64,t65,v66,t67,t68,rfl,rfl⟩:=hR
   refine rnf (zp (wsr (oM e (oV (zw e) (oV (zY e zbD zcv) (oT (zH (R:=isv (y63.1.e)) ty65 e .here hI (oV (zbo e e) (rnf ?_)))))))))
   refine zg h e (fun _ h=>?_) (fun _ h=>?_)
   ·refine wsr (oA e (rnf (zD (zx (zh (.tmp e .nil) k4 ?_)))))
    cases h
    exact ⟨t64,t65,v66,e,e⟩
   refine wkf (zp (zdh 6 (.there (.there tI)) e (fun o69 hn70=>zdh 0 .here e (fun o71 hn72=>zae (.v 0 (.v 1 (.v 2 (.v 3 (.v 4 (.v 5 (.v 6 (.v 7 (.t 8 .nil))))))))) moOrd (by kernel_rfl) ?_))))
   refine rvm e e (zC e (zbJ e) (zC e (zf0 e zcf zc9) (zC e (zf0 e zgU zgq) (zC e (zdx (R:=vecv v66 (y63.1.m.nodes.length)) ty71 e (List.Mem.head _) isvV1) (rvm e e (zC e (zdx (R:=isv (((y63.2.kind,y63.2.name,y63.2.mark,y63.2.con,(TList.mk t67 y63.2.items),(TList.mk t68 y63.2.fields),y63.2.root,y63.2.more,y63.2.of)):((Int × Str × GMark × GCon × (TList GItem) × (TList GFld) × Int × Bool × Int)))) ty167 e (List.Mem.tail _ (List.Mem.head _)) hI) (zfi (zbW (R':=isv (y63.2)) 105 e (Cv.isv e fun S=>(fun cs h=>GNode.cv (x:=y63.2) cs (((Cv.pair Cv.id (Cv.pair Cv.id (Cv.pair Cv.id (Cv.pair Cv.id (Cv.pair Cv.tl (Cv.pair Cv.tl (Cv.pair Cv.id (Cv.pair Cv.id Cv.id)))))))):Cv S ((y63.2.kind,y63.2.name,y63.2.mark,y63.2.con,(TList.mk t67 y63.2.items),(TList.mk t68 y63.2.fields),y63.2.root,y63.2.more,y63.2.of):(Int × Str × GMark × GCon × (TList GItem) × (TList GFld) × Int × Bool × Int)) (GNode.to y63.2)) cs h)))) (zak h fun q73 h=>?_))))))))
   refine zC e (zcu (α:=GNode) sl71 e e q73.1 q73.2) (zb h fun y74 hy74 h=>zaK e e (zeO ty167 e e tI hy74 (zaA (za7 0 hn72 e (zpg (zhA (y:=((y63.1.l,y63.1.at_,(y63.1.m.name,y63.1.m.tagging,(TList.mk t64 y63.1.m.names),(TList.mk t65 y63.1.m.types),(Vh.mk v66 (y63.1.m.nodes.set (((y4.2.m.nodes.length:Nat):Int).toNat) y63.2).length)),y63.1.e,y63.1.p):((List GTok) × Int × (Str × Int × (TList Str) × (TList Int) × Vh) × Int × Int))) .here (fun S=>(Cv.pair Cv.id (Cv.pair Cv.id (Cv.pair (Cv.pair Cv.id (Cv.pair Cv.id (Cv.pair Cv.id (Cv.pair Cv.id (Cv.vhe (by first | rfl | simp)))))) (Cv.pair Cv.id Cv.id)))))) ?_)))))
   refine za7 6 hn70 e (zE (wsr (oM e (oA e (rnf (zD (zh (.tmp e .nil) (.cons tH (.cons tI (.cons tI (.cons tH .nil)))) ?_)))))))
   cases h
   exact ⟨t64,t65,v66,e,e⟩
  refine zg h e (fun _ h=>?_) (fun _ h=>?_)
  ·refine wsr (oM e (zb h fun y36 hy36 h=>oT (zN (zaZ hy36) hT (s1 e) k4 (fun R H' hR=>?_))))
   obtain ⟨t37,t38,rfl,rfl⟩:=hR
   refine oT (zag _ ze133 fun b39=>oT (zo (y':=(y36.1:GTok)) ty133 e e hI .here e (zaj (zaQ 7 .here e) (rnf (wsr (oM e (zb h fun y40 hy40 h=>oT (zN (zcH hy40) hT (s1 e) k4 (fun R H' hR=>?_)))))))))
   obtain ⟨t41,t42,rfl,rfl⟩:=hR
   refine oA e (rnf (zp (wsr (oM e (oV (zw e) (oV (zY e zbD zcv) (oT (zH (R:=isv (y40.2.e)) ty65 e .here hI (oV (zaa e e) ?_)))))))))
   refine oM e (zab (jb 74) je .nil h 7 e (fun q43 g43 h=>?_) (fun J44 h hJ44=>?_))
   ·refine rnf (zdF (ι:=GPar) (γ:=Tok × Tok) (fun q49 g49=>[]) (fun q49 g49=>[boxE zJ ((q49.l,q49.at_,(q49.m.name,q49.m.tagging,(TList.mk g49.1 q49.m.names),(TList.mk g49.2 q49.m.types),(Vh.mk v24 q49.m.nodes.length)),q49.e,q49.p):((List GTok) × Int × (Str × Int × (TList Str) × (TList Int) × Vh) × Int × Int)),tokE g49.1,tokE g49.2,vecE v24 (q49.m.nodes:List GNode)]) k4 h (fun q49 g49 h=>?_) (fun J50 h hJ50=>?_))
    ·refine wsr (oM e (zb h fun y54 hy54 h=>oT (zN (zac hy54) hT (s2 e e) k4 (fun R H' hR=>?_))))
     obtain ⟨t55,t56,rfl,rfl⟩:=hR
     refine rnf (wsr (oM e (oV (zar (z:=(GMark.mk true y40.1 (0:Int))) e bu165 ze165 (.cons GMark.f0 zk8 e hI (.cons GMark.f1 zmV e hI .nil))) (oV (zY e ziT zfF) (oT (zo (y':=(((0:Int),(Str.mk []),(GMark.mk true y40.1 (0:Int)),(GCon.mk false false false false (0:Int) (0:Int)),(TList.mk none ([]:(List GItem))),(TList.mk none ([]:(List GFld))),(0:Int),false,(0:Int)):(Int × Str × GMark × GCon × (TList GItem) × (TList GFld) × Int × Bool × Int))) ty165 e e hI (.there (.there tI)) e (rnf (wsr (oM e ?_)))))))))
     refine zb h fun y57 hy57 h=>oT (zN (zS hy57) hT (s2 e e) (.cons tH (.cons tH (.cons tH (.cons tH .nil)))) (fun R H' hR=>?_))
     obtain ⟨t58,t59,rfl,rfl⟩:=hR
     refine rnf (zg h e (fun _ h=>?_) (fun _ h=>?_))
     ·exact zt (oV (zY e ziT zfF) (oV (zY e GMark.f2 zjo) (oT (zo (y':=(((0:Int),(Str.mk []),(GMark.mk true y40.1 (1:Int)),(GCon.mk false false false false (0:Int) (0:Int)),(TList.mk none ([]:(List GItem))),(TList.mk none ([]:(List GFld))),(0:Int),false,(0:Int)):(Int × Str × GMark × GCon × (TList GItem) × (TList GFld) × Int × Bool × Int))) ty3 e e hI (.there (.there tI)) e (zF (hJ35 _ (t58,t59,none,none) h _ (zf 23 e e ze (.cons tH (.cons tH (.cons tH (.cons tH (.cons .here (.cons tH k3)))))))))))))
     refine wsr (oM e (zb h fun y60 hy60 h=>oT (zN (zS hy60) hT (s2 e e) k4 (fun R H' hR=>?_))))
     obtain ⟨t61,t62,rfl,rfl⟩:=hR
     refine rnf (zg h e (fun _ h=>?_) (fun _ h=>?_))
     ·exact zt (oV (zY e ziT zfF) (oV (zY e GMark.f2 zjo) (oT (zo (y':=(((0:Int),(Str.mk []),(GMark.mk true y40.1 (2:Int)),(GCon.mk false false false false (0:Int) (0:Int)),(TList.mk none ([]:(List GItem))),(TList.mk none ([]:(List GFld))),(0:Int),false,(0:Int)):(Int × Str × GMark × GCon × (TList GItem) × (TList GFld) × Int × Bool × Int))) ty3 e e hI (.there (.there tI)) e (zF (hJ35 _ (t61,t62,none,none) h _ (zf 25 e e ze (.cons tH (.cons tH (.cons tH (.cons tH (.cons .here (.cons tH k3)))))))))))))
     exact z6 (hJ35 _ (t61,t62,none,none) h _ (zf 23 e e ze (.cons .here (.cons .here (.cons .here (.cons .here (.cons .here (.cons tH k3))))))))
    refine zg h e (fun _ h=>?_) (fun _ h=>?_)
    ·refine zt (oM e (oV (zd ty133 e) (zb h fun y51 hy51 h=>oT (zN (zbk hy51) hT (s3 e e e) k4 (fun R H' hR=>?_)))))
     obtain ⟨t52,t53,rfl,rfl⟩:=hR
     exact zF (hJ50 _ (t52,t53) h _ (zf 3 e e ze (.cons .here (.cons .here (.cons .here (.cons .here (.cons .here k4)))))))
    exact z6 (hJ50 _ (t41,t42) h _ (zf 0 e e ze (.cons .here (.cons .here (.cons .here (.cons .here (.cons .here k4)))))))
   refine zn (j:=67) h e (fun g45 h=>?_) (fun g45 h=>?_)
   ·refine oK 67 e e e g45 (zs e) (oK 67 e e e g45 (zay e e) (oK 67 e e e g45 (zs e) (zab (jb 73) je .nil h 3 e (fun q46 g46 h=>?_) (fun J47 h hJ47=>?_))))
    ·exact oV (zi e g45 e) (hJ44 _ () h _ (zf 5 e e (za (j:=74) e hI ze) (.cons .here (.cons .here (.cons .here (.cons .here (.cons .here k4)))))))
    refine zn (j:=70) h e (fun g48 h=>?_) (fun g48 h=>?_)
    ·exact oP 70 e e g48 (oP 70 e e g48 (oK 67 e e e g45 (zi e g48 e) (hJ47 _ () h _ (zf 3 e e (za (j:=73) e hI ze) (.cons .here (.cons .here (.cons .here (.cons .here (.cons .here k4)))))))))
    exact oK 70 e e e g48 (zs e) (oK 70 e e e g48 (zb1 e e) (oK 67 e e e g45 (zj e g48 e) (hJ47 _ () h _ (zf 3 e e (za (j:=73) e hI ze) (.cons .here (.cons .here (.cons .here (.cons .here (.cons .here k4)))))))))
   exact oP 67 e e g45 (oP 67 e e g45 (oP 67 e e g45 (zk e (dj:=70) e (zk e (dj:=70) e (oP 67 e e g45 (oV (zj e g45 e) (hJ44 _ () h _ (zf 7 e e (za (j:=74) e hI ze) (.cons .here (.cons .here (.cons .here (.cons .here (.cons .here k4)))))))))))))
  exact z6 (hJ35 _ (t32,t33,none,none) h _ (zf 0 e e ze (.cons .here (.cons .here (.cons .here (.cons .here (.cons .here (.cons tH k3))))))))
 refine zn (j:=24) h e (fun g16 h=>?_) (fun g16 h=>?_)
 ·exact oP 24 e e g16 (oP 24 e e g16 (oP 24 e e g16 (oP 24 e e g16 (oP 24 e e g16 (oP 24 e e g16 (oP 24 e e g16 (oV (zi e g16 e) (hJ15 _ () h _ (zf 8 e e (za (j:=32) e hI ze) k4)))))))))
 exact oK 24 e e e g16 (zs e) (oK 24 e e e g16 (zw e) (oK 24 e e e g16 (zY e zcf zc9) (oK 24 e e e g16 (zY e zgU zgq) (zai e e (dj:=24) e g16 (zH (R:=vecv zM (y4.2.m.nodes.length)) ty71 e .here isvV1 (oK 24 e e e g16 (zh9 sl71 e) (oK 24 e e e g16 (zcR e e) (oV (zj e g16 e) (hJ15 _ () h _ (zf 8 e e (za (j:=32) e hI ze) k4))))))))))

theorem zib {zau:GPar→GNode→Int→Int→Option (GPar × GNode)} {zaE:GPar→Int→Option (Int × GPar)} {zaD:GPar→GNode→Int→Option (GPar × GNode)} {zap:GPar→GNode→Int→Option (GPar × GNode)} (zcn:zcq zau) (zcJ:zcm zaE) (zda:zcD zaD) (zbX:zcg zap):∀ {a_x:GPar} {a_n_:GNode} {zG:Int} {zJ:Nat} {t_a_x1:Tok} {t_a_x2:Tok} {zM:Vt} {zbc:Nat} {t_a_n_4:Tok} {t_a_n_5:Tok} {r:GPar × GNode},za9 zau zaE zaD zap a_x a_n_ zG=some r→Ctr Tryz.prog 107 [ptrv zJ (Fld.id ((List GTok) × Int × (Str × Int × (TList Str) × (TList Int) × Vh) × Int × Int)),ptrv zbc (Fld.id (Int × Str × GMark × GCon × (TList GItem) × (TList GFld) × Int × Bool × Int)),isv (zG)] [boxE zJ ((a_x.l,a_x.at_,(a_x.m.name,a_x.m.tagging,(TList.mk t_a_x1 a_x.m.names),(TList.mk t_a_x2 a_x.m.types),(Vh.mk zM a_x.m.nodes.length)),a_x.e,a_x.p):((List GTok) × Int × (Str × Int × (TList Str) × (TList Int) × Vh) × Int × Int)),tokE t_a_x1,tokE t_a_x2,vecE zM (a_x.m.nodes:List GNode),boxE zbc ((a_n_.kind,a_n_.name,a_n_.mark,a_n_.con,(TList.mk t_a_n_4 a_n_.items),(TList.mk t_a_n_5 a_n_.fields),a_n_.root,a_n_.more,a_n_.of):(Int × Str × GMark × GCon × (TList GItem) × (TList GFld) × Int × Bool × Int)),tokE t_a_n_4,tokE t_a_n_5] (fun R H=>∃ u1:Tok,∃ u2:Tok,∃ u3:Vt,∃ u4:Tok,∃ u5:Tok,R=oneOf []∧H=[boxE zJ ((r.1.l,r.1.at_,(r.1.m.name,r.1.m.tagging,(TList.mk u1 r.1.m.names),(TList.mk u2 r.1.m.types),(Vh.mk u3 r.1.m.nodes.length)),r.1.e,r.1.p)),tokE u1,tokE u2,vecE u3 (r.1.m.nodes),boxE zbc ((r.2.kind,r.2.name,r.2.mark,r.2.con,(TList.mk u4 r.2.items),(TList.mk u5 r.2.fields),r.2.root,r.2.more,r.2.of)),tokE u4,tokE u5]):=by
 intro a_x a_n_ zG zJ t_a_x1 t_a_x2 zM zbc t_a_n_4 t_a_n_5 r h
 unfold za9 at h
 refine zr Tryz.func107 e fun w0 S0 hT=>wsr (oM e (zb h fun y6 hy6 h=>oT (zN (zaZ hy6) hT (s1 e) k4 (fun R H' hR=>?_))))
 obtain ⟨t7,t8,rfl,rfl⟩:=hR
 refine oT (zag _ ze133 fun b9=>oT (zo (y':=(y6.1:GTok)) ty133 e e hI .here e (zaj (zaQ 6 .here e) (rnf (zB (wsr (oM e (oV (zw e) (oV (zY e zbD zcv) ?_)))))))))
 refine oT (zH (R:=isv (y6.2.e)) ty65 e .here hI (oV (zbo e e) (oA e (rnf (zg h e (fun _ h=>?_) (fun _ h=>?_))))))
 ·refine z6 (zq (zaP .nil (.cons .here (.cons .here (.cons .here k4))) ?_))
  cases h
  exact ⟨t7,t8,zM,t_a_n_4,t_a_n_5,e,e⟩
 refine wsr (oM e (zb h fun y10 hy10 h=>oT (zN (zS hy10) hT (s2 e e) k4 (fun R H' hR=>?_))))
 obtain ⟨t11,t12,rfl,rfl⟩:=hR
 refine oA e (rnf (zg h e (fun _ h=>?_) (fun _ h=>?_)))
 ·refine zt (oM e (oV (zw e) (oV (zY e zcA zb0) (oT (zo (y':=(((1:Int),a_n_.name,a_n_.mark,a_n_.con,(TList.mk t_a_n_4 a_n_.items),(TList.mk t_a_n_5 a_n_.fields),a_n_.root,a_n_.more,a_n_.of):(Int × Str × GMark × GCon × (TList GItem) × (TList GFld) × Int × Bool × Int))) ty3 e e hI (.there (.there tI)) e (zF (zq (zaP .nil (.cons tH (.cons tH (.cons tH (.cons tH k3)))) ?_))))))))
  cases h
  exact ⟨t11,t12,zM,t_a_n_4,t_a_n_5,e,e⟩
 refine wsr (oM e (zb h fun y13 hy13 h=>oT (zN (zS hy13) hT (s2 e e) k4 (fun R H' hR=>?_))))
 obtain ⟨t14,t15,rfl,rfl⟩:=hR
 refine oA e (rnf (zg h e (fun _ h=>?_) (fun _ h=>?_)))
 ·refine zt (oM e (oV (zw e) (oV (zY e zcA zb0) (oT (zo (y':=(((4:Int),a_n_.name,a_n_.mark,a_n_.con,(TList.mk t_a_n_4 a_n_.items),(TList.mk t_a_n_5 a_n_.fields),a_n_.root,a_n_.more,a_n_.of):(Int × Str × GMark × GCon × (TList GItem) × (TList GFld) × Int × Bool × Int))) ty3 e e hI (.there (.there tI)) e (zF (zq (zaP .nil (.cons tH (.cons tH (.cons tH (.cons tH k3)))) ?_))))))))
  cases h
  exact ⟨t14,t15,zM,t_a_n_4,t_a_n_5,e,e⟩
 refine wsr (oM e (zb h fun y16 hy16 h=>oT (zN (zS hy16) hT (s2 e e) k4 (fun R H' hR=>?_))))
 obtain ⟨t17,t18,rfl,rfl⟩:=hR
 refine oA e (rnf (zg h e (fun _ h=>?_) (fun _ h=>?_)))
 ·refine wsr (oM e (oV (zw e) (oV (zY e zcA zb0) (oT (zo (y':=(((6:Int),a_n_.name,a_n_.mark,a_n_.con,(TList.mk t_a_n_4 a_n_.items),(TList.mk t_a_n_5 a_n_.fields),a_n_.root,a_n_.more,a_n_.of):(Int × Str × GMark × GCon × (TList GItem) × (TList GFld) × Int × Bool × Int))) ty3 e e hI (.there (.there tI)) e (rnf (zt (oM e (oM e ?_)))))))))
  refine zb h fun y19 hy19 h=>oT (zN (zep hy19) hT (s1 e) (.cons tH (.cons tH (.cons tH (.cons tH .nil)))) (fun R H' hR=>?_))
  obtain ⟨t20,t21,rfl,rfl⟩:=hR
  refine oV (zw e) (oV (zY e zhz zhq) (oT (zo (y':=(((6:Int),a_n_.name,a_n_.mark,y19.1,(TList.mk t_a_n_4 a_n_.items),(TList.mk t_a_n_5 a_n_.fields),a_n_.root,a_n_.more,a_n_.of):(Int × Str × GMark × GCon × (TList GItem) × (TList GFld) × Int × Bool × Int))) ty83 e e hI (.there (.there tI)) e (zF (zq (zaP .nil (.cons tH (.cons tH (.cons tH (.cons tH k3)))) ?_))))))
  cases h
  exact ⟨t20,t21,zM,t_a_n_4,t_a_n_5,e,e⟩
 refine wsr (oM e (zb h fun y22 hy22 h=>oT (zN (zS hy22) hT (s2 e e) k4 (fun R H' hR=>?_))))
 obtain ⟨t23,t24,rfl,rfl⟩:=hR
 refine oA e (rnf (zg h e (fun _ h=>?_) (fun _ h=>?_)))
 ·refine wsr (oM e (oV (zw e) (oV (zY e zcA zb0) (oT (zo (y':=(((2:Int),a_n_.name,a_n_.mark,a_n_.con,(TList.mk t_a_n_4 a_n_.items),(TList.mk t_a_n_5 a_n_.fields),a_n_.root,a_n_.more,a_n_.of):(Int × Str × GMark × GCon × (TList GItem) × (TList GFld) × Int × Bool × Int))) ty3 e e hI (.there (.there tI)) e (rnf (wsr (oM e (zb h fun y25 hy25 h=>?_)))))))))
  refine oT (zN (zS hy25) hT (s2 e e) (.cons tH (.cons tH (.cons tH (.cons tH .nil)))) (fun R H' hR=>?_))
  obtain ⟨t26,t27,rfl,rfl⟩:=hR
  refine rnf (zg h e (fun _ h=>?_) (fun _ h=>?_))
  ·refine wsr (oM e (oM e (zb h fun y28 hy28 h=>oT (zN (ze1 hy28) hT (s1 e) k4 (fun R H' hR=>?_)))))
   obtain ⟨t29,t30,rfl,rfl⟩:=hR
   refine oV (zw e) (oV (zY e zhz zhq) (oT (zo (y':=(((2:Int),a_n_.name,a_n_.mark,y28.1,(TList.mk t_a_n_4 a_n_.items),(TList.mk t_a_n_5 a_n_.fields),a_n_.root,a_n_.more,a_n_.of):(Int × Str × GMark × GCon × (TList GItem) × (TList GFld) × Int × Bool × Int))) ty83 e e hI (.there (.there tI)) e (rnf (zt (oM e (zb h fun y31 hy31 h=>oT (zN (zac hy31) hT (s2 e e) (.cons tH (.cons tH (.cons tH (.cons tH .nil)))) (fun R H' hR=>?_)))))))))
   obtain ⟨t32,t33,rfl,rfl⟩:=hR
   refine zF (zq (zaP .nil (.cons .here (.cons .here (.cons .here k4))) ?_))
   cases h
   exact ⟨t32,t33,zM,t_a_n_4,t_a_n_5,e,e⟩
  refine z6 (zq (zaP .nil (.cons .here (.cons .here (.cons .here k4))) ?_))
  cases h
  exact ⟨t26,t27,zM,t_a_n_4,t_a_n_5,e,e⟩
 refine wsr (oM e (zb h fun y34 hy34 h=>oT (zN (zS hy34) hT (s2 e e) k4 (fun R H' hR=>?_))))
 obtain ⟨t35,t36,rfl,rfl⟩:=hR
 refine oA e (rnf (zg h e (fun _ h=>?_) (fun _ h=>?_)))
 ·refine wsr (oM e (zb h fun y37 hy37 h=>oT (zN (zac hy37) hT (s2 e e) k4 (fun R H' hR=>?_))))
  obtain ⟨t38,t39,rfl,rfl⟩:=hR
  refine rnf (wsr (oM e (oV (zw e) (oV (zY e zcA zb0) (oT (zo (y':=(((5:Int),a_n_.name,a_n_.mark,a_n_.con,(TList.mk t_a_n_4 a_n_.items),(TList.mk t_a_n_5 a_n_.fields),a_n_.root,a_n_.more,a_n_.of):(Int × Str × GMark × GCon × (TList GItem) × (TList GFld) × Int × Bool × Int))) ty3 e e hI (.there (.there tI)) e (rnf (zt (oM e ?_)))))))))
  refine oM e (zb h fun y40 hy40 h=>oT (zN (zep hy40) hT (s1 e) (.cons tH (.cons tH (.cons tH (.cons tH .nil)))) (fun R H' hR=>?_)))
  obtain ⟨t41,t42,rfl,rfl⟩:=hR
  refine oV (zw e) (oV (zY e zhz zhq) (oT (zo (y':=(((5:Int),a_n_.name,a_n_.mark,y40.1,(TList.mk t_a_n_4 a_n_.items),(TList.mk t_a_n_5 a_n_.fields),a_n_.root,a_n_.more,a_n_.of):(Int × Str × GMark × GCon × (TList GItem) × (TList GFld) × Int × Bool × Int))) ty83 e e hI (.there (.there tI)) e (zF (zq (zaP .nil (.cons tH (.cons tH (.cons tH (.cons tH k3)))) ?_))))))
  cases h
  exact ⟨t41,t42,zM,t_a_n_4,t_a_n_5,e,e⟩
 refine wsr (oM e (zb h fun y43 hy43 h=>oT (zN (zS hy43) hT (s2 e e) k4 (fun R H' hR=>?_))))
 obtain ⟨t44,t45,rfl,rfl⟩:=hR
 refine oA e (rnf (zg h e (fun _ h=>?_) (fun _ h=>?_)))
 ·refine wsr (oM e (oV (zw e) (oV (zY e zcA zb0) (oT (zo (y':=(((3:Int),a_n_.name,a_n_.mark,a_n_.con,(TList.mk t_a_n_4 a_n_.items),(TList.mk t_a_n_5 a_n_.fields),a_n_.root,a_n_.more,a_n_.of):(Int × Str × GMark × GCon × (TList GItem) × (TList GFld) × Int × Bool × Int))) ty3 e e hI (.there (.there tI)) e (rnf (wsr (oM e (zb h fun y46 hy46 h=>?_)))))))))
  refine oT (zN (zac hy46) hT (s2 e e) (.cons tH (.cons tH (.cons tH (.cons tH .nil)))) (fun R H' hR=>?_))
  obtain ⟨t47,t48,rfl,rfl⟩:=hR
  refine rnf (wsr (oM e (oM e (zb h fun y49 hy49 h=>oT (zN (zh6 hy49) hT (s2 e e) (.cons .here (.cons .here (.cons .here k4))) (fun R H' hR=>?_))))))
  obtain ⟨t50,t51,t52,t53,rfl,rfl⟩:=hR
  refine rnf (zt (oM e (zb h fun y54 hy54 h=>oT (zN (zac hy54) hT (s2 e e) k4 (fun R H' hR=>?_)))))
  obtain ⟨t55,t56,rfl,rfl⟩:=hR
  refine zF (zq (zaP .nil (.cons .here (.cons .here (.cons .here k4))) ?_))
  cases h
  exact ⟨t55,t56,zM,t52,t53,e,e⟩
 refine wsr (oM e (zb h fun y57 hy57 h=>oT (zN (zS hy57) hT (s2 e e) k4 (fun R H' hR=>?_))))
 obtain ⟨t58,t59,rfl,rfl⟩:=hR
 refine oA e (rnf (zg h e (fun _ h=>?_) (fun _ h=>?_)))
 ·refine wsr (oM e (oV (zw e) (oV (zY e zcA zb0) (oT (zo (y':=(((8:Int),a_n_.name,a_n_.mark,a_n_.con,(TList.mk t_a_n_4 a_n_.items),(TList.mk t_a_n_5 a_n_.fields),a_n_.root,a_n_.more,a_n_.of):(Int × Str × GMark × GCon × (TList GItem) × (TList GFld) × Int × Bool × Int))) ty3 e e hI (.there (.there tI)) e (rnf (wsr (oM e (zb h fun y60 hy60 h=>?_)))))))))
  refine oT (zN (zac hy60) hT (s2 e e) (.cons tH (.cons tH (.cons tH (.cons tH .nil)))) (fun R H' hR=>?_))
  obtain ⟨t61,t62,rfl,rfl⟩:=hR
  refine rnf (zt (oM e (oM e (oM e (zb h fun y63 hy63 h=>oT (zN (zbX hy63) hT (s3 e e e) (.cons .here (.cons .here (.cons .here k4))) (fun R H' hR=>?_)))))))
  obtain ⟨t64,t65,v66,t67,t68,rfl,rfl⟩:=hR
  refine zF (zq (zaP .nil (.cons .here (.cons .here (.cons .here k4))) ?_))
  cases h
  exact ⟨t64,t65,v66,t67,t68,e,e⟩
 refine wsr (oM e (zb h fun y69 hy69 h=>oT (zN (zS hy69) hT (s2 e e) k4 (fun R H' hR=>?_))))
 obtain ⟨t70,t71,rfl,rfl⟩:=hR
 refine oA e (rnf (zg h e (fun _ h=>?_) (fun _ h=>?_)))
 ·refine wsr (oM e (oV (zw e) (oV (zY e zcA zb0) (oT (zo (y':=(((9:Int),a_n_.name,a_n_.mark,a_n_.con,(TList.mk t_a_n_4 a_n_.items),(TList.mk t_a_n_5 a_n_.fields),a_n_.root,a_n_.more,a_n_.of):(Int × Str × GMark × GCon × (TList GItem) × (TList GFld) × Int × Bool × Int))) ty3 e e hI (.there (.there tI)) e (rnf (wsr (oM e (zb h fun y72 hy72 h=>?_)))))))))
  refine oT (zN (zac hy72) hT (s2 e e) (.cons tH (.cons tH (.cons tH (.cons tH .nil)))) (fun R H' hR=>?_))
  obtain ⟨t73,t74,rfl,rfl⟩:=hR
  refine rnf (zt (oM e (oM e (oM e (zb h fun y75 hy75 h=>oT (zN (zbX hy75) hT (s3 e e e) (.cons .here (.cons .here (.cons .here k4))) (fun R H' hR=>?_)))))))
  obtain ⟨t76,t77,v78,t79,t80,rfl,rfl⟩:=hR
  refine zF (zq (zaP .nil (.cons .here (.cons .here (.cons .here k4))) ?_))
  cases h
  exact ⟨t76,t77,v78,t79,t80,e,e⟩
 refine wsr (oM e (zb h fun y81 hy81 h=>oT (zN (zS hy81) hT (s2 e e) k4 (fun R H' hR=>?_))))
 obtain ⟨t82,t83,rfl,rfl⟩:=hR
 refine oA e (rnf (zg h e (fun _ h=>?_) (fun _ h=>?_)))
 ·refine zp (wsr (oM e (zb h fun y84 hy84 h=>oT (zN (zS hy84) hT (s2 e e) k4 (fun R H' hR=>?_)))))
  obtain ⟨t85,t86,rfl,rfl⟩:=hR
  refine rnf (zg h e (fun _ h=>?_) (fun _ h=>?_))
  ·refine wsr (oM e (oV (zw e) (oV (zY e zcA zb0) (oT (zo (y':=(((7:Int),a_n_.name,a_n_.mark,a_n_.con,(TList.mk t_a_n_4 a_n_.items),(TList.mk t_a_n_5 a_n_.fields),a_n_.root,a_n_.more,a_n_.of):(Int × Str × GMark × GCon × (TList GItem) × (TList GFld) × Int × Bool × Int))) ty3 e e hI (.there (.there tI)) e (rnf (wsr (oM e (oM e ?_)))))))))
   refine oM e (zb h fun y87 hy87 h=>oT (zN (zbX hy87) hT (s3 e e e) (.cons tH (.cons tH (.cons tH (.cons tH k3)))) (fun R H' hR=>?_)))
   obtain ⟨t88,t89,v90,t91,t92,rfl,rfl⟩:=hR
   refine rnf (zD (zx (zz (zh .nil (.cons .here (.cons .here (.cons .here k4))) ?_))))
   cases h
   exact ⟨t88,t89,v90,t91,t92,e,e⟩
  refine wkf (wsr (oM e (oV (zw e) (oV (zY e zcA zb0) (oT (zo (y':=(((10:Int),a_n_.name,a_n_.mark,a_n_.con,(TList.mk t_a_n_4 a_n_.items),(TList.mk t_a_n_5 a_n_.fields),a_n_.root,a_n_.more,a_n_.of):(Int × Str × GMark × GCon × (TList GItem) × (TList GFld) × Int × Bool × Int))) ty3 e e hI (.there (.there tI)) e (rnf (wsr (oM e ?_)))))))))
  refine oM e (zb h fun y93 hy93 h=>oT (zN (zep hy93) hT (s1 e) (.cons tH (.cons tH (.cons tH (.cons tH .nil)))) (fun R H' hR=>?_)))
  obtain ⟨t94,t95,rfl,rfl⟩:=hR
  refine oV (zw e) (oV (zY e zhz zhq) (oT (zo (y':=(((10:Int),a_n_.name,a_n_.mark,y93.1,(TList.mk t_a_n_4 a_n_.items),(TList.mk t_a_n_5 a_n_.fields),a_n_.root,a_n_.more,a_n_.of):(Int × Str × GMark × GCon × (TList GItem) × (TList GFld) × Int × Bool × Int))) ty83 e e hI (.there (.there tI)) e (rnf (wsr (oM e (zb h fun y96 hy96 h=>oT (zN (zac hy96) hT (s2 e e) (.cons tH (.cons tH (.cons tH (.cons tH .nil)))) (fun R H' hR=>?_)))))))))
  obtain ⟨t97,t98,rfl,rfl⟩:=hR
  refine rnf (zt (oM e (oM e (oM e (zO h fun q99 h=>oV (zan e e q99) (zb h fun y100 hy100 h=>oT (zN (zcJ hy100) hT (s2 e e) k4 (fun R H' hR=>?_))))))))
  obtain ⟨t101,t102,v103,rfl,rfl⟩:=hR
  refine oV (zw e) (oV (zY e znB zkV) (oT (zo (y':=(((10:Int),a_n_.name,a_n_.mark,y93.1,(TList.mk t_a_n_4 a_n_.items),(TList.mk t_a_n_5 a_n_.fields),a_n_.root,a_n_.more,y100.1):(Int × Str × GMark × GCon × (TList GItem) × (TList GFld) × Int × Bool × Int))) ty3 e e hI (.there (.there tI)) e (zF (zq (zaP .nil (.cons tH (.cons tH (.cons tH (.cons tH k3)))) ?_))))))
  cases h
  exact ⟨t101,t102,v103,t_a_n_4,t_a_n_5,e,e⟩
 refine wsr (oV (zI e GTok.f0 zci e (z:=y6.1.kind)) (oV (zd ty3 e) (oV (zaa e e) (oA e (rnf (zg h e (fun _ h=>?_) (fun _ h=>?_)))))))
 ·refine zp (zae (.v 0 (.v 1 (.v 2 (.v 3 (.v 4 (.v 5 (.t 6 (.v 7 (.v 8 (.t 9 .nil)))))))))) moOrd (by kernel_rfl) ?_)
  refine rvm e e (rvm e e (zC e (zI e GTok.f1 zc8 e (z:=y6.1.text)) (zC e (zd ty9 e) (zC e (zw e) (zC e (zY e zcA zb0) (zaK e e (zo (y':=(((11:Int),a_n_.name,a_n_.mark,a_n_.con,(TList.mk t_a_n_4 a_n_.items),(TList.mk t_a_n_5 a_n_.fields),a_n_.root,a_n_.more,a_n_.of):(Int × Str × GMark × GCon × (TList GItem) × (TList GFld) × Int × Bool × Int))) ty3 e e hI (.there (.there tI)) e (zC e (zw e) (zC e (zY e znp zk6) ?_)))))))))
  refine zaK e e (zo (y':=(((11:Int),y6.1.text,a_n_.mark,a_n_.con,(TList.mk t_a_n_4 a_n_.items),(TList.mk t_a_n_5 a_n_.fields),a_n_.root,a_n_.more,a_n_.of):(Int × Str × GMark × GCon × (TList GItem) × (TList GFld) × Int × Bool × Int))) ty9 e e hI .here e (zaA (zE (zt (oM e (zb h fun y104 hy104 h=>oT (zN (zbT hy104) hT (s1 e) (.cons tH (.cons tH (.cons tH (.cons tH .nil)))) (fun R H' hR=>?_))))))))
  obtain ⟨t105,t106,rfl,rfl⟩:=hR
  refine zF (zq (zaP .nil (.cons .here (.cons .here (.cons .here k4))) ?_))
  cases h
  exact ⟨t105,t106,zM,t_a_n_4,t_a_n_5,e,e⟩
 refine zt (oM e (oV (zd ty133 e) (zb h fun y107 hy107 h=>oT (zN (zbk hy107) hT (s3 e e e) k4 (fun R H' hR=>?_)))))
 obtain ⟨t108,t109,rfl,rfl⟩:=hR
 refine zF (zq (zaP .nil (.cons .here (.cons .here (.cons .here k4))) ?_))
 cases h
 exact ⟨t108,t109,zM,t_a_n_4,t_a_n_5,e,e⟩

theorem zg6 {zau:GPar→GNode→Int→Int→Option (GPar × GNode)} {zaE:GPar→Int→Option (Int × GPar)} {zaD:GPar→GNode→Int→Option (GPar × GNode)} {zap:GPar→GNode→Int→Option (GPar × GNode)} (zcn:zcq zau) (zcJ:zcm zaE) (zda:zcD zaD) (zbX:zcg zap):∀ {a_x:GPar} {a_n_:GNode} {zG:Int} {zJ:Nat} {t_a_x1:Tok} {t_a_x2:Tok} {zM:Vt} {zbc:Nat} {t_a_n_4:Tok} {t_a_n_5:Tok} {r:GPar × GNode},zch zau zaE zaD zap a_x a_n_ zG=some r→Ctr Tryz.prog 149 [ptrv zJ (Fld.id ((List GTok) × Int × (Str × Int × (TList Str) × (TList Int) × Vh) × Int × Int)),ptrv zbc (Fld.id (Int × Str × GMark × GCon × (TList GItem) × (TList GFld) × Int × Bool × Int)),isv (zG)] [boxE zJ ((a_x.l,a_x.at_,(a_x.m.name,a_x.m.tagging,(TList.mk t_a_x1 a_x.m.names),(TList.mk t_a_x2 a_x.m.types),(Vh.mk zM a_x.m.nodes.length)),a_x.e,a_x.p):((List GTok) × Int × (Str × Int × (TList Str) × (TList Int) × Vh) × Int × Int)),tokE t_a_x1,tokE t_a_x2,vecE zM (a_x.m.nodes:List GNode),boxE zbc ((a_n_.kind,a_n_.name,a_n_.mark,a_n_.con,(TList.mk t_a_n_4 a_n_.items),(TList.mk t_a_n_5 a_n_.fields),a_n_.root,a_n_.more,a_n_.of):(Int × Str × GMark × GCon × (TList GItem) × (TList GFld) × Int × Bool × Int)),tokE t_a_n_4,tokE t_a_n_5] (fun R H=>∃ u1:Tok,∃ u2:Tok,∃ u3:Vt,∃ u4:Tok,∃ u5:Tok,R=oneOf []∧H=[boxE zJ ((r.1.l,r.1.at_,(r.1.m.name,r.1.m.tagging,(TList.mk u1 r.1.m.names),(TList.mk u2 r.1.m.types),(Vh.mk u3 r.1.m.nodes.length)),r.1.e,r.1.p)),tokE u1,tokE u2,vecE u3 (r.1.m.nodes),boxE zbc ((r.2.kind,r.2.name,r.2.mark,r.2.con,(TList.mk u4 r.2.items),(TList.mk u5 r.2.fields),r.2.root,r.2.more,r.2.of)),tokE u4,tokE u5]):=by
 intro a_x a_n_ zG zJ t_a_x1 t_a_x2 zM zbc t_a_n_4 t_a_n_5 r h
 unfold zch at h
 refine zr Tryz.func149 e fun w0 S0 hT=>zp (wsr (oM e (zb h fun y6 hy6 h=>oT (zN (zS hy6) hT (s2 e e) k4 (fun R H' hR=>?_)))))
 obtain ⟨t7,t8,rfl,rfl⟩:=hR
 refine rnf (zg h e (fun _ h=>?_) (fun _ h=>?_))
 ·refine zD (zx (zh .nil (.cons .here (.cons .here (.cons .here k4))) ?_))
  cases h
  exact ⟨t7,t8,zM,t_a_n_4,t_a_n_5,e,e⟩
 refine wkf (wsr (oA e (rnf (zp (zdF (ι:=GPar × GNode) (γ:=Tok × Tok × Vt × Tok × Tok) (fun q9 g9=>[(6,anyv)]) (fun q9 g9=>[boxE zJ ((q9.1.l,q9.1.at_,(q9.1.m.name,q9.1.m.tagging,(TList.mk g9.1 q9.1.m.names),(TList.mk g9.2.1 q9.1.m.types),(Vh.mk g9.2.2.1 q9.1.m.nodes.length)),q9.1.e,q9.1.p):((List GTok) × Int × (Str × Int × (TList Str) × (TList Int) × Vh) × Int × Int)),tokE g9.1,tokE g9.2.1,vecE g9.2.2.1 (q9.1.m.nodes:List GNode),boxE zbc ((q9.2.kind,q9.2.name,q9.2.mark,q9.2.con,(TList.mk g9.2.2.2.1 q9.2.items),(TList.mk g9.2.2.2.2 q9.2.fields),q9.2.root,q9.2.more,q9.2.of):(Int × Str × GMark × GCon × (TList GItem) × (TList GFld) × Int × Bool × Int)),tokE g9.2.2.2.1,tokE g9.2.2.2.2]) (.cons .here (.cons (.there tI) (.cons .here k4))) h (fun q9 g9 h=>?_) (fun J10 h hJ10=>?_))))))
 ·refine wsr (oM e (zb h fun y114 hy114 h=>oT (zN (zac hy114) hT (s2 e e) k4 (fun R H' hR=>?_))))
  obtain ⟨t115,t116,rfl,rfl⟩:=hR
  refine rnf (wsr (oM e (oV (zw e) (oV (zY e zeD ze9) (oT (zH (R:=isv (q9.2.more)) ty4 e (.there (.there tI)) hI (oV (za2 e) (rnf (zg h e (fun _ h=>?_) (fun _ h=>?_))))))))))
  ·refine zt (oM e (oM e (oV (zw e) (oV (zY e zfX zdv) (oT (zH (R:=appv g9.2.2.2.2 (q9.2.fields)) ty85 e (.there (.there tI)) isvT1 (oV (zaH (l:=q9.2.fields) e zQ sl85) (oV (zw e) (oV (zY e zhn zfD) ?_)))))))))
   refine oT (zo (y':=((q9.2.kind,q9.2.name,q9.2.mark,q9.2.con,(TList.mk g9.2.2.2.1 q9.2.items),(TList.mk g9.2.2.2.2 q9.2.fields),(q9.2.fields.length:Int),q9.2.more,q9.2.of):(Int × Str × GMark × GCon × (TList GItem) × (TList GFld) × Int × Bool × Int))) ty3 e e hI (.there (.there tI)) e (zF (zaP .nil (.cons tH (.cons tH (.cons tH (.cons tH k3)))) ?_)))
   cases h
   exact ⟨t115,t116,g9.2.2.1,g9.2.2.2.1,g9.2.2.2.2,e,e⟩
  refine z6 (zaP .nil (.cons .here (.cons .here (.cons .here k4))) ?_)
  cases h
  exact ⟨t115,t116,g9.2.2.1,g9.2.2.2.1,g9.2.2.2.2,e,e⟩
 refine zB (zbx (ι:=Int × GPar × GNode) (γ:=Tok × Tok × Vt × Tok × Tok) (fun q11 g11=>[(6,isv (q11.1))]) (fun q11 g11=>[boxE zJ ((q11.2.1.l,q11.2.1.at_,(q11.2.1.m.name,q11.2.1.m.tagging,(TList.mk g11.1 q11.2.1.m.names),(TList.mk g11.2.1 q11.2.1.m.types),(Vh.mk g11.2.2.1 q11.2.1.m.nodes.length)),q11.2.1.e,q11.2.1.p):((List GTok) × Int × (Str × Int × (TList Str) × (TList Int) × Vh) × Int × Int)),tokE g11.1,tokE g11.2.1,vecE g11.2.2.1 (q11.2.1.m.nodes:List GNode),boxE zbc ((q11.2.2.kind,q11.2.2.name,q11.2.2.mark,q11.2.2.con,(TList.mk g11.2.2.2.1 q11.2.2.items),(TList.mk g11.2.2.2.2 q11.2.2.fields),q11.2.2.root,q11.2.2.more,q11.2.2.of):(Int × Str × GMark × GCon × (TList GItem) × (TList GFld) × Int × Bool × Int)),tokE g11.2.2.2.1,tokE g11.2.2.2.2]) h (t7,t8,zM,t_a_n_4,t_a_n_5) (za (j:=6) e hI ze) (.cons .here (.cons .here (.cons .here k4))) (fun L12 q11 g11 Q113 h hL12 eL12 rL12=>zp (wsr (oM e (oV (zw e) (oV (zY e zbD zcv) (oT (zH (R:=isv (q11.2.1.e)) ty65 e .here hI (oV (zaa e e) ?_)))))))))
 refine rnf (zg h e (fun _ h=>?_) (fun _ h=>?_))
 ·refine wkf (zB (zp (zdF (ι:=Int × GPar × GNode) (γ:=Tok × Tok × Vt × Tok × Tok) (fun q63 g63=>[(6,isv (q63.1))]) (fun q63 g63=>[boxE zJ ((q63.2.1.l,q63.2.1.at_,(q63.2.1.m.name,q63.2.1.m.tagging,(TList.mk g63.1 q63.2.1.m.names),(TList.mk g63.2.1 q63.2.1.m.types),(Vh.mk g63.2.2.1 q63.2.1.m.nodes.length)),q63.2.1.e,q63.2.1.p):((List GTok) × Int × (Str × Int × (TList Str) × (TList Int) × Vh) × Int × Int)),tokE g63.1,tokE g63.2.1,vecE g63.2.2.1 (q63.2.1.m.nodes:List GNode),boxE zbc ((q63.2.2.kind,q63.2.2.name,q63.2.2.mark,q63.2.2.con,(TList.mk g63.2.2.2.1 q63.2.2.items),(TList.mk g63.2.2.2.2 q63.2.2.fields),q63.2.2.root,q63.2.2.more,q63.2.2.of):(Int × Str × GMark × GCon × (TList GItem) × (TList GFld) × Int × Bool × Int)),tokE g63.2.2.2.1,tokE g63.2.2.2.2]) (.cons .here (.cons (.there tI) (.cons .here k4))) h (fun q63 g63 h=>?_) (fun J64 h hJ64=>?_))))
  ·refine wsr (oM e (zb h fun y110 hy110 h=>oT (zN (zS hy110) hT (s2 e e) k4 (fun R H' hR=>?_))))
   obtain ⟨t111,t112,rfl,rfl⟩:=hR
   refine oV (za2 e) (rnf (zg h e (fun _ h=>?_) (fun _ h=>?_)))
   ·exact zam (zgY e (eL12 _ _ (zL (hJ10 _ (t111,t112,g63.2.2.1,g63.2.2.2.1,g63.2.2.2.2) h _ (zf 10 e e (za (j:=6) e (fun _ _ _=>trivial) ze) (.cons .here (.cons .here (.cons .here k4))))))))
   exact z6 (zq (hL12 _ (t111,t112,g63.2.2.1,g63.2.2.2.1,g63.2.2.2.2) h _ (zf 10 e e (za (j:=6) e hI ze) (.cons .here (.cons .here (.cons .here k4))))))
  refine zB (wsr (oM e (oV (zw e) (oV (zY e zeD ze9) (oT (zH (R:=isv (q11.2.2.more)) ty4 e (.there (.there tI)) hI (oV (za2 e) (oM e (zab (ι:=Bool × GPar) (γ:=Tok × Tok) (fun q65 g65=>[(27,isv (q65.1))]) (fun q65 g65=>[boxE zJ ((q65.2.l,q65.2.at_,(q65.2.m.name,q65.2.m.tagging,(TList.mk g65.1 q65.2.m.names),(TList.mk g65.2 q65.2.m.types),(Vh.mk g11.2.2.1 q65.2.m.nodes.length)),q65.2.e,q65.2.p):((List GTok) × Int × (Str × Int × (TList Str) × (TList Int) × Vh) × Int × Int)),tokE g65.1,tokE g65.2,vecE g11.2.2.1 (q65.2.m.nodes:List GNode)]) k4 h 3 e (fun q65 g65 h=>?_) (fun J66 h hJ66=>?_))))))))))
  ·refine oA e (rnf (zg h e (fun _ h=>?_) (fun _ h=>?_)))
   ·refine zt (oM e (oM e (oM e (oV (zw e) (oV (zY e zfX zdv) (oT (zH (R:=appv g11.2.2.2.2 (q11.2.2.fields)) ty85 e (.there (.there tI)) isvT1 (oV (zaH (l:=q11.2.2.fields) e zQ sl85) (oV (zw e) ?_)))))))))
    exact oV (zY e zeD ze9) (oT (zo (y':=((q11.2.2.kind,q11.2.2.name,q11.2.2.mark,q11.2.2.con,(TList.mk g11.2.2.2.1 q11.2.2.items),(TList.mk g11.2.2.2.2 q11.2.2.fields),q11.2.2.root,true,q11.2.2.of):(Int × Str × GMark × GCon × (TList GItem) × (TList GFld) × Int × Bool × Int))) ty4 e e hI (.there (.there tI)) e (oV (zw e) (oV (zY e zhn zfD) (oT (zo (y':=((q11.2.2.kind,q11.2.2.name,q11.2.2.mark,q11.2.2.con,(TList.mk g11.2.2.2.1 q11.2.2.items),(TList.mk g11.2.2.2.2 q11.2.2.fields),(q11.2.2.fields.length:Int),true,q11.2.2.of):(Int × Str × GMark × GCon × (TList GItem) × (TList GFld) × Int × Bool × Int))) ty3 e e hI .here e (zF (zq (hJ64 _ (g65.1,g65.2,g11.2.2.1,g11.2.2.2.1,g11.2.2.2.2) h _ (zf 19 e e (za (j:=6) e hI ze) (.cons tH (.cons tH (.cons tH (.cons tH k3))))))))))))))
   refine wsr (oM e (oV (zw e) (oV (zY e zeD ze9) (oT (zH (R:=isv (q11.2.2.more)) ty4 e (.there (.there tI)) hI (oM e (zab (ι:=Bool × GPar) (γ:=Tok × Tok) (fun q71 g71=>[(47,isv (q71.1))]) (fun q71 g71=>[boxE zJ ((q71.2.l,q71.2.at_,(q71.2.m.name,q71.2.m.tagging,(TList.mk g71.1 q71.2.m.names),(TList.mk g71.2 q71.2.m.types),(Vh.mk g11.2.2.1 q71.2.m.nodes.length)),q71.2.e,q71.2.p):((List GTok) × Int × (Str × Int × (TList Str) × (TList Int) × Vh) × Int × Int)),tokE g71.1,tokE g71.2,vecE g11.2.2.1 (q71.2.m.nodes:List GNode)]) k4 h 3 e (fun q71 g71 h=>?_) (fun J72 h hJ72=>?_))))))))
   ·refine oA e (rnf (zg h e (fun _ h=>?_) (fun _ h=>?_)))
    ·refine wsr (oM e (zO h fun q77 h=>oV (zan e e q77) (oA e (rnf (zp (zdF (ι:=GPar × GNode) (γ:=Tok × Tok × Vt × Tok × Tok) (fun q78 g78=>[]) (fun q78 g78=>[boxE zJ ((q78.1.l,q78.1.at_,(q78.1.m.name,q78.1.m.tagging,(TList.mk g78.1 q78.1.m.names),(TList.mk g78.2.1 q78.1.m.types),(Vh.mk g78.2.2.1 q78.1.m.nodes.length)),q78.1.e,q78.1.p):((List GTok) × Int × (Str × Int × (TList Str) × (TList Int) × Vh) × Int × Int)),tokE g78.1,tokE g78.2.1,vecE g78.2.2.1 (q78.1.m.nodes:List GNode),boxE zbc ((q78.2.kind,q78.2.name,q78.2.mark,q78.2.con,(TList.mk g78.2.2.2.1 q78.2.items),(TList.mk g78.2.2.2.2 q78.2.fields),q78.2.root,q78.2.more,q78.2.of):(Int × Str × GMark × GCon × (TList GItem) × (TList GFld) × Int × Bool × Int)),tokE g78.2.2.2.1,tokE g78.2.2.2.2]) (.cons .here (.cons (.there tI) (.cons .here k4))) h (fun q78 g78 h=>?_) (fun J79 h hJ79=>?_)))))))
     ·refine zt (oM e (zb h fun y101 hy101 h=>oT (zN (zac hy101) hT (s2 e e) k4 (fun R H' hR=>?_))))
      obtain ⟨t102,t103,rfl,rfl⟩:=hR
      exact zF (zq (hJ64 _ (t102,t103,g78.2.2.1,g78.2.2.2.1,g78.2.2.2.2) h _ (zf 20 e e (za (j:=6) e hI ze) (.cons .here (.cons .here (.cons .here k4))))))
     refine zB (zbx (ι:=GPar × GNode) (γ:=Tok × Tok × Vt × Tok × Tok) (fun q80 g80=>[]) (fun q80 g80=>[boxE zJ ((q80.1.l,q80.1.at_,(q80.1.m.name,q80.1.m.tagging,(TList.mk g80.1 q80.1.m.names),(TList.mk g80.2.1 q80.1.m.types),(Vh.mk g80.2.2.1 q80.1.m.nodes.length)),q80.1.e,q80.1.p):((List GTok) × Int × (Str × Int × (TList Str) × (TList Int) × Vh) × Int × Int)),tokE g80.1,tokE g80.2.1,vecE g80.2.2.1 (q80.1.m.nodes:List GNode),boxE zbc ((q80.2.kind,q80.2.name,q80.2.mark,q80.2.con,(TList.mk g80.2.2.2.1 q80.2.items),(TList.mk g80.2.2.2.2 q80.2.fields),q80.2.root,q80.2.more,q80.2.of):(Int × Str × GMark × GCon × (TList GItem) × (TList GFld) × Int × Bool × Int)),tokE g80.2.2.2.1,tokE g80.2.2.2.2]) h (g71.1,g71.2,g11.2.2.1,g11.2.2.2.1,g11.2.2.2.2) ze (.cons .here (.cons .here (.cons .here k4))) (fun L81 q80 g80 Q100 h hL81 eL81 rL81=>zp (wsr (oM e (oV (zw e) (oV (zY e zbD zcv) (oT (zH (R:=isv (q80.1.e)) ty65 e .here hI (oV (zaa e e) ?_)))))))))
     refine rnf (zg h e (fun _ h=>?_) (fun _ h=>?_))
     ·refine wkf (zB (wsr (oM e (oM e (oM e (oM e (zb h fun y91 hy91 h=>oT (zN (zcn hy91) hT (s4 e e e e) (.cons .here (.cons .here (.cons .here k4))) (fun R H' hR=>?_)))))))))
      obtain ⟨t92,t93,v94,t95,t96,rfl,rfl⟩:=hR
      refine rnf (wsr (oM e (zb h fun y97 hy97 h=>oT (zN (zS hy97) hT (s2 e e) k4 (fun R H' hR=>?_)))))
      obtain ⟨t98,t99,rfl,rfl⟩:=hR
      refine oV (za2 e) (rnf (zg h e (fun _ h=>?_) (fun _ h=>?_)))
      ·exact zam (zgY e (eL81 _ _ (zL (hJ79 _ (t98,t99,v94,t95,t96) h _ (zf 13 e e ze (.cons .here (.cons .here (.cons .here k4))))))))
      exact z6 (zq (hL81 _ (t98,t99,v94,t95,t96) h _ (zf 13 e e ze (.cons .here (.cons .here (.cons .here k4))))))
     exact zam (z8 (eL81 _ _ (zL (hJ79 _ (g80.1,g80.2.1,g80.2.2.1,g80.2.2.2.1,g80.2.2.2.2) h _ (zf 5 e e ze (.cons .here (.cons .here (.cons .here k4))))))))
    refine zt (oM e (oM e (oM e (zb h fun y104 hy104 h=>oT (zN (zcn hy104) hT (s4 e e e e) (.cons .here (.cons .here (.cons .here k4))) (fun R H' hR=>?_))))))
    obtain ⟨t105,t106,v107,t108,t109,rfl,rfl⟩:=hR
    exact zF (zq (hJ64 _ (t105,t106,v107,t108,t109) h _ (zf 19 e e (za (j:=6) e hI ze) (.cons .here (.cons .here (.cons .here k4))))))
   refine zn (j:=44) h e (fun g73 h=>?_) (fun g73 h=>?_)
   ·refine oK 44 e e e g73 (zs e) (zb h fun y74 hy74 h=>zai e e (dj:=44) e g73 (zN (zS hy74) hT (s2 e e) k4 (fun R H' hR=>?_)))
    obtain ⟨t75,t76,rfl,rfl⟩:=hR
    exact oV (zi e g73 e) (hJ72 _ (t75,t76) h _ (zf 3 e e (za (j:=47) e hI ze) (.cons .here (.cons .here (.cons .here k4)))))
   exact oP 44 e e g73 (oP 44 e e g73 (oV (zj e g73 e) (hJ72 _ (g65.1,g65.2) h _ (zf 3 e e (za (j:=47) e hI ze) (.cons .here (.cons .here (.cons .here k4)))))))
  refine zn (j:=24) h e (fun g67 h=>?_) (fun g67 h=>?_)
  ·refine oK 24 e e e g67 (zs e) (zb h fun y68 hy68 h=>zai e e (dj:=24) e g67 (zN (zS hy68) hT (s2 e e) k4 (fun R H' hR=>?_)))
   obtain ⟨t69,t70,rfl,rfl⟩:=hR
   exact oV (zi e g67 e) (hJ66 _ (t69,t70) h _ (zf 3 e e (za (j:=27) e hI ze) (.cons .here (.cons .here (.cons .here k4)))))
  exact oP 24 e e g67 (oP 24 e e g67 (oV (zj e g67 e) (hJ66 _ (g11.1,g11.2.1) h _ (zf 3 e e (za (j:=27) e hI ze) (.cons .here (.cons .here (.cons .here k4)))))))
 exact zam (z8 (eL12 _ _ (zL (hJ10 _ (g11.1,g11.2.1,g11.2.2.1,g11.2.2.2.1,g11.2.2.2.2) h _ (zf 6 e e (za (j:=6) e (fun _ _ _=>trivial) ze) (.cons .here (.cons .here (.cons .here k4))))))))

theorem zee:∀ n,zcq (zbw n)∧zcm (za0 n)∧zcD (zbf n)∧zcg (zbB n)
 | 0=>⟨fun h=>(by cases h),fun h=>(by cases h),fun h=>(by cases h),fun h=>(by cases h)⟩
 | n + 1=>by
  obtain ⟨h0,h1,h2,h3⟩:=zee n
  exact ⟨zhB h0 h1 h2 h3,zik h0 h1 h2 h3,zib h0 h1 h2 h3,zg6 h0 h1 h2 h3⟩
theorem zi2 (n:Nat):zcm (za0 n):=(zee n).2.1
theorem zl6:∀ {zbz:Str} {r:GMod × Int × Int},zcN zbz=some r→Ctr Tryz.prog 39 [isv (zbz)] [] (fun R H=>R=oneOf [isv (r.1),isv (r.2.1),isv (r.2.2)]∧H=[]):=by
 intro zbz r h
 unfold zcN at h
 refine zr Tryz.func39 e fun w0 S0 hT=>wsr (oT (zag _ ze73 fun b1=>oA e (oA e (rnf (wsr (oM e (zb h fun y2 hy2 h=>?_)))))))
 refine oT (zA (zlr hy2) hT (s1 e) .nil (oM e (oV (z7 e e) (oV (z7 e e) (oV (z7 e e) (oA e (oA e (oA e (rnf ?_)))))))))
 refine zp (wsr (oM e (oV (zbo e e) (rnf (zg h e (fun _ h=>?_) (fun _ h=>?_))))))
 ·refine wsr (oV (zar (z:=(GMod.mk (Str.mk []) (0:Int) ([]:(List Str)) ([]:(List Int)) ([]:(List GNode)))) e bu73 ze73 .nil) (oM e (oM e (oT (zo (y':=((GMod.mk (Str.mk []) (0:Int) ([]:(List Str)) ([]:(List Int)) ([]:(List GNode))):GMod)) ty73 e e hI .here e (oA e (oA e (rnf (zD ?_)))))))))
  refine zx ?_
  cases h
  exact zh (.cell e .here ty73 (.tmp e (.tmp e .nil))) .nil ⟨e,e⟩
 refine wkf (wsr (oM e (oV (zar (z:=((y2.1,(0:Int),((Str.mk []),(0:Int),(TList.mk none ([]:(List Str))),(TList.mk none ([]:(List Int))),(Vh.mk none 0)),(0:Int),(0:Int)):((List GTok) × Int × (Str × Int × (TList Str) × (TList Int) × Vh) × Int × Int))) e bu129 zpo (.cons zhw zjq e hI .nil)) (oT (zjZ (y:=((y2.1,(0:Int),((Str.mk []),(0:Int),(TList.mk none ([]:(List Str))),(TList.mk none ([]:(List Int))),(Vh.mk none 0)),(0:Int),(0:Int)):((List GTok) × Int × (Str × Int × (TList Str) × (TList Int) × Vh) × Int × Int))) e hI fun b3=>zaj (zbh) (zaj (zbh) (zaj (zgH (α:=GNode)) (oA e ?_))))))))
 refine rnf (wsr (oM e (oM e (zb h fun y7 hy7 h=>oT (zN (zcE hy7) hT (s2 e e) (.cons (.there tI) (.cons tI (.cons tH k1))) (fun R H' hR=>?_))))))
 obtain ⟨t8,t9,rfl,rfl⟩:=hR
 refine oV (zw e) (oV (zY e zcf zc9) (oV (zY e zoS zn4) (oT (zo (y':=((y7.2.l,y7.2.at_,(y7.1,y7.2.m.tagging,(TList.mk t8 y7.2.m.names),(TList.mk t9 y7.2.m.types),(Vh.mk none y7.2.m.nodes.length)),y7.2.e,y7.2.p):((List GTok) × Int × (Str × Int × (TList Str) × (TList Int) × Vh) × Int × Int))) ty9 e e hI .here e (rnf (wsr (oM e (zb h fun y10 hy10 h=>oT (zN (zac hy10) hT (s2 e e) k4 (fun R H' hR=>?_))))))))))
 obtain ⟨t11,t12,rfl,rfl⟩:=hR
 refine rnf (zp (zdF (ι:=GPar) (γ:=Tok × Tok) (fun q13 g13=>[]) (fun q13 g13=>[boxE b3 ((q13.l,q13.at_,(q13.m.name,q13.m.tagging,(TList.mk g13.1 q13.m.names),(TList.mk g13.2 q13.m.types),(Vh.mk none q13.m.nodes.length)),q13.e,q13.p):((List GTok) × Int × (Str × Int × (TList Str) × (TList Int) × Vh) × Int × Int)),tokE g13.1,tokE g13.2,vecE none (q13.m.nodes:List GNode)]) k4 h (fun q13 g13 h=>?_) (fun J14 h hJ14=>?_)))
 ·refine wsr (oM e (zb h fun y33 hy33 h=>oT (zN (zac hy33) hT (s2 e e) k4 (fun R H' hR=>?_))))
  obtain ⟨t34,t35,rfl,rfl⟩:=hR
  refine rnf (wsr (oM e (zb h fun y36 hy36 h=>oT (zN (zac hy36) hT (s2 e e) k4 (fun R H' hR=>?_)))))
  obtain ⟨t37,t38,rfl,rfl⟩:=hR
  refine rnf (zp (zB (zbx (ι:=GPar) (γ:=Tok × Tok × Vt) (fun q39 g39=>[]) (fun q39 g39=>[boxE b3 ((q39.l,q39.at_,(q39.m.name,q39.m.tagging,(TList.mk g39.1 q39.m.names),(TList.mk g39.2.1 q39.m.types),(Vh.mk g39.2.2 q39.m.nodes.length)),q39.e,q39.p):((List GTok) × Int × (Str × Int × (TList Str) × (TList Int) × Vh) × Int × Int)),tokE g39.1,tokE g39.2.1,vecE g39.2.2 (q39.m.nodes:List GNode)]) h (t37,t38,none) ze k4 (fun L40 q39 g39 Q141 h hL40 eL40 rL40=>zp (wsr (oM e (oV (zw e) (oV (zY e zbD zcv) ?_))))))))
  refine oT (zH (R:=isv (q39.e)) ty65 e .here hI (oV (zaa e e) (oM e (zab (ι:=Bool × GPar) (γ:=Tok × Tok) (fun q91 g91=>[(70,isv (q91.1))]) (fun q91 g91=>[boxE b3 ((q91.2.l,q91.2.at_,(q91.2.m.name,q91.2.m.tagging,(TList.mk g91.1 q91.2.m.names),(TList.mk g91.2 q91.2.m.types),(Vh.mk g39.2.2 q91.2.m.nodes.length)),q91.2.e,q91.2.p):((List GTok) × Int × (Str × Int × (TList Str) × (TList Int) × Vh) × Int × Int)),tokE g91.1,tokE g91.2,vecE g39.2.2 (q91.2.m.nodes:List GNode)]) k4 h 4 e (fun q91 g91 h=>?_) (fun J92 h hJ92=>?_)))))
  ·refine rnf (zg h e (fun _ h=>?_) (fun _ h=>?_))
   ·refine wkf (zB (wsr (oM e (zb h fun y97 hy97 h=>oT (zN (zaZ hy97) hT (s1 e) k4 (fun R H' hR=>?_))))))
    obtain ⟨t98,t99,rfl,rfl⟩:=hR
    refine oT (zag _ ze133 fun b100=>oT (zo (y':=(y97.1:GTok)) ty133 e e hI .here e (zaj (zaQ 9 .here e) (rnf (wsr (oM e (zb h fun y101 hy101 h=>oT (zN (zcE hy101) hT (s2 e e) k4 (fun R H' hR=>?_)))))))))
    obtain ⟨t102,t103,rfl,rfl⟩:=hR
    refine oA e (rnf (zp (wsr (oM e (oV (zw e) (oV (zY e zbD zcv) (oT (zH (R:=isv (y101.2.e)) ty65 e .here hI (oV (zaa e e) ?_)))))))))
    refine oM e (zab (jb 88) je .nil h 8 e (fun q104 g104 h=>?_) (fun J105 h hJ105=>?_))
    ·refine rnf (zdF (ι:=GPar) (γ:=Tok × Tok) (fun q107 g107=>[]) (fun q107 g107=>[boxE b3 ((q107.l,q107.at_,(q107.m.name,q107.m.tagging,(TList.mk g107.1 q107.m.names),(TList.mk g107.2 q107.m.types),(Vh.mk g39.2.2 q107.m.nodes.length)),q107.e,q107.p):((List GTok) × Int × (Str × Int × (TList Str) × (TList Int) × Vh) × Int × Int)),tokE g107.1,tokE g107.2,vecE g39.2.2 (q107.m.nodes:List GNode)]) k4 h (fun q107 g107 h=>?_) (fun J108 h hJ108=>?_))
     ·refine wsr (oM e (zb h fun y112 hy112 h=>oT (zN (zac hy112) hT (s2 e e) k4 (fun R H' hR=>?_))))
      obtain ⟨t113,t114,rfl,rfl⟩:=hR
      refine rnf (wsr (oM e (zb h fun y115 hy115 h=>oT (zN (zi2 fuel hy115) hT (s2 e e) k4 (fun R H' hR=>?_)))))
      obtain ⟨t116,t117,v118,rfl,rfl⟩:=hR
      refine oA e (rnf (wsr (oM e (oM e (oV (zw e) (oV (zY e zcf zc9) (oV (zY e zjx zd7) (oT (zH (R:=appv t116 (y115.2.m.names)) ty22 e .here isvT1 ?_)))))))))
      refine oM e (oT (zZ (l:=([y101.1]:(List Str))) el22 (.cons e hI .nil) e e (zaf h fun q121 h=>oT (zbU (l:=y115.2.m.names) (m:=([y101.1]:(List Str))) zlb e hI e zQ tH q121 fun t120=>oV (zw e) (oV (zY e zcf zc9) (oV (zY e zjx zd7) (oT (zo (y':=((y115.2.l,y115.2.at_,(y115.2.m.name,y115.2.m.tagging,(TList.mk t120 (y115.2.m.names ++ ([y101.1]:(List Str)))),(TList.mk t117 y115.2.m.types),(Vh.mk v118 y115.2.m.nodes.length)),y115.2.e,y115.2.p):((List GTok) × Int × (Str × Int × (TList Str) × (TList Int) × Vh) × Int × Int))) ty22 e e isvT2 tH e (rnf ?_)))))))))
      refine zt (oM e (oM e (oV (zw e) (oV (zY e zcf zc9) (oV (zY e zl9 zka) (oT (zH (R:=appv t117 (y115.2.m.types)) ty23 e .here isvT1 (oM e (oT (zZ (l:=([y115.1]:(List Int))) el23 (.cons e hI .nil) e e ?_))))))))))
      exact zaf h fun q124 h=>oT (zbU (l:=y115.2.m.types) (m:=([y115.1]:(List Int))) zd6 e hI e zQ tI q124 fun t123=>oV (zw e) (oV (zY e zcf zc9) (oV (zY e zl9 zka) (oT (zo (y':=((y115.2.l,y115.2.at_,(y115.2.m.name,y115.2.m.tagging,(TList.mk t120 (y115.2.m.names ++ ([y101.1]:(List Str)))),(TList.mk t123 (y115.2.m.types ++ ([y115.1]:(List Int)))),(Vh.mk v118 y115.2.m.nodes.length)),y115.2.e,y115.2.p):((List GTok) × Int × (Str × Int × (TList Str) × (TList Int) × Vh) × Int × Int))) ty23 e e isvT2 tH e (zF (zq (hL40 _ (t120,t123,v118) h _ (zf 50 e e ze (.cons .here (.cons tH k3)))))))))))
     refine zg h e (fun _ h=>?_) (fun _ h=>?_)
     ·refine zt (oM e (oV (zd ty133 e) (zb h fun y109 hy109 h=>oT (zN (zbk hy109) hT (s3 e e e) k4 (fun R H' hR=>?_)))))
      obtain ⟨t110,t111,rfl,rfl⟩:=hR
      exact zF (hJ108 _ (t110,t111) h _ (zf 3 e e ze (.cons .here k4)))
     exact z6 (hJ108 _ (t102,t103) h _ (zf 0 e e ze (.cons .here k4)))
    refine zn (j:=80) h e (fun g106 h=>?_) (fun g106 h=>?_)
    ·exact oK 80 e e e g106 (zs e) (oK 80 e e e g106 (zw e) (oK 80 e e e g106 (zY e zcf zc9) (oK 80 e e e g106 (zY e zjx zd7) (zai e e (dj:=80) e g106 (zH (R:=appv t102 (y101.2.m.names)) ty22 e .here isvT1 (oK 80 e e e g106 (zaH (l:=y101.2.m.names) e zQ sl22) (oK 80 e e e g106 (zcR e e) (oV (zi e g106 e) (hJ105 _ () h _ (zf 8 e e (za (j:=88) e hI ze) (.cons .here k4)))))))))))
    exact oP 80 e e g106 (oP 80 e e g106 (oP 80 e e g106 (oP 80 e e g106 (oP 80 e e g106 (oP 80 e e g106 (oP 80 e e g106 (oV (zj e g106 e) (hJ105 _ () h _ (zf 8 e e (za (j:=88) e hI ze) (.cons .here k4))))))))))
   refine zam (z8 (eL40 _ _ (zL (zE (zp (wsr (oM e (oV (zw e) ?_))))))))
   refine oV (zY e zbD zcv) (oT (zH (R:=isv (q91.2.e)) ty65 e .here hI (oV (zaa e e) (oM e (zab (ι:=Bool × GPar) (γ:=Tok × Tok) (fun q125 g125=>[(130,isv (q125.1))]) (fun q125 g125=>[boxE b3 ((q125.2.l,q125.2.at_,(q125.2.m.name,q125.2.m.tagging,(TList.mk g125.1 q125.2.m.names),(TList.mk g125.2 q125.2.m.types),(Vh.mk g39.2.2 q125.2.m.nodes.length)),q125.2.e,q125.2.p):((List GTok) × Int × (Str × Int × (TList Str) × (TList Int) × Vh) × Int × Int)),tokE g125.1,tokE g125.2,vecE g39.2.2 (q125.2.m.nodes:List GNode)]) k4 h 5 e (fun q125 g125 h=>?_) (fun J126 h hJ126=>?_))))))
   ·refine rnf (zdF (ι:=GPar) (γ:=Tok × Tok) (fun q131 g131=>[]) (fun q131 g131=>[boxE b3 ((q131.l,q131.at_,(q131.m.name,q131.m.tagging,(TList.mk g131.1 q131.m.names),(TList.mk g131.2 q131.m.types),(Vh.mk g39.2.2 q131.m.nodes.length)),q131.e,q131.p):((List GTok) × Int × (Str × Int × (TList Str) × (TList Int) × Vh) × Int × Int)),tokE g131.1,tokE g131.2,vecE g39.2.2 (q131.m.nodes:List GNode)]) k4 h (fun q131 g131 h=>?_) (fun J132 h hJ132=>?_))
    ·refine zp (wsr (oM e (oV (zw e) (oV (zY e zbD zcv) (oT (zH (R:=isv (q131.e)) ty65 e .here hI (oV (zbo e e) (rnf (zg h e (fun _ h=>?_) (fun _ h=>?_))))))))))
     ·refine zp (zdh 8 .here e (fun o139 hn140=>zae (.v 0 (.v 1 (.v 2 (.v 3 (.v 4 (.v 5 (.v 6 (.v 7 (.v 8 (.t 9 (.v 10 (.v 11 .nil)))))))))))) moOrd (by kernel_rfl) ?_))
      refine zC e (zar (z:=(GMod.mk (Str.mk []) (0:Int) ([]:(List Str)) ([]:(List Int)) ([]:(List GNode)))) e bu73 ze73 .nil) (rvm e e (zC e (zbJ e) (zC e (zf0 e zkr zmM) (zC e (zdx (R:=isv (q131.p)) ty3 e (List.Mem.head _) hI) (rvm e e (zC e (zbJ e) (zC e (zf0 e zbD zcv) (zC e (zdx (R:=isv (q131.e)) ty65 e (List.Mem.head _) hI) ?_))))))))
      refine zaK e e (zo (y':=((GMod.mk (Str.mk []) (0:Int) ([]:(List Str)) ([]:(List Int)) ([]:(List GNode))):GMod)) ty73 e e hI (.there tI) e (zC e (zaM e) (zC e (zaM e) (zaA (za7 8 hn140 e (zE (zD (zx ?_))))))))
      cases h
      exact zh (.cell e tH ty73 (.tmp e (.tmp e .nil))) .nil ⟨e,e⟩
     refine wkf (wsr (oM e (oV (zw e) (oV (zY e zcf zc9) (zaj (zox (y:=((q131.l,q131.at_,(q131.m.name,q131.m.tagging,(TList.mk g131.1 q131.m.names),(TList.mk g131.2 q131.m.types),q131.m.nodes),q131.e,q131.p):((List GTok) × Int × (Str × Int × (TList Str) × (TList Int) × (List GNode)) × Int × Int))) (.there tI) .here (fun S hv=>(Cv.pair Cv.id (Cv.pair Cv.id (Cv.pair (Cv.pair Cv.id (Cv.pair Cv.id (Cv.pair Cv.id (Cv.pair Cv.id (Cv.vh hv (by first | rfl | simp)))))) (Cv.pair Cv.id Cv.id)))))) ?_)))))
     refine zaj (zbW (R':=ptrv b3 ((Fld.id (((List GTok) × Int × (Str × Int × (TList Str) × (TList Int) × (List GNode)) × Int × Int))).comp zny)) 151 e hI) (oT (zH (y:=((q131.l,q131.at_,(q131.m.name,q131.m.tagging,(TList.mk g131.1 q131.m.names),(TList.mk g131.2 q131.m.types),q131.m.nodes),q131.e,q131.p):((List GTok) × Int × (Str × Int × (TList Str) × (TList Int) × (List GNode)) × Int × Int))) (R:=isv (((q131.m.name,q131.m.tagging,(TList.mk g131.1 q131.m.names),(TList.mk g131.2 q131.m.types),q131.m.nodes)):((Str × Int × (TList Str) × (TList Int) × (List GNode))))) ty73 e .here (by exact hI) ?_))
     refine zaj (zbW (R':=isv (q131.m)) 152 e (Cv.isv e fun S=>(fun cs h=>GMod.cv (x:=q131.m) cs (((Cv.pair Cv.id (Cv.pair Cv.id (Cv.pair Cv.tl (Cv.pair Cv.tl Cv.id)))):Cv S ((q131.m.name,q131.m.tagging,(TList.mk g131.1 q131.m.names),(TList.mk g131.2 q131.m.types),q131.m.nodes):(Str × Int × (TList Str) × (TList Int) × (List GNode))) (GMod.to q131.m)) cs h)))) (oT (zo (y':=(q131.m:GMod)) ty73 e e hI (.there tI) e (oA e (oA e (rnf (zD ?_))))))
     cases h
     exact zh (.cell e .here ty73 (.tmp e (.tmp e .nil))) .nil ⟨e,e⟩
    refine zg h e (fun _ h=>?_) (fun _ h=>?_)
    ·refine zt (oM e (oM e (zb h fun y133 hy133 h=>oT (zN (zaZ hy133) hT (s1 e) k4 (fun R H' hR=>?_)))))
     obtain ⟨t134,t135,rfl,rfl⟩:=hR
     refine zb h fun y136 hy136 h=>oT (zN (zbk hy136) hT (s3 e e e) k4 (fun R H' hR=>?_))
     obtain ⟨t137,t138,rfl,rfl⟩:=hR
     exact zF (hJ132 _ (t137,t138) h _ (zf 4 e e ze (.cons .here k4)))
    exact z6 (hJ132 _ (g125.1,g125.2) h _ (zf 0 e e ze (.cons .here k4)))
   refine zn (j:=125) h e (fun g127 h=>?_) (fun g127 h=>?_)
   ·refine oK 125 e e e g127 (zs e) (zb h fun y128 hy128 h=>zai e e (dj:=125) e g127 (zN (zaZ hy128) hT (s1 e) k4 (fun R H' hR=>?_)))
    obtain ⟨t129,t130,rfl,rfl⟩:=hR
    exact oK 125 e e e g127 (zhh GTok.f0 e zci e) (oK 125 e e e g127 (zbo e e) (oV (zi e g127 e) (hJ126 _ (t129,t130) h _ (zf 5 e e (za (j:=130) e hI ze) (.cons .here k4)))))
   exact oP 125 e e g127 (oP 125 e e g127 (oP 125 e e g127 (oP 125 e e g127 (oV (zj e g127 e) (hJ126 _ (g91.1,g91.2) h _ (zf 5 e e (za (j:=130) e hI ze) (.cons .here k4)))))))
  refine zn (j:=66) h e (fun g93 h=>?_) (fun g93 h=>?_)
  ·refine oK 66 e e e g93 (zs e) (zb h fun y94 hy94 h=>zai e e (dj:=66) e g93 (zN (zS hy94) hT (s2 e e) k4 (fun R H' hR=>?_)))
   obtain ⟨t95,t96,rfl,rfl⟩:=hR
   exact oK 66 e e e g93 (za2 e) (oV (zi e g93 e) (hJ92 _ (t95,t96) h _ (zf 4 e e (za (j:=70) e hI ze) (.cons .here k4))))
  exact oP 66 e e g93 (oP 66 e e g93 (oP 66 e e g93 (oV (zj e g93 e) (hJ92 _ (g39.1,g39.2.1) h _ (zf 4 e e (za (j:=70) e hI ze) (.cons .here k4))))))
 refine zB (wsr (oM e (zb h fun y15 hy15 h=>oT (zN (zS hy15) hT (s2 e e) k4 (fun R H' hR=>?_)))))
 obtain ⟨t16,t17,rfl,rfl⟩:=hR
 refine oA e (rnf (zg h e (fun _ h=>?_) (fun _ h=>?_)))
 ·refine zt (oM e (zb h fun y18 hy18 h=>oT (zN (zac hy18) hT (s2 e e) k4 (fun R H' hR=>?_))))
  obtain ⟨t19,t20,rfl,rfl⟩:=hR
  exact zF (zq (hJ14 _ (t19,t20) h _ (zf 5 e e ze (.cons .here k4))))
 refine wsr (oM e (zb h fun y21 hy21 h=>oT (zN (zS hy21) hT (s2 e e) k4 (fun R H' hR=>?_))))
 obtain ⟨t22,t23,rfl,rfl⟩:=hR
 refine oA e (rnf (zg h e (fun _ h=>?_) (fun _ h=>?_)))
 ·refine wsr (oM e (oV (zw e) (oV (zY e zcf zc9) (oV (zY e zlD zkJ) (oT (zo (y':=((y21.2.l,y21.2.at_,(y21.2.m.name,(1:Int),(TList.mk t22 y21.2.m.names),(TList.mk t23 y21.2.m.types),(Vh.mk none y21.2.m.nodes.length)),y21.2.e,y21.2.p):((List GTok) × Int × (Str × Int × (TList Str) × (TList Int) × Vh) × Int × Int))) ty3 e e hI .here e (rnf (zt (oM e ?_)))))))))
  refine zb h fun y24 hy24 h=>oT (zN (zac hy24) hT (s2 e e) k4 (fun R H' hR=>?_))
  obtain ⟨t25,t26,rfl,rfl⟩:=hR
  exact zF (zq (hJ14 _ (t25,t26) h _ (zf 12 e e ze (.cons .here k4))))
 refine wsr (oM e (zb h fun y27 hy27 h=>oT (zN (zS hy27) hT (s2 e e) k4 (fun R H' hR=>?_))))
 obtain ⟨t28,t29,rfl,rfl⟩:=hR
 refine oA e (rnf (zg h e (fun _ h=>?_) (fun _ h=>?_)))
 ·refine wsr (oM e (oV (zw e) (oV (zY e zcf zc9) (oV (zY e zlD zkJ) (oT (zo (y':=((y27.2.l,y27.2.at_,(y27.2.m.name,(2:Int),(TList.mk t28 y27.2.m.names),(TList.mk t29 y27.2.m.types),(Vh.mk none y27.2.m.nodes.length)),y27.2.e,y27.2.p):((List GTok) × Int × (Str × Int × (TList Str) × (TList Int) × Vh) × Int × Int))) ty3 e e hI .here e (rnf (zt (oM e ?_)))))))))
  refine zb h fun y30 hy30 h=>oT (zN (zac hy30) hT (s2 e e) k4 (fun R H' hR=>?_))
  obtain ⟨t31,t32,rfl,rfl⟩:=hR
  exact zF (zq (hJ14 _ (t31,t32) h _ (zf 15 e e ze (.cons .here k4))))
 exact z6 (zq (hJ14 _ (t28,t29) h _ (zf 9 e e ze (.cons .here k4))))

end Go.Proofs.Q


namespace Go.Proofs.Q
open Go.Sy
set_option maxRecDepth 4000
theorem zgh:∀ {a_m:GMod} {zj6:Str} {r:Int},zf2 a_m zj6=some r→Ctr Tryz.prog 112 [isv (a_m),isv (zj6)] [] (fun R H=>R=oneOf [isv (r)]∧H=[]):=by
 intro a_m zj6 r h
 unfold zf2 at h
 refine zr Tryz.func112 e fun w0 S0 hT=>wsr (oT (zaw (y:=a_m) e hI (oA e (rnf (zp (wsr (oA e (rnf ?_))))))))
 refine zB (zbx (ι:=Int) (γ:=Unit) (fun q1 g1=>[(5,isv (q1))]) (fun q1 g1=>[]) h () (za (j:=5) e hI ze) .nil (fun L2 q1 g1 Q7 h hL2 eL2 rL2=>zp (wsr (oM e (oV (zI e GMod.f2 zd7 e (z:=a_m.names)) (oV (zd ty22 e) (oV (zaH (l:=a_m.names) e hI sl22) (oV (zay e e) ?_))))))))
 refine rnf (zg h e (fun _ h=>?_) (fun _ h=>?_))
 ·refine wkf (zp (zB (wsr (oV (zI e GMod.f2 zd7 e (z:=a_m.names)) (oV (zd ty22 e) (oM e (zb h fun y5 hy5 h=>oV (zaz (l:=a_m.names) e hI e sl22 hy5) ?_)))))))
  refine oV (zd ty9 e) (oM e (oV (zce eq9 e e) (rnf (zg h e (fun _ h=>?_) (fun _ h=>?_)))))
  ·refine wsr (oM e (oA e (rnf (zD (zz (zx (rL2 _ (zz ?_))))))))
   refine zx ?_
   cases h
   exact zh (.tmp e .nil) .nil ⟨e,e⟩
  refine z6 (zq (zE (zt (oM e (zO h fun q6 h=>oV (zan e e q6) (oA e (zF ?_)))))))
  exact hL2 _ () h _ (ji 16 5 e e e)
 refine zam (z8 (eL2 _ _ (zL (zE (wsr (oA e (rnf (zD ?_))))))))
 cases h
 exact zh (.tmp e .nil) .nil ⟨e,e⟩


theorem zgm:∀ {a_l:(List Int)} {a_x:Int} {r:Bool},zeQ a_l a_x=some r→Ctr Tryz.prog 111 [isv (a_l),isv (a_x)] [] (fun R H=>R=oneOf [isv (r)]∧H=[]):=by
 intro a_l a_x r h
 unfold zeQ at h
 refine zr Tryz.func111 e fun w0 S0 hT=>wsr (oA e (rnf (zp (wsr (oA e (rnf (zB ?_)))))))
 refine zbx (ι:=Int) (γ:=Unit) (fun q1 g1=>[(5,isv (q1))]) (fun q1 g1=>[]) h () (za (j:=5) e hI ze) .nil (fun L2 q1 g1 Q7 h hL2 eL2 rL2=>zp (wsr (oM e (oM e (oV (zaH (l:=a_l) e hI sl23) (oV (zay e e) (rnf (zg h e (fun _ h=>?_) (fun _ h=>?_)))))))))
 ·refine wkf (zp (zB (wsr (oM e (oM e (zb h fun y5 hy5 h=>oV (zaz (l:=a_l) e hI e sl23 hy5) (oV (zd ty3 e) ?_)))))))
  refine oM e (oV (zaa e e) (rnf (zg h e (fun _ h=>?_) (fun _ h=>?_))))
  ·refine wsr (oA e (rnf (zD (zz (zx (rL2 _ (zz (zx ?_))))))))
   cases h
   exact zh (.tmp e .nil) .nil ⟨e,e⟩
  refine z6 (zq (zE (zt (oM e (zO h fun q6 h=>oV (zan e e q6) (oA e (zF ?_)))))))
  exact hL2 _ () h _ (ji 14 5 e e e)
 refine zam (z8 (eL2 _ _ (zL (zE (wsr (oA e (rnf (zD ?_))))))))
 cases h
 exact zh (.tmp e .nil) .nil ⟨e,e⟩


def zh7 (f':GMod→Int→Int→(List Int)→Option ((List Int) × Bool)):Prop :=
 ∀ {a_m:GMod} {zfR:Int} {zG:Int} {a_l:(List Int)} {t_a_l:Tok} {r:(List Int) × Bool},f' a_m zfR zG a_l=some r→Ctr Tryz.prog 109 [isv (a_m),isv (zfR),isv (zG),appv t_a_l (a_l)] [tokE t_a_l] (fun R H=>∃ u1:Tok,R=oneOf [appv u1 (r.1),isv (r.2)]∧H=[tokE u1])
theorem zlX {zf1:GMod→Int→Int→(List Int)→Option ((List Int) × Bool)} (zjT:zh7 zf1):∀ {a_m:GMod} {zfR:Int} {zG:Int} {a_l:(List Int)} {t_a_l:Tok} {r:(List Int) × Bool},zdL zf1 a_m zfR zG a_l=some r→Ctr Tryz.prog 109 [isv (a_m),isv (zfR),isv (zG),appv t_a_l (a_l)] [tokE t_a_l] (fun R H=>∃ u1:Tok,R=oneOf [appv u1 (r.1),isv (r.2)]∧H=[tokE u1]):=by
 intro a_m zfR zG a_l t_a_l r h
 unfold zdL at h
 refine zr Tryz.func109 e fun w0 S0 hT=>wsr (oT (zaw (y:=a_m) e hI (oA e (oA e (rnf (zp (wsr (oM e ?_))))))))
 refine oV (zay e e) (oM e (zab (jb 24) je .nil h 6 e (fun q1 g1 h=>?_) (fun J2 h hJ2=>?_)))
 ·refine oM e (zab (jb 28) je .nil h 3 e (fun q4 g4 h=>?_) (fun J5 h hJ5=>?_))
  ·refine rnf (zg h e (fun _ h=>?_) (fun _ h=>?_))
   ·refine wsr (oM e (oA e (oA e (rnf (zD (zx (zh (.tmp e (.tmp e .nil)) k1 ?_)))))))
    cases h
    exact ⟨t_a_l,e,e⟩
   refine wkf (wsr (oV (zI e GMod.f4 zgq e (z:=a_m.nodes)) (oV (zd ty71 e) (oM e (zb h fun y7 hy7 h=>oV (zaz (l:=a_m.nodes) e hI e sl71 hy7) (oV (zd ty167 e) (oT (zag _ ze167 fun b8=>?_))))))))
   refine oT (zo (y':=(y7:GNode)) ty167 e e hI .here e (zaj (zaQ 10 .here e) (rnf (zp (wsr (oV (zI e GNode.f0 zb0 e (z:=y7.kind)) (oV (zd ty3 e) (oV (zaa e e) (rnf ?_)))))))))
   refine zg h e (fun _ h=>?_) (fun _ h=>?_)
   ·refine wsr (oV (zd ty73 e) (oV (zI e GNode.f1 zk6 e (z:=y7.name)) (oV (zd ty9 e) (zb h fun y9 hy9 h=>oT (zA (zgh hy9) hT (s2 e e) .nil (oA e (rnf (zp ?_))))))))
    refine wsr (oM e (oV (zay e e) (rnf (zg h e (fun _ h=>?_) (fun _ h=>?_)))))
    ·refine wsr (oM e (oA e (oA e (rnf (zD (zx (zx (zh (.tmp e (.tmp e .nil)) k1 ?_))))))))
     cases h
     exact ⟨t_a_l,e,e⟩
    refine wkf (zp (wsr (oM e (oM e (zb h fun y10 hy10 h=>oT (zA (zgm hy10) hT (.cons e zQ (s1 e)) .nil (oV (za2 e) (rnf ?_))))))))
    refine zdF (ι:=(List Int)) (γ:=Tok) (fun q11 g11=>[(3,appv g11 (q11))]) (fun q11 g11=>[tokE g11]) k1 h (fun q11 g11 h=>?_) (fun J12 h hJ12=>?_)
    ·refine wsr (oM e (oA e (oA e (rnf (zD (zx (zh (.tmp e (.tmp e .nil)) k1 ?_)))))))
     cases h
     exact ⟨g11,e,e⟩
    refine zg h e (fun _ h=>?_) (fun _ h=>?_)
    ·exact zt (oM e (oM e (oT (zZ (l:=([y9]:(List Int))) el23 (.cons e hI .nil) e e (zaf h fun q15 h=>oT (zbU (l:=a_l) (m:=([y9]:(List Int))) zd6 e hI e zQ .here q15 fun t14=>oA e (zF (hJ12 _ (t14) h _ (jk 5 3 e e e)))))))))
    exact z6 (hJ12 _ (t_a_l) h _ (jk 0 3 e e e))
   refine wkf (wsr (oA e (rnf (zp (wsr (oA e (rnf (zB ?_))))))))
   refine zbx (ι:=(List Int) × Bool × Int) (γ:=Tok) (fun q16 g16=>[(3,appv g16 (q16.1)),(12,isv (q16.2.1)),(13,isv (q16.2.2))]) (fun q16 g16=>[tokE g16]) h (t_a_l) (za (j:=3) e hI (za (j:=12) e hI (za (j:=13) e hI ze))) k1 (fun L17 q16 g16 Q44 h hL17 eL17 rL17=>zp (wsr (oM e (oV (zI e GNode.f5 zdv e (z:=y7.fields)) (oV (zd ty85 e) (oV (zaH (l:=y7.fields) e hI sl85) (oV (zay e e) (rnf ?_))))))))
   refine zg h e (fun _ h=>?_) (fun _ h=>?_)
   ·refine wkf (zp (zB (wsr (oA e (rnf (zp (zae (.v 0 (.v 1 (.v 2 (.v 3 (.v 4 (.v 5 (.v 6 (.v 7 (.v 8 (.v 9 (.t 10 (.v 11 (.v 12 (.v 13 (.v 14 (.v 15 .nil)))))))))))))))) moOrd (by kernel_rfl) ?_)))))))
    refine zC e (zd ty73 e) (zC e (zI e GNode.f5 zdv e (z:=y7.fields)) (zC e (zd ty85 e) (rvm e e (zb h fun y28 hy28 h=>zC e (zaz (l:=y7.fields) e hI e sl85 hy28) (zC e (zI e GFld.f1 zdA e (z:=y28.ty)) (zC e (zd ty3 e) (rvm e e ?_)))))))
    refine zO h fun q29 h=>zC e (zan e e q29) (rvm e e (zb h fun y30 hy30 h=>zaK e e (zN (zjT hy30) hT (s4 e e e e) k1 (fun R H' hR=>?_))))
    obtain ⟨t31,rfl,rfl⟩:=hR
    refine rvm e e (zC e (z7 e e) (zC e (z7 e e) (zC e (zaM e) (zC e (zaM e) (zaA (zE (zt (oM e ?_))))))))
    refine oM e (zab (jb 78) je .nil h 2 e (fun q32 g32 h=>?_) (fun J33 h hJ33=>?_))
    ·refine oA e (zF (zq (zE (zt (oM e (zO h fun q35 h=>oV (zan e e q35) (oA e ?_)))))))
     exact zF (hL17 _ (t31) h _ (zf 32 e e (za (j:=3) e hI (za (j:=12) e hI (za (j:=13) e hI ze))) k1))
    refine zn (j:=76) h e (fun g34 h=>?_) (fun g34 h=>?_)
    ·exact oP 76 e e g34 (oV (zi e g34 e) (hJ33 _ () h _ (jk 2 78 e e e)))
    exact oK 76 e e e g34 (zs e) (oV (zj e g34 e) (hJ33 _ () h _ (jk 2 78 e e e)))
   refine zam (z8 (eL17 _ _ (zL (zE (zp (wsr (oV (zI e GNode.f0 zb0 e (z:=y7.kind)) (oV (zd ty3 e) ?_))))))))
   refine oV (zaa e e) (rnf (zdF (ι:=(List Int) × Bool) (γ:=Tok) (fun q36 g36=>[(3,appv g36 (q36.1)),(12,isv (q36.2))]) (fun q36 g36=>[tokE g36]) k1 h (fun q36 g36 h=>?_) (fun J37 h hJ37=>?_)))
   ·refine wsr (oM e (oM e (oA e (oA e (rnf (zD (zh (.tmp e (.tmp e .nil)) k1 ?_)))))))
    cases h
    exact ⟨g36,e,e⟩
   refine zg h e (fun _ h=>?_) (fun _ h=>?_)
   ·refine wsr (oA e (rnf (wsr (oV (zd ty73 e) (oV (zI e GNode.f8 zkV e (z:=y7.of)) (oV (zd ty3 e) (oM e (zO h fun q38 h=>?_))))))))
    refine oV (zan e e q38) (oM e (zb h fun y39 hy39 h=>oT (zN (zjT hy39) hT (s4 e e e e) k1 (fun R H' hR=>?_))))
    obtain ⟨t40,rfl,rfl⟩:=hR
    refine oM e (oV (z7 e e) (oV (z7 e e) (oA e (oA e (rnf (zt (oM e (oM e ?_))))))))
    refine zab (jb 95) je .nil h 2 e (fun q41 g41 h=>?_) (fun J42 h hJ42=>?_)
    ·exact oA e (zF (hJ37 _ (t40) h _ (zf 17 e e (za (j:=3) e hI (za (j:=12) e hI ze)) k1)))
    refine zn (j:=93) h e (fun g43 h=>?_) (fun g43 h=>?_)
    ·exact oP 93 e e g43 (oV (zi e g43 e) (hJ42 _ () h _ (jk 2 95 e e e)))
    exact oK 93 e e e g43 (zs e) (oV (zj e g43 e) (hJ42 _ () h _ (jk 2 95 e e e)))
   exact z6 (hJ37 _ (g16) h _ (zf 0 e e (za (j:=3) e hI (za (j:=12) e hI ze)) k1))
  refine zn (j:=25) h e (fun g6 h=>?_) (fun g6 h=>?_)
  ·exact oP 25 e e g6 (oP 25 e e g6 (oV (zi e g6 e) (hJ5 _ () h _ (jk 3 28 e e e))))
  exact oK 25 e e e g6 (zs e) (oK 25 e e e g6 (zb1 e e) (oV (zj e g6 e) (hJ5 _ () h _ (jk 3 28 e e e))))
 refine zn (j:=18) h e (fun g3 h=>?_) (fun g3 h=>?_)
 ·exact oP 18 e e g3 (oP 18 e e g3 (oP 18 e e g3 (oP 18 e e g3 (oP 18 e e g3 (oV (zi e g3 e) (hJ2 _ () h _ (jk 6 24 e e e)))))))
 exact oK 18 e e e g3 (zs e) (oK 18 e e e g3 (zI e GMod.f4 zgq e (z:=a_m.nodes)) (oK 18 e e e g3 (zd ty71 e) (oK 18 e e e g3 (zaH (l:=a_m.nodes) e hI sl71) (oK 18 e e e g3 (zcR e e) (oV (zj e g3 e) (hJ2 _ () h _ (jk 6 24 e e e)))))))

theorem zhb:∀ n,zh7 (zfu n)
 | 0=>fun h=>(by cases h)
 | n + 1=>zlX (zhb n)
theorem zmk (n:Nat):zh7 (zfu n):=(zhb n)

theorem zlu:∀ {zfB:(List (List Int))} {zd9:Int} {a_to:Int} {r:Bool},zf7 zfB zd9 a_to=some r→Ctr Tryz.prog 110 [isv (zfB),isv (zd9),isv (a_to)] [] (fun R H=>R=oneOf [isv (r)]∧H=[]):=by
 intro zfB zd9 a_to r h
 unfold zf7 at h
 refine zr Tryz.func110 e fun w0 S0 hT=>wsr (oA e (rnf (wsr (oT (zZ (l:=([]:(List Int))) el23 .nil e e (oA e (rnf (wsr ?_))))))))
 refine oM e (oM e (zb h fun y2 hy2 h=>oV (zaz (l:=zfB) e hI e sl36 hy2) (oV (zd ty23 e) (zaf h fun q4 h=>oT (zlc (m:=y2) zd6 e e hI q4 fun t3=>oA e (rnf ?_))))))
 refine zp (zB (zgZ (zbh) (zbx (ι:=(List Int) × (List Int)) (γ:=Tok × Tok) (fun q5 g5=>[(7,appv g5.1 (q5.1)),(8,appv g5.2 (q5.2))]) (fun q5 g5=>[tokE g5.1,tokE g5.2]) h (none,t3) (za (j:=7) e hI (za (j:=8) e hI ze)) k2 (fun L6 q5 g5 Q27 h hL6 eL6 rL6=>zp (wsr (oM e (oV (zaH (l:=q5.2) e zQ sl23) (oV (zb1 e e) ?_))))))))
 refine rnf (zg h e (fun _ h=>?_) (fun _ h=>?_))
 ·refine wkf (zB (wsr (oM e (zb h fun y17 hy17 h=>oV (zaz (l:=q5.2) e zQ e sl23 hy17) (oV (zd ty3 e) (oA e (rnf ?_)))))))
  refine wsr (oM e (zak h fun q18 h=>oT (zp2 e sl23 e q18.1 q18.2 tH fun t19=>oA e (rnf (zp (wsr (oM e ?_)))))))
  refine oM e (oV (zaa e e) (rnf (zg h e (fun _ h=>?_) (fun _ h=>?_))))
  ·refine wsr (oA e (rnf (zD (zx (zz (rL6 _ (zz (zx ?_))))))))
   cases h
   exact zh (.tmp e .nil) .nil ⟨e,e⟩
  refine wkf (wsr (oM e (oM e (zb h fun y20 hy20 h=>oT (zA (zgm hy20) hT (.cons e zQ (s1 e)) .nil (oV (za2 e) (rnf (zg h e (fun _ h=>?_) (fun _ h=>?_)))))))))
  ·refine wsr (oM e (oM e (oT (zZ (l:=([y17]:(List Int))) el23 (.cons e hI .nil) e e (zaf h fun q23 h=>oT (zbU (l:=q5.1) (m:=([y17]:(List Int))) zd6 e hI e zQ tH q23 fun t22=>oA e (rnf (zt ?_))))))))
   refine oM e (oM e (oM e (zb h fun y24 hy24 h=>oV (zaz (l:=zfB) e hI e sl36 hy24) (oV (zd ty23 e) (zaf h fun q26 h=>oT (zbU (l:=(q5.2.drop ((1:Int)).toNat)) (m:=y24) zd6 e hI e hI tH q26 fun t25=>oA e ?_))))))
   exact zF (zq (hL6 _ (t22,t25) h _ (zf 31 e e (za (j:=7) e hI (za (j:=8) e hI ze)) (.cons tH k1))))
  exact z6 (zq (hL6 _ (g5.1,t19) h _ (zf 19 e e (za (j:=7) e hI (za (j:=8) e hI ze)) (.cons tH k1))))
 refine zam (z8 (eL6 _ _ (zL (zE (wsr (oA e (rnf (zD ?_))))))))
 cases h
 exact zh (.tmp e .nil) .nil ⟨e,e⟩


theorem zlK:∀ {a_m:GMod} {r:(List Int) × Int × Int},zfe a_m=some r→Ctr Tryz.prog 76 [isv (a_m)] [] (fun R H=>R=oneOf [isv (r.1),isv (r.2.1),isv (r.2.2)]∧H=[]):=by
 intro a_m r h
 unfold zfe at h
 refine zr Tryz.func76 e fun w0 S0 hT=>wsr (oT (zaw (y:=a_m) e hI (oA e (oA e (oA e (rnf (wsr (oA e ?_))))))))
 refine rnf (wsr (oA e (rnf (zp (wsr (oA e (rnf (zB ?_))))))))
 refine zbx (ι:=Int) (γ:=Unit) (fun q1 g1=>[(7,isv (q1))]) (fun q1 g1=>[]) h () (za (j:=7) e hI ze) .nil (fun L2 q1 g1 Q1603 h hL2 eL2 rL2=>zp (wsr (oM e (oV (zI e GMod.f2 zd7 e (z:=a_m.names)) (oV (zd ty22 e) (oV (zaH (l:=a_m.names) e hI sl22) (oV (zay e e) (rnf ?_))))))))
 refine zg h e (fun _ h=>?_) (fun _ h=>?_)
 ·refine wkf (zp (zB (zp (zae (.v 0 (.v 1 (.v 2 (.v 3 (.v 4 (.v 5 (.v 6 (.v 7 (.v 8 (.t 9 .nil)))))))))) moOrd (by kernel_rfl) ?_))))
  refine zC e (zI e GMod.f2 zd7 e (z:=a_m.names)) (zC e (zd ty22 e) (rvm e e (zak h fun q803 h=>zC e (zfn (l:=a_m.names) e hI sl22 (.inl ⟨e,e⟩) (.inr ⟨_,e,e⟩) q803.1 q803.2.1 q803.2.2) (zC e (zI e GMod.f2 zd7 e (z:=a_m.names)) (zC e (zd ty22 e) (rvm e e (zb h fun y804 hy804 h=>?_)))))))
  refine zC e (zaz (l:=a_m.names) e hI e sl22 hy804) (zC e (zd ty9 e) (zb h fun y805 hy805 h=>zaK e e (zA (zhK hy805) hT (s2 e e) .nil (zaA (zE (zg h e (fun _ h=>?_) (fun _ h=>?_)))))))
  ·refine wsr (oM e (oA e (oA e (oA e (rnf (zD (zz (zx ?_))))))))
   refine rL2 _ (zz (zx ?_))
   cases h
   exact zh (.as e (zed (α:=Int)) (.tmp e (.tmp e .nil))) .nil ⟨e,e⟩
  refine z6 (zq (zE (zt (oM e (zO h fun q806 h=>oV (zan e e q806) (oA e (zF ?_)))))))
  exact hL2 _ () h _ (ji 19 7 e e e)
 refine zam (z8 (eL2 _ _ (zL (zE (zp (wsr (oA e (rnf ?_))))))))
 refine zB (zgZ (zbh) (zbx (ι:=(List (List Int)) × Int × Int) (γ:=Tok) (fun q807 g807=>[(5,appv g807 (q807.1)),(6,isv (q807.2.1)),(8,isv (q807.2.2))]) (fun q807 g807=>[tokE g807]) h (none) (za (j:=5) e zb4 (za (j:=6) e hI (za (j:=8) e hI ze))) k1 (fun L808 q807 g807 Q1602 h hL808 eL808 rL808=>zp (wsr (oM e (oV (zI e GMod.f2 zd7 e (z:=a_m.names)) (oV (zd ty22 e) (oV (zaH (l:=a_m.names) e hI sl22) ?_))))))))
 refine oV (zay e e) (rnf (zg h e (fun _ h=>?_) (fun _ h=>?_)))
 ·refine wkf (zp (zdF (ι:=(List (List Int)) × Int) (γ:=Tok) (fun q1337 g1337=>[(5,appv g1337 (q1337.1)),(6,isv (q1337.2))]) (fun q1337 g1337=>[tokE g1337]) k1 h (fun q1337 g1337 h=>?_) (fun J1338 h hJ1338=>?_)))
  ·exact zt (oM e (zO h fun q1349 h=>oV (zan e e q1349) (oA e (zF (hL808 _ (g1337) h _ (zf 13 e e (za (j:=5) e hI (za (j:=6) e hI (za (j:=8) e hI ze))) k1))))))
  refine zB (zp (zae (.v 0 (.v 1 (.v 2 (.v 3 (.v 4 (.v 5 (.t 6 (.v 7 (.v 8 (.v 9 (.v 10 (.v 11 .nil)))))))))))) moOrd (by kernel_rfl) ?_))
  refine zC e (zd ty73 e) (zC e (zI e GMod.f3 zka e (z:=a_m.types)) (zC e (zd ty23 e) (rvm e e (zb h fun y1339 hy1339 h=>zC e (zaz (l:=a_m.types) e hI e sl23 hy1339) (zC e (zd ty3 e) (zfi (zbh) (zb h fun y1341 hy1341 h=>?_)))))))
  refine zaK e e (zN (zmk fuel hy1341) hT (.same e (.same e (.same e (.cons e zb4 .nil)))) k1 (fun R H' hR=>?_))
  obtain ⟨t1342,rfl,rfl⟩:=hR
  refine rvm e e (zC e (z7 e e) (zC e (z7 e e) (zC e (zaM e) (zC e (zaM e) (zaA (zE (wsr (oM e ?_))))))))
  refine oM e (oT (zZ (l:=([y1341.1]:(List (List Int)))) el36 (.cons e zQ .nil) e e (zaf h fun q1345 h=>oT (zbU (l:=q807.1) (m:=([y1341.1]:(List (List Int)))) zmO e hI e zQ tH q1345 fun t1344=>oA e (rnf (wsr (oM e (oM e ?_))))))))
  refine zab (jb 59) je .nil h 3 e (fun q1346 g1346 h=>?_) (fun J1347 h hJ1347=>?_)
  ·refine rnf (zg h e (fun _ h=>?_) (fun _ h=>?_))
   ·exact zt (oM e (oA e (zF (zq (hJ1338 _ (t1344) h _ (zf 22 e e (za (j:=5) e hI (za (j:=6) e hI ze)) k1))))))
   exact z6 (zq (hJ1338 _ (t1344) h _ (zf 20 e e (za (j:=5) e hI (za (j:=6) e hI ze)) k1)))
  refine zn (j:=56) h e (fun g1348 h=>?_) (fun g1348 h=>?_)
  ·exact oK 56 e e e g1348 (zs e) (oK 56 e e e g1348 (zay e e) (oV (zi e g1348 e) (hJ1347 _ () h _ (zf 3 e e (za (j:=59) e hI ze) k2))))
  exact oP 56 e e g1348 (oP 56 e e g1348 (oV (zj e g1348 e) (hJ1347 _ () h _ (zf 3 e e (za (j:=59) e hI ze) k2))))
 refine zam (z8 (eL808 _ _ (zL (zE (zp (wsr (oM e (oV (zcR e e) ?_))))))))
 refine rnf (zg h e (fun _ h=>?_) (fun _ h=>?_))
 ·refine wsr (oM e (oA e (oA e (oA e (rnf (zD (zx ?_)))))))
  cases h
  exact zh (.as e (zed (α:=Int)) (.tmp e (.tmp e .nil))) .nil ⟨e,e⟩
 refine wkf (zp (wsr (oA e (rnf (zB (zbx (ι:=Int) (γ:=Unit) (fun q1350 g1350=>[(11,isv (q1350))]) (fun q1350 g1350=>[]) h () (za (j:=11) e hI ze) .nil (fun L1351 q1350 g1350 Q1600 h hL1351 eL1351 rL1351=>zp (wsr ?_))))))))
 refine oM e (oV (zI e GMod.f2 zd7 e (z:=a_m.names)) (oV (zd ty22 e) (oV (zaH (l:=a_m.names) e hI sl22) (oV (zay e e) (rnf (zg h e (fun _ h=>?_) (fun _ h=>?_)))))))
 ·refine wkf (zp (zB (wsr (oM e (oM e (oM e (zb h fun y1476 hy1476 h=>oT (zA (zlu hy1476) hT (.cons e zQ (s2 e e)) .nil ?_))))))))
  refine rnf (zg h e (fun _ h=>?_) (fun _ h=>?_))
  ·refine wsr (oM e (oA e (oA e (oA e (rnf (zD (zz (zx ?_))))))))
   refine rL1351 _ (zz (zx ?_))
   cases h
   exact zh (.as e (zed (α:=Int)) (.tmp e (.tmp e .nil))) .nil ⟨e,e⟩
  refine z6 (zq (zE (zt (oM e (zO h fun q1477 h=>oV (zan e e q1477) (oA e (zF ?_)))))))
  exact hL1351 _ () h _ (jk 13 11 e e e)
 refine zam (z8 (eL1351 _ _ (zL (zE (wsr (oA e (rnf (zp ?_))))))))
 refine zB (zgZ (zbh) (zbx (ι:=(List Int)) (γ:=Tok) (fun q1478 g1478=>[(12,appv g1478 (q1478))]) (fun q1478 g1478=>[tokE g1478]) h (none) (za (j:=12) e zb4 ze) k1 (fun L1479 q1478 g1478 Q1599 h hL1479 eL1479 rL1479=>zp (wsr (oM e (oV (zaH (l:=q1478) e zQ sl23) (oV (zI e GMod.f2 zd7 e (z:=a_m.names)) (oV (zd ty22 e) ?_))))))))
 refine oV (zaH (l:=a_m.names) e hI sl22) (oV (zay e e) (rnf (zg h e (fun _ h=>?_) (fun _ h=>?_))))
 ·refine wkf (zB (wsr (oA e (rnf (zB (zbx (ι:=Int) (γ:=Unit) (fun q1539 g1539=>[(13,isv (q1539))]) (fun q1539 g1539=>[]) h () (za (j:=13) e hI ze) .nil (fun L1540 q1539 g1539 Q1597 h hL1540 eL1540 rL1540=>zp (wsr ?_))))))))
  refine oM e (oV (zI e GMod.f2 zd7 e (z:=a_m.names)) (oV (zd ty22 e) (oV (zaH (l:=a_m.names) e hI sl22) (oV (zay e e) (rnf (zg h e (fun _ h=>?_) (fun _ h=>?_)))))))
  ·refine wkf (zp (zB (wsr (oM e (oM e (zb h fun y1569 hy1569 h=>oT (zA (zgm hy1569) hT (.cons e zQ (s1 e)) .nil (oV (za2 e) ?_))))))))
   refine oA e (rnf (zp (wsr (oA e (rnf (zB (zbx (ι:=Bool × Int) (γ:=Unit) (fun q1570 g1570=>[(14,isv (q1570.1)),(15,isv (q1570.2))]) (fun q1570 g1570=>[]) h () (za (j:=14) e hI (za (j:=15) e hI ze)) .nil (fun L1571 q1570 g1570 Q1596 h hL1571 eL1571 rL1571=>zp ?_))))))))
   refine wsr (oM e (oM e (oM e (zb h fun y1584 hy1584 h=>oV (zaz (l:=q807.1) e zQ e sl36 hy1584) (oV (zd ty23 e) (oV (zaH (l:=y1584) e hI sl23) (oV (zay e e) ?_)))))))
   refine rnf (zg h e (fun _ h=>?_) (fun _ h=>?_))
   ·refine wkf (zp (zB (zt (oM e (oM e (zab (jb 113) je .nil h 10 e (fun q1585 g1585 h=>?_) (fun J1586 h hJ1586=>?_)))))))
    ·refine oA e (zF (zq (zE (zt (oM e (zO h fun q1591 h=>oV (zan e e q1591) (oA e ?_)))))))
     exact zF (hL1571 _ () h _ (zf 16 e e (za (j:=14) e hI (za (j:=15) e hI ze)) k2))
    refine zn (j:=103) h e (fun g1587 h=>?_) (fun g1587 h=>?_)
    ·refine oK 103 e e e g1587 (zs e) (oK 103 e e e g1587 (zs e) (oK 103 e e e g1587 (zs e) (zb h fun y1588 hy1588 h=>oK 103 e e e g1587 (zaz (l:=q807.1) e zQ e sl36 hy1588) (oK 103 e e e g1587 (zd ty23 e) (oK 103 e e e g1587 (zs e) (zb h fun y1589 hy1589 h=>oK 103 e e e g1587 (zaz (l:=y1588) e hI e sl23 hy1589) ?_))))))
     exact oK 103 e e e g1587 (zd ty3 e) (zb h fun y1590 hy1590 h=>zai e e (dj:=103) e g1587 (zA (zgm hy1590) hT (.cons e zQ (s1 e)) .nil (oV (zi e g1587 e) (hJ1586 _ () h _ (zf 10 e e (za (j:=113) e hI ze) k2)))))
    refine oP 103 e e g1587 (oP 103 e e g1587 (oP 103 e e g1587 (oP 103 e e g1587 (oP 103 e e g1587 (oP 103 e e g1587 (oP 103 e e g1587 (oP 103 e e g1587 (oP 103 e e g1587 ?_))))))))
    exact oV (zj e g1587 e) (hJ1586 _ () h _ (zf 10 e e (za (j:=113) e hI ze) k2))
   refine zam (z8 (eL1571 _ _ (zL (zE (wsr (oM e (rnf (zg h e (fun _ h=>?_) (fun _ h=>?_)))))))))
   ·refine wsr (oM e (oM e (oT (zZ (l:=([q1539]:(List Int))) el23 (.cons e hI .nil) e e (zaf h fun q1594 h=>oT (zbU (l:=q1478) (m:=([q1539]:(List Int))) zd6 e hI e zQ .here q1594 fun t1593=>oA e (rnf (zam ?_))))))))
    exact zgY e (z8 (eL1540 _ _ (zL (zq (hL1479 _ (t1593) h _ (zf 35 e e (za (j:=12) e hI ze) k2))))))
   refine z6 (zq (zE (zt (oM e (zO h fun q1595 h=>oV (zan e e q1595) (oA e (zF ?_)))))))
   exact hL1540 _ () h _ (zf 25 e e (za (j:=13) e hI ze) k2)
  exact zam (z8 (eL1540 _ _ (zL (zq (hL1479 _ (g1478) h _ (zf 14 e e (za (j:=12) e hI ze) k2))))))
 refine zam (z8 (eL1479 _ _ (zL (zE (wsr (oM e (oA e (oA e ?_))))))))
 refine oA e (rnf (zD ?_))
 cases h
 exact zh (.as e zQ (.tmp e (.tmp e .nil))) .nil ⟨e,e⟩

end Go.Proofs.Q


namespace Go.Proofs.Q
open Go.Sy
set_option maxRecDepth 4000
theorem zbv:∀ {a_x:GMk} {a_e:Int} {zJ:Nat} {zad:Vt} {r:GMk},zbe a_x a_e=some r→Ctr Tryz.prog 150 [ptrv zJ (Fld.id (GMod × Vh × Int)),isv (a_e)] [boxE zJ ((a_x.m,(Vh.mk zad a_x.l.length),a_x.e):(GMod × Vh × Int)),vecE zad (a_x.l:List GTyp)] (fun R H=>R=oneOf []∧H=[boxE zJ ((r.m,(Vh.mk zad r.l.length),r.e)),vecE zad (r.l)]):=by
 intro a_x a_e zJ zad r h
 unfold zbe at h
 refine zr Tryz.func150 e fun w0 S0 hT=>wsr (oM e (oV (zw e) (oV (zY e zcz zdG) (oT (zH (R:=isv (a_x.e)) ty65 e .here hI (oV (zaa e e) (rnf (zg h e (fun _ h=>?_) (fun _ h=>?_)))))))))
 ·refine zt (oM e (oM e (oV (zw e) (oV (zY e zcz zdG) (oT (zo (y':=((a_x.m,(Vh.mk zad a_x.l.length),a_e):(GMod × Vh × Int))) ty65 e e hI .here e (zF (zaP .nil k2 ?_))))))))
  cases h
  exact ⟨e,e⟩
 refine z6 (zaP .nil k2 ?_)
 cases h
 exact ⟨e,e⟩


theorem zjj:∀ {zei:Int} {r:Tag},zeI zei=some r→Ctr Tryz.prog 151 [isv (zei)] [] (fun R H=>R=oneOf [isv (r)]∧H=[]):=by
 intro zei r h
 unfold zeI at h
 refine zr Tryz.func151 e fun w0 S0 hT=>wsr (oT (zag _ ze31 fun b1=>rnf (zp (wsr (oM e (rnf (zB ?_)))))))
 refine wsr (oV (zaa e e) (oA e (rnf (zg h e (fun _ h=>?_) (fun _ h=>?_)))))
 ·refine wsr (oV (zar (z:=(Tag.mk (0:Int) (1:Int))) e bu31 ze31 (.cons Tag.f1 zeW e hI .nil)) (oT (zo (y':=((Tag.mk (0:Int) (1:Int)):Tag)) ty31 e e hI .here e (rnf (zD (zz (zx ?_)))))))
  cases h
  exact zh (.cell e .here ty31 .nil) .nil ⟨e,e⟩
 refine wsr (oV (zaa e e) (oA e (rnf (zg h e (fun _ h=>?_) (fun _ h=>?_)))))
 ·refine wsr (oV (zar (z:=(Tag.mk (0:Int) (2:Int))) e bu31 ze31 (.cons Tag.f1 zeW e hI .nil)) (oT (zo (y':=((Tag.mk (0:Int) (2:Int)):Tag)) ty31 e e hI .here e (rnf (zD (zz (zx ?_)))))))
  cases h
  exact zh (.cell e .here ty31 .nil) .nil ⟨e,e⟩
 refine wsr (oV (zaa e e) (oA e (rnf (zg h e (fun _ h=>?_) (fun _ h=>?_)))))
 ·refine wsr (oV (zar (z:=(Tag.mk (0:Int) (4:Int))) e bu31 ze31 (.cons Tag.f1 zeW e hI .nil)) (oT (zo (y':=((Tag.mk (0:Int) (4:Int)):Tag)) ty31 e e hI .here e (rnf (zD (zz (zx ?_)))))))
  cases h
  exact zh (.cell e .here ty31 .nil) .nil ⟨e,e⟩
 refine wsr (oV (zaa e e) (oA e (rnf (zg h e (fun _ h=>?_) (fun _ h=>?_)))))
 ·refine wsr (oV (zar (z:=(Tag.mk (0:Int) (5:Int))) e bu31 ze31 (.cons Tag.f1 zeW e hI .nil)) (oT (zo (y':=((Tag.mk (0:Int) (5:Int)):Tag)) ty31 e e hI .here e (rnf (zD (zz (zx ?_)))))))
  cases h
  exact zh (.cell e .here ty31 .nil) .nil ⟨e,e⟩
 refine wsr (oV (zaa e e) (oA e (rnf (zg h e (fun _ h=>?_) (fun _ h=>?_)))))
 ·refine wsr (oV (zar (z:=(Tag.mk (0:Int) (10:Int))) e bu31 ze31 (.cons Tag.f1 zeW e hI .nil)) (oT (zo (y':=((Tag.mk (0:Int) (10:Int)):Tag)) ty31 e e hI .here e (rnf (zD (zz (zx ?_)))))))
  cases h
  exact zh (.cell e .here ty31 .nil) .nil ⟨e,e⟩
 refine wsr (oV (zaa e e) (oA e (rnf (zg h e (fun _ h=>?_) (fun _ h=>?_)))))
 ·refine wsr (oV (zar (z:=(Tag.mk (0:Int) (12:Int))) e bu31 ze31 (.cons Tag.f1 zeW e hI .nil)) (oT (zo (y':=((Tag.mk (0:Int) (12:Int)):Tag)) ty31 e e hI .here e (rnf (zD (zz (zx ?_)))))))
  cases h
  exact zh (.cell e .here ty31 .nil) .nil ⟨e,e⟩
 refine zp (wsr (oV (zaa e e) (oA e (rnf (zdF (jb 22) je .nil h (fun q2 g2 h=>?_) (fun J3 h hJ3=>?_))))))
 ·refine zg h e (fun _ h=>?_) (fun _ h=>?_)
  ·refine wsr (oV (zar (z:=(Tag.mk (0:Int) (16:Int))) e bu31 ze31 (.cons Tag.f1 zeW e hI .nil)) (oT (zo (y':=((Tag.mk (0:Int) (16:Int)):Tag)) ty31 e e hI .here e (rnf (zD (zz (zx ?_)))))))
   cases h
   exact zh (.cell e .here ty31 .nil) .nil ⟨e,e⟩
  refine wsr (oV (zaa e e) (oA e (rnf (zg h e (fun _ h=>?_) (fun _ h=>?_)))))
  ·refine wsr (oV (zar (z:=(Tag.mk (0:Int) (17:Int))) e bu31 ze31 (.cons Tag.f1 zeW e hI .nil)) (oT (zo (y':=((Tag.mk (0:Int) (17:Int)):Tag)) ty31 e e hI .here e (rnf (zD (zz (zx ?_)))))))
   cases h
   exact zh (.cell e .here ty31 .nil) .nil ⟨e,e⟩
  refine z6 (zq (zE (wsr (oV (zar (z:=(Tag.mk (0:Int) (0:Int))) e bu31 ze31 .nil) (oT (zo (y':=((Tag.mk (0:Int) (0:Int)):Tag)) ty31 e e hI .here e (rnf (zD ?_))))))))
  cases h
  exact zh (.cell e .here ty31 .nil) .nil ⟨e,e⟩
 refine zg h e (fun _ h=>?_) (fun _ h=>?_)
 ·exact z6 (hJ3 _ () h _ (jk 0 22 e e e))
 exact zt (oV (zaa e e) (oA e (zF (hJ3 _ () h _ (jk 2 22 e e e)))))


theorem zlF:∀ {a_c:GCon} {zjz:Bool} {r:Int},zc1 a_c zjz=some r→Ctr Tryz.prog 152 [isv (a_c),isv (zjz)] [] (fun R H=>R=oneOf [isv (r)]∧H=[]):=by
 intro a_c zjz r h
 unfold zc1 at h
 refine zr Tryz.func152 e fun w0 S0 hT=>wsr (oT (zaw (y:=a_c) e hI (oA e (rnf (zp (wsr (oV (zI e GCon.f0 zkN e (z:=a_c.has)) (oV (zd ty4 e) ?_))))))))
 refine oV (za2 e) (rnf (zg h e (fun _ h=>?_) (fun _ h=>?_)))
 ·refine wsr (oA e (rnf (zD (zx ?_))))
  cases h
  exact zh (.tmp e .nil) .nil ⟨e,e⟩
 refine wkf (zp (wsr (oV (zI e GCon.f1 ziO e (z:=a_c.hasLow)) (oV (zd ty4 e) (oM e (zab (jb 13) je .nil h 3 e (fun q1 g1 h=>?_) (fun J2 h hJ2=>?_)))))))
 ·refine oM e (zab (jb 20) je .nil h 6 e (fun q4 g4 h=>?_) (fun J5 h hJ5=>?_))
  ·refine rnf (zg h e (fun _ h=>?_) (fun _ h=>?_))
   ·refine wsr (oA e (rnf (zD (zx ?_))))
    cases h
    exact zh (.tmp e .nil) .nil ⟨e,e⟩
   refine wkf (zp (wsr (oM e (oM e (zab (jb 50) je .nil h 28 e (fun q7 g7 h=>?_) (fun J8 h hJ8=>?_))))))
   ·refine rnf (zg h e (fun _ h=>?_) (fun _ h=>?_))
    ·refine wsr (oA e (rnf (zD (zx ?_))))
     cases h
     exact zh (.tmp e .nil) .nil ⟨e,e⟩
    refine wkf (wsr (oA e (rnf (zD ?_))))
    cases h
    exact zh (.tmp e .nil) .nil ⟨e,e⟩
   refine zn (j:=22) h e (fun g9 h=>?_) (fun g9 h=>?_)
   ·refine oK 22 e e e g9 (zI e GCon.f1 ziO e (z:=a_c.hasLow)) (oK 22 e e e g9 (zd ty4 e) (oK 22 e e e g9 (za2 e) (oK 22 e e e g9 (zs e) (zab (jb 30) je .nil h 4 e (fun q10 g10 h=>?_) (fun J11 h hJ11=>?_)))))
    ·refine oK 22 e e e g9 (zs e) (zab (jb 35) je .nil h 4 e (fun q13 g13 h=>?_) (fun J14 h hJ14=>?_))
     ·refine oK 22 e e e g9 (zs e) (zab (jb 49) je .nil h 13 e (fun q16 g16 h=>?_) (fun J17 h hJ17=>?_))
      ·exact oV (zi e g9 e) (hJ8 _ () h _ (ji 10 50 e e e))
      refine zn (j:=36) h e (fun g18 h=>?_) (fun g18 h=>?_)
      ·refine oP 36 e e g18 (oP 36 e e g18 (oP 36 e e g18 (zk e (dj:=39) e (zk e (dj:=39) e (zk e (dj:=39) e (zk e (dj:=39) e (zk e (dj:=43) e (zk e (dj:=43) e ?_))))))))
       exact zk e (dj:=43) e (zk e (dj:=39) e (oP 36 e e g18 (oK 22 e e e g9 (zi e g18 e) (hJ17 _ () h _ (ji 13 49 e e e)))))
      refine oK 36 e e e g18 (zI e GCon.f2 ziZ e (z:=a_c.hasHigh)) (oK 36 e e e g18 (zd ty4 e) (oK 36 e e e g18 (zs e) (zab (jb 48) je .nil h 9 e (fun q19 g19 h=>?_) (fun J20 h hJ20=>?_))))
      ·exact oK 22 e e e g9 (zj e g18 e) (hJ17 _ () h _ (ji 5 49 e e e))
      refine zn (j:=39) h e (fun g21 h=>?_) (fun g21 h=>?_)
      ·refine oK 39 e e e g21 (zI e GCon.f5 zig e (z:=a_c.high)) (oK 39 e e e g21 (zd ty2 e) (oK 39 e e e g21 (zay e e) (oK 39 e e e g21 (zs e) (zab (jb 47) je .nil h 4 e (fun q22 g22 h=>?_) (fun J23 h hJ23=>?_)))))
       ·exact oK 36 e e e g18 (zi e g21 e) (hJ20 _ () h _ (ji 6 48 e e e))
       refine zn (j:=43) h e (fun g24 h=>?_) (fun g24 h=>?_)
       ·exact oP 43 e e g24 (oP 43 e e g24 (oP 43 e e g24 (oK 39 e e e g21 (zi e g24 e) (hJ23 _ () h _ (ji 4 47 e e e)))))
       exact oK 43 e e e g24 (zI e GCon.f5 zig e (z:=a_c.high)) (oK 43 e e e g24 (zd ty2 e) (oK 43 e e e g24 (zb1 e e) (oK 39 e e e g21 (zj e g24 e) (hJ23 _ () h _ (ji 4 47 e e e)))))
      refine oP 39 e e g21 (oP 39 e e g21 (oP 39 e e g21 (oP 39 e e g21 (zk e (dj:=43) e (zk e (dj:=43) e (zk e (dj:=43) e (oP 39 e e g21 (oK 36 e e e g18 (zj e g21 e) ?_))))))))
      exact hJ20 _ () h _ (ji 9 48 e e e)
     refine zn (j:=31) h e (fun g15 h=>?_) (fun g15 h=>?_)
     ·exact oP 31 e e g15 (oP 31 e e g15 (oP 31 e e g15 (oK 22 e e e g9 (zi e g15 e) (hJ14 _ () h _ (ji 4 35 e e e)))))
     exact oK 31 e e e g15 (zI e GCon.f4 zh0 e (z:=a_c.low)) (oK 31 e e e g15 (zd ty2 e) (oK 31 e e e g15 (zb1 e e) (oK 22 e e e g9 (zj e g15 e) (hJ14 _ () h _ (ji 4 35 e e e)))))
    refine zn (j:=26) h e (fun g12 h=>?_) (fun g12 h=>?_)
    ·exact oP 26 e e g12 (oP 26 e e g12 (oP 26 e e g12 (oK 22 e e e g9 (zi e g12 e) (hJ11 _ () h _ (ji 4 30 e e e)))))
    exact oK 26 e e e g12 (zI e GCon.f4 zh0 e (z:=a_c.low)) (oK 26 e e e g12 (zd ty2 e) (oK 26 e e e g12 (zay e e) (oK 22 e e e g9 (zj e g12 e) (hJ11 _ () h _ (ji 4 30 e e e)))))
   refine oP 22 e e g9 (oP 22 e e g9 (oP 22 e e g9 (oP 22 e e g9 (zk e (dj:=26) e (zk e (dj:=26) e (zk e (dj:=26) e (oP 22 e e g9 (oP 22 e e g9 ?_))))))))
   refine zk e (dj:=31) e (zk e (dj:=31) e (zk e (dj:=31) e (oP 22 e e g9 (oP 22 e e g9 (zk e (dj:=36) e (zk e (dj:=36) e (zk e (dj:=36) e (zk e (dj:=39) e ?_))))))))
   refine zk e (dj:=39) e (zk e (dj:=39) e (zk e (dj:=39) e (zk e (dj:=43) e (zk e (dj:=43) e (zk e (dj:=43) e (zk e (dj:=39) e (zk e (dj:=36) e (oP 22 e e g9 ?_))))))))
   exact oV (zj e g9 e) (hJ8 _ () h _ (ji 28 50 e e e))
  refine zn (j:=14) h e (fun g6 h=>?_) (fun g6 h=>?_)
  ·exact oK 14 e e e g6 (zI e GCon.f4 zh0 e (z:=a_c.low)) (oK 14 e e e g6 (zd ty2 e) (oK 14 e e e g6 (zI e GCon.f5 zig e (z:=a_c.high)) (oK 14 e e e g6 (zd ty2 e) (oK 14 e e e g6 (zb1 e e) (oV (zi e g6 e) (hJ5 _ () h _ (ji 6 20 e e e)))))))
  exact oP 14 e e g6 (oP 14 e e g6 (oP 14 e e g6 (oP 14 e e g6 (oP 14 e e g6 (oV (zj e g6 e) (hJ5 _ () h _ (ji 6 20 e e e)))))))
 refine zn (j:=10) h e (fun g3 h=>?_) (fun g3 h=>?_)
 ·exact oK 10 e e e g3 (zI e GCon.f2 ziZ e (z:=a_c.hasHigh)) (oK 10 e e e g3 (zd ty4 e) (oV (zi e g3 e) (hJ2 _ () h _ (ji 3 13 e e e))))
 exact oP 10 e e g3 (oP 10 e e g3 (oV (zj e g3 e) (hJ2 _ () h _ (ji 3 13 e e e))))


theorem zlU:∀ {a_l:(List GItem)} {a_v:Int} {r:Bool},ziK a_l a_v=some r→Ctr Tryz.prog 174 [isv (a_l),isv (a_v)] [] (fun R H=>R=oneOf [isv (r)]∧H=[]):=by
 intro a_l a_v r h
 unfold ziK at h
 refine zr Tryz.func174 e fun w0 S0 hT=>wsr (oA e (rnf (zp (wsr (oA e (rnf (zB ?_)))))))
 refine zbx (ι:=Int) (γ:=Unit) (fun q1 g1=>[(5,isv (q1))]) (fun q1 g1=>[]) h () (za (j:=5) e hI ze) .nil (fun L2 q1 g1 Q15 h hL2 eL2 rL2=>zp (wsr (oM e (oM e (oV (zaH (l:=a_l) e hI sl84) (oV (zay e e) (rnf (zg h e (fun _ h=>?_) (fun _ h=>?_)))))))))
 ·refine wkf (zp (zB (wsr (oM e (oM e (zb h fun y9 hy9 h=>oV (zaz (l:=a_l) e hI e sl84 hy9) (oV (zI e GItem.f2 ziL e (z:=y9.has)) ?_)))))))
  refine oV (zd ty4 e) (oM e (zab (jb 25) je .nil h 8 e (fun q10 g10 h=>?_) (fun J11 h hJ11=>?_)))
  ·refine rnf (zg h e (fun _ h=>?_) (fun _ h=>?_))
   ·refine wsr (oA e (rnf (zD (zz (zx (rL2 _ (zz (zx ?_))))))))
    cases h
    exact zh (.tmp e .nil) .nil ⟨e,e⟩
   refine z6 (zq (zE (zt (oM e (zO h fun q14 h=>oV (zan e e q14) (oA e (zF ?_)))))))
   exact hL2 _ () h _ (ji 15 5 e e e)
  refine zn (j:=17) h e (fun g12 h=>?_) (fun g12 h=>?_)
  ·refine oK 17 e e e g12 (zs e) (oK 17 e e e g12 (zs e) (zb h fun y13 hy13 h=>oK 17 e e e g12 (zaz (l:=a_l) e hI e sl84 hy13) (oK 17 e e e g12 (zI e GItem.f1 zdV e (z:=y13.number)) (oK 17 e e e g12 (zd ty2 e) (oK 17 e e e g12 (zs e) (oK 17 e e e g12 (zaa e e) (oV (zi e g12 e) ?_)))))))
   exact hJ11 _ () h _ (ji 8 25 e e e)
  exact oP 17 e e g12 (oP 17 e e g12 (oP 17 e e g12 (oP 17 e e g12 (oP 17 e e g12 (oP 17 e e g12 (oP 17 e e g12 (oV (zj e g12 e) (hJ11 _ () h _ (ji 8 25 e e e)))))))))
 refine zam (z8 (eL2 _ _ (zL (zE (wsr (oA e (rnf (zD ?_))))))))
 cases h
 exact zh (.tmp e .nil) .nil ⟨e,e⟩


theorem zfI:∀ {a_x:GMk} {a_n_:GNode} {zJ:Nat} {zad:Vt} {r:(List GItem) × GMk},zdH a_x a_n_=some r→Ctr Tryz.prog 153 [ptrv zJ (Fld.id (GMod × Vh × Int)),isv (a_n_)] [boxE zJ ((a_x.m,(Vh.mk zad a_x.l.length),a_x.e):(GMod × Vh × Int)),vecE zad (a_x.l:List GTyp)] (fun R H=>R=oneOf [isv (r.1)]∧H=[boxE zJ ((r.2.m,(Vh.mk zad r.2.l.length),r.2.e)),vecE zad (r.2.l)]):=by
 intro a_x a_n_ zJ zad r h
 unfold zdH at h
 refine zr Tryz.func153 e fun w0 S0 hT=>wsr (oT (zaw (y:=a_n_) e hI (oA e (rnf (wsr (oA e (rnf (wsr ?_))))))))
 refine oA e (rnf (zp (wsr (oA e (rnf (zB (zgZ (zbh) (zbx (ι:=(List GItem) × Int × Int) (γ:=Tok) (fun q2 g2=>[(5,appv g2 (q2.1)),(6,isv (q2.2.1)),(7,isv (q2.2.2))]) (fun q2 g2=>[tokE g2]) h (none) (za (j:=5) e zb4 (za (j:=6) e hI (za (j:=7) e hI ze))) k1 (fun L3 q2 g2 Q666 h hL3 eL3 rL3=>?_)))))))))
 refine zp (wsr (oM e (oV (zI e GNode.f6 zfD e (z:=a_n_.root)) (oV (zd ty3 e) (oV (zay e e) (rnf (zg h e (fun _ h=>?_) (fun _ h=>?_))))))))
 ·refine wkf (zp (zB (wsr (oV (zI e GNode.f4 zeH e (z:=a_n_.items)) (oV (zd ty84 e) (oM e (zb h fun y335 hy335 h=>oV (zaz (l:=a_n_.items) e hI e sl84 hy335) ?_)))))))
  refine oV (zd ty97 e) (oT (zag _ ze97 fun b336=>oT (zo (y':=(y335:GItem)) ty97 e e hI .here e (rnf (zp (wsr (oV (zY e GItem.f2 ziL) (oT (zH (R:=isv (y335.has)) ty4 e .here hI (oV (za2 e) ?_))))))))))
  refine rnf (zdF (ι:=Int × GItem) (γ:=Unit) (fun q337 g337=>[(6,isv (q337.1))]) (fun q337 g337=>[boxE b336 (q337.2:GItem)]) k1 h (fun q337 g337 h=>?_) (fun J338 h hJ338=>?_))
  ·refine wsr (oV (zY e GItem.f2 ziL) (oT (zo (y':=({ q337.2 with has:=false }:GItem)) ty4 e e hI .here e (rnf (zt (oM e (oT (zH (R:=isv ({ q337.2 with has:=false })) ty97 e .here hI (oT (zZ (l:=([{ q337.2 with has:=false }]:(List GItem))) el84 (.cons e hI .nil) e e (zaf h fun q352 h=>?_)))))))))))
   refine oT (zbU (l:=q2.1) (m:=([{ q337.2 with has:=false }]:(List GItem))) zjn e hI e zQ tH q352 fun t351=>oA e (zF (zq (zE (zt (oM e (zO h fun q353 h=>oV (zan e e q353) ?_)))))))
   exact oA e (zF (hL3 _ (t351) h _ (zf 26 e e (za (j:=5) e hI (za (j:=6) e hI (za (j:=7) e hI ze))) (.cons .here (.cons tH (.cons tH .nil))))))
  refine zg h e (fun _ h=>?_) (fun _ h=>?_)
  ·refine zp (zB (zbx (ι:=Int) (γ:=Unit) (fun q339 g339=>[(6,isv (q339))]) (fun q339 g339=>[]) h () (za (j:=6) e hI ze) .nil (fun L340 q339 g339 Q349 h hL340 eL340 rL340=>zp (wsr (oV (zI e GNode.f4 zeH e (z:=a_n_.items)) (oV (zd ty84 e) (oV (zI e GNode.f6 zfD e (z:=a_n_.root)) (oV (zd ty3 e) ?_))))))))
   refine zak h fun q345 h=>oV (zfn (l:=a_n_.items) e hI sl84 (.inl ⟨e,e⟩) (.inr ⟨_,e,e⟩) q345.1 q345.2.1 q345.2.2) (oM e (zb h fun y346 hy346 h=>oT (zA (zlU hy346) hT (s2 e e) .nil (rnf (zg h e (fun _ h=>?_) (fun _ h=>?_))))))
   ·refine wkf (zB (zt (oM e (zO h fun q347 h=>oV (zan e e q347) (oA e (zF (zq ?_)))))))
    exact hL340 _ () h _ (zf 11 e e (za (j:=6) e hI ze) k4)
   refine zam (z8 (eL340 _ _ (zL (zE (wsr (oM e (oV (zY e GItem.f1 zdV) (oT (zo (y':=({ y335 with number:=q339 }:GItem)) ty2 e e hI .here e ?_)))))))))
   exact rnf (zt (oM e (zO h fun q348 h=>oV (zan e e q348) (oA e (zF (hJ338 _ () h _ (zf 13 e e (za (j:=6) e hI ze) k4)))))))
  exact z6 (hJ338 _ () h _ (zf 0 e e (za (j:=6) e hI ze) k4))
 refine zam (z8 (eL3 _ _ (zL (zE (wsr (oA e (rnf (wsr ?_))))))))
 refine oA e (oA e (rnf (zp (wsr (oV (zI e GNode.f6 zfD e (z:=a_n_.root)) (oV (zd ty3 e) (oA e (rnf ?_))))))))
 refine zB (zbx (ι:=(List GItem) × Int × Bool × Bool × Int) (γ:=Tok) (fun q354 g354=>[(5,appv g354 (q354.1)),(9,isv (q354.2.1)),(10,isv (q354.2.2.1)),(11,isv (q354.2.2.2.1)),(12,isv (q354.2.2.2.2))]) (fun q354 g354=>[tokE g354]) h (g2) (za (j:=5) e hI (za (j:=9) e hI (za (j:=10) e hI (za (j:=11) e hI (za (j:=12) e hI ze))))) k1 (fun L355 q354 g354 Q664 h hL355 eL355 rL355=>zp (wsr (oM e (oV (zI e GNode.f4 zeH e (z:=a_n_.items)) (oV (zd ty84 e) (oV (zaH (l:=a_n_.items) e hI sl84) (oV (zay e e) ?_))))))))
 refine rnf (zg h e (fun _ h=>?_) (fun _ h=>?_))
 ·refine wkf (zp (zB (wsr (oV (zI e GNode.f4 zeH e (z:=a_n_.items)) (oV (zd ty84 e) (oM e (zb h fun y558 hy558 h=>oV (zaz (l:=a_n_.items) e hI e sl84 hy558) ?_)))))))
  refine oV (zd ty97 e) (oT (zag _ ze97 fun b559=>oT (zo (y':=(y558:GItem)) ty97 e e hI .here e (rnf (zp (wsr (oV (zY e GItem.f2 ziL) (oT (zH (R:=isv (y558.has)) ty4 e .here hI (oV (za2 e) ?_))))))))))
  refine rnf (zdF (ι:=GItem) (γ:=Unit) (fun q560 g560=>[(13,ptrv b559 (Fld.id GItem))]) (fun q560 g560=>[boxE b559 (q560:GItem)]) k1 h (fun q560 g560 h=>?_) (fun J561 h hJ561=>?_))
  ·refine wsr (oM e (oM e (zab (jb 109) je .nil h 8 e (fun q591 g591 h=>?_) (fun J592 h hJ592=>?_))))
   ·refine oA e (rnf (wsr (oV (zY e GItem.f2 ziL) (oT (zo (y':=({ q560 with has:=false }:GItem)) ty4 e e hI .here e (rnf (wsr (oV (zY e GItem.f1 zdV) (oT (zH (R:=isv (q560.number)) ty2 e .here hI ?_))))))))))
    refine oA e (oA e (rnf (zt (oM e (oT (zH (R:=isv ({ q560 with has:=false })) ty97 e .here hI (oT (zZ (l:=([{ q560 with has:=false }]:(List GItem))) el84 (.cons e hI .nil) e e (zaf h fun q599 h=>oT (zbU (l:=q354.1) (m:=([{ q560 with has:=false }]:(List GItem))) zjn e hI e zQ tH q599 fun t598=>?_))))))))))
    refine oA e (zF (zq (zE (zt (oM e (zO h fun q600 h=>oV (zan e e q600) (oA e ?_)))))))
    exact zF (hL355 _ (t598) h _ (zf 37 e e (za (j:=5) e hI (za (j:=9) e hI (za (j:=10) e hI (za (j:=11) e hI (za (j:=12) e hI ze))))) (.cons .here (.cons tH (.cons tH .nil)))))
   refine zn (j:=101) h e (fun g593 h=>?_) (fun g593 h=>?_)
   ·exact oP 101 e e g593 (oP 101 e e g593 (zk e (dj:=103) e (zk e (dj:=103) e (zk e (dj:=103) e (zk e (dj:=103) e (oP 101 e e g593 (oV (zi e g593 e) (hJ592 _ () h _ (zf 8 e e (za (j:=109) e hI ze) k4)))))))))
   refine oK 101 e e e g593 (zs e) (oK 101 e e e g593 (zs e) (zab (jb 108) je .nil h 5 e (fun q594 g594 h=>?_) (fun J595 h hJ595=>?_)))
   ·exact oV (zj e g593 e) (hJ592 _ () h _ (zf 4 e e (za (j:=109) e hI ze) k4))
   refine zn (j:=103) h e (fun g596 h=>?_) (fun g596 h=>?_)
   ·exact oK 103 e e e g596 (zY e GItem.f1 zdV) (zai e e (dj:=103) e g596 (zH (R:=isv (q560.number)) ty2 e .here hI (oK 103 e e e g596 (zs e) (oK 103 e e e g596 (zhL e e) (oK 101 e e e g593 (zi e g596 e) (hJ595 _ () h _ (zf 5 e e (za (j:=108) e hI ze) k4)))))))
   exact oP 103 e e g596 (oP 103 e e g596 (oP 103 e e g596 (oP 103 e e g596 (oK 101 e e e g593 (zj e g596 e) (hJ595 _ () h _ (zf 5 e e (za (j:=108) e hI ze) k4))))))
  refine zg h e (fun _ h=>?_) (fun _ h=>?_)
  ·refine wsr (oV (zY e GItem.f1 zdV) (oT (zo (y':=({ y558 with number:=(0:Int) }:GItem)) ty2 e e hI .here e (rnf (wsr (oA e (rnf (zB (zbx (ι:=Int × GItem) (γ:=Unit) (fun q562 g562=>[(13,ptrv b559 (Fld.id GItem)),(14,isv (q562.1))]) (fun q562 g562=>[boxE b559 (q562.2:GItem)]) h () (za (j:=13) e hI (za (j:=14) e hI ze)) k1 (fun L563 q562 g562 Q590 h hL563 eL563 rL563=>?_))))))))))
   refine zp (wsr (oM e (oM e (oV (zaH (l:=q354.1) e zQ sl84) (oV (zay e e) (rnf (zg h e (fun _ h=>?_) (fun _ h=>?_))))))))
   ·refine wkf (zp (zdF (ι:=GItem) (γ:=Unit) (fun q577 g577=>[(13,ptrv b559 (Fld.id GItem))]) (fun q577 g577=>[boxE b559 (q577:GItem)]) k1 h (fun q577 g577 h=>?_) (fun J578 h hJ578=>?_)))
    ·exact zt (oM e (zO h fun q589 h=>oV (zan e e q589) (oA e (zF (hL563 _ () h _ (zf 10 e e (za (j:=13) e hI (za (j:=14) e hI ze)) k4))))))
    refine zB (zp (wsr (oM e (oM e (zb h fun y579 hy579 h=>oV (zaz (l:=q354.1) e zQ e sl84 hy579) (oV (zI e GItem.f1 zdV e (z:=y579.number)) (oV (zd ty2 e) ?_)))))))
    refine oV (zaa e e) (rnf (zg h e (fun _ h=>?_) (fun _ h=>?_)))
    ·refine wsr (oM e (zb h fun y580 hy580 h=>oT (zA (zbv hy580) hT (s2 e e) (.cons tI (.cons tI .nil)) (rnf (wsr (oA e (rnf (zD ?_))))))))
     refine zx (zz (zx (rL563 _ (zz (zx (zz (zx (rL355 _ ?_))))))))
     refine zz (zx ?_)
     cases h
     exact zh (.as e (zed (α:=GItem)) .nil) k2 ⟨e,e⟩
    refine wkf (zp (zdh 13 .here e (fun o581 hn582=>zae (.v 0 (.v 1 (.v 2 (.v 3 (.v 4 (.v 5 (.v 6 (.v 7 (.v 8 (.v 9 (.v 10 (.v 11 .nil)))))))))))) moOrd (by kernel_rfl) ?_)))
    refine rvm e e (zC e (zaa e e) (rvm e e (zdk (jb 92) je .nil h 9 e (fun q583 g583 h=>?_) (fun J584 h hJ584=>?_))))
    ·refine zaA (za7 13 hn582 e (zE (zg h e (fun _ h=>?_) (fun _ h=>?_))))
     ·refine zt (oM e (oM e (zb h fun y587 hy587 h=>oV (zaz (l:=q354.1) e zQ e sl84 hy587) (oV (zI e GItem.f1 zdV e (z:=y587.number)) (oV (zd ty2 e) (zO h fun q588 h=>oV (zan e e q588) ?_))))))
      exact oV (zY e GItem.f1 zdV) (oT (zo (y':=({ q562.2 with number:=(y587.number + (1:Int)) }:GItem)) ty2 e e hI .here e (zF (zq (hJ578 _ () h _ (zf 19 e e (za (j:=13) e hI ze) k4))))))
     exact z6 (zq (hJ578 _ () h _ (zf 12 e e (za (j:=13) e hI ze) k4)))
    refine zaJ (j:=83) h e (fun g585 h=>?_) (fun g585 h=>?_)
    ·refine rpv 83 e e e g585 (rpv 83 e e e g585 (rpv 83 e e e g585 (rpv 83 e e e g585 (rpv 83 e e e g585 (rpv 83 e e e g585 (rpv 83 e e e g585 (rpv 83 e e e g585 (zC e (zi e g585 e) ?_))))))))
     exact hJ584 _ () h _ (zf 9 e e (za (j:=92) e hI ze) k3)
    refine rvt 83 e e e g585 (zs e) (rvt 83 e e e g585 (zs e) (zb h fun y586 hy586 h=>rvt 83 e e e g585 (zaz (l:=q354.1) e zQ e sl84 hy586) (rvt 83 e e e g585 (zI e GItem.f1 zdV e (z:=y586.number)) (rvt 83 e e e g585 (zd ty2 e) (rvt 83 e e e g585 (zf0 e GItem.f1 zdV) (rvt 83 e e e g585 (zdx (R:=isv (q562.2.number)) ty2 e (List.Mem.head _) hI) (rvt 83 e e e g585 (zcR e e) ?_)))))))
    exact zC e (zj e g585 e) (hJ584 _ () h _ (zf 9 e e (za (j:=92) e hI ze) k3))
   exact zam (z8 (eL563 _ _ (zL (hJ561 _ () h _ (zf 8 e e (za (j:=13) e hI ze) k4)))))
  exact z6 (hJ561 _ () h _ (zf 0 e e (za (j:=13) e hI ze) k4))
 refine zam (z8 (eL355 _ _ (zL (zE (zp (wsr (oA e (rnf ?_))))))))
 refine zB (zbx (ι:=Bool × Int) (γ:=Unit) (fun q601 g601=>[(11,isv (q601.1)),(15,isv (q601.2))]) (fun q601 g601=>[]) h () (za (j:=11) e hI (za (j:=15) e hI ze)) .nil (fun L602 q601 g601 Q663 h hL602 eL602 rL602=>zp (wsr (oM e (oM e (oV (zaH (l:=q354.1) e zQ sl84) (oV (zay e e) (rnf ?_))))))))
 refine zg h e (fun _ h=>?_) (fun _ h=>?_)
 ·refine wkf (zp (zB (wsr (oA e (rnf (zB (zbx (ι:=Bool × Int) (γ:=Unit) (fun q633 g633=>[(11,isv (q633.1)),(16,isv (q633.2))]) (fun q633 g633=>[]) h () (za (j:=11) e hI (za (j:=16) e hI ze)) .nil (fun L634 q633 g633 Q659 h hL634 eL634 rL634=>zp ?_))))))))
  refine wsr (oM e (oM e (oV (zay e e) (rnf (zg h e (fun _ h=>?_) (fun _ h=>?_))))))
  ·refine wkf (zp (zB (zae (.v 0 (.v 1 (.v 2 (.v 3 (.v 4 (.v 5 (.v 6 (.v 7 (.v 8 (.v 9 (.v 10 (.v 11 (.v 12 (.v 13 (.v 14 (.v 15 (.v 16 (.v 17 (.v 18 (.v 19 (.v 20 (.v 21 (.v 22 (.v 23 (.v 24 (.v 25 (.v 26 (.v 27 .nil)))))))))))))))))))))))))))) moOrd (by kernel_rfl) ?_)))
   refine rvm e e (rvm e e (zdk (jb 141) je .nil h 12 e (fun q647 g647 h=>?_) (fun J648 h hJ648=>?_)))
   ·refine rvm e e (zdk (jb 154) je .nil h 12 e (fun q652 g652 h=>?_) (fun J653 h hJ653=>?_))
    ·refine zC e (zaM e) (zaA (zq (zE (zt (oM e (zO h fun q657 h=>oV (zan e e q657) (oA e ?_)))))))
     exact zF (hL634 _ () h _ (zf 14 e e (za (j:=11) e hI (za (j:=16) e hI ze)) k3))
    refine zaJ (j:=142) h e (fun g654 h=>?_) (fun g654 h=>?_)
    ·refine rpv 142 e e e g654 (rpv 142 e e e g654 (rpv 142 e e e g654 (rpv 142 e e e g654 (rpv 142 e e e g654 (rpv 142 e e e g654 (rpv 142 e e e g654 (rpv 142 e e e g654 (rpv 142 e e e g654 ?_))))))))
     exact rpv 142 e e e g654 (rpv 142 e e e g654 (zC e (zi e g654 e) (hJ653 _ () h _ (zf 12 e e (za (j:=154) e hI ze) k3))))
    refine rvt 142 e e e g654 (zs e) (rvt 142 e e e g654 (zs e) (zb h fun y655 hy655 h=>rvt 142 e e e g654 (zaz (l:=q354.1) e zQ e sl84 hy655) (rvt 142 e e e g654 (zI e GItem.f1 zdV e (z:=y655.number)) (rvt 142 e e e g654 (zd ty2 e) (rvt 142 e e e g654 (zs e) (rvt 142 e e e g654 (zs e) (zb h fun y656 hy656 h=>?_)))))))
    exact rvt 142 e e e g654 (zaz (l:=q354.1) e zQ e sl84 hy656) (rvt 142 e e e g654 (zI e GItem.f1 zdV e (z:=y656.number)) (rvt 142 e e e g654 (zd ty2 e) (rvt 142 e e e g654 (zaa e e) (zC e (zj e g654 e) (hJ653 _ () h _ (zf 12 e e (za (j:=154) e hI ze) k3))))))
   refine zaJ (j:=129) h e (fun g649 h=>?_) (fun g649 h=>?_)
   ·refine rpv 129 e e e g649 (rpv 129 e e e g649 (rpv 129 e e e g649 (rpv 129 e e e g649 (rpv 129 e e e g649 (rpv 129 e e e g649 (rpv 129 e e e g649 (rpv 129 e e e g649 (rpv 129 e e e g649 ?_))))))))
    exact rpv 129 e e e g649 (rpv 129 e e e g649 (zC e (zi e g649 e) (hJ648 _ () h _ (zf 12 e e (za (j:=141) e hI ze) k3))))
   refine rvt 129 e e e g649 (zs e) (rvt 129 e e e g649 (zs e) (zb h fun y650 hy650 h=>rvt 129 e e e g649 (zaz (l:=q354.1) e zQ e sl84 hy650) (rvt 129 e e e g649 (zI e GItem.f0 zlm e (z:=y650.name)) (rvt 129 e e e g649 (zd ty9 e) (rvt 129 e e e g649 (zs e) (rvt 129 e e e g649 (zs e) (zb h fun y651 hy651 h=>?_)))))))
   exact rvt 129 e e e g649 (zaz (l:=q354.1) e zQ e sl84 hy651) (rvt 129 e e e g649 (zI e GItem.f0 zlm e (z:=y651.name)) (rvt 129 e e e g649 (zd ty9 e) (rvt 129 e e e g649 (zce eq9 e e) (zC e (zj e g649 e) (hJ648 _ () h _ (zf 12 e e (za (j:=141) e hI ze) k3))))))
  refine zam (z8 (eL634 _ _ (zL (zq (zE (zt (oM e (zO h fun q658 h=>?_))))))))
  exact oV (zan e e q658) (oA e (zF (hL602 _ () h _ (zf 15 e e (za (j:=11) e hI (za (j:=15) e hI ze)) k3))))
 refine zam (z8 (eL602 _ _ (zL (zE (zp (wsr (oM e (rnf ?_))))))))
 refine zdF (ι:=GMk) (γ:=Unit) (fun q660 g660=>[]) (fun q660 g660=>[boxE zJ ((q660.m,(Vh.mk zad q660.l.length),q660.e):(GMod × Vh × Int)),vecE zad (q660.l:List GTyp)]) (.cons tH (.cons tH .nil)) h (fun q660 g660 h=>?_) (fun J661 h hJ661=>?_)
 ·refine wsr (oM e (oA e (rnf (zD ?_))))
  cases h
  exact zh (.as e zQ .nil) k2 ⟨e,e⟩
 refine zg h e (fun _ h=>?_) (fun _ h=>?_)
 ·exact zt (oM e (zb h fun y662 hy662 h=>oT (zA (zbv hy662) hT (s2 e e) (.cons tH (.cons tH .nil)) (zF (hJ661 _ () h _ (zf 2 e e ze k3))))))
 exact z6 (hJ661 _ () h _ (zf 0 e e ze (.cons tH (.cons tH k1))))


theorem ziA:∀ {a_c:GCon} {a_v:Int} {r:Bool},zgF a_c a_v=some r→Ctr Tryz.prog 91 [isv (a_c),isv (a_v)] [] (fun R H=>R=oneOf [isv (r)]∧H=[]):=by
 intro a_c a_v r h
 unfold zgF at h
 refine zr Tryz.func91 e fun w0 S0 hT=>wsr (oT (zaw (y:=a_c) e hI (oA e (rnf (wsr (oV (zI e GCon.f0 zkN e (z:=a_c.has)) (oV (zd ty4 e) (oV (za2 e) ?_))))))))
 refine oM e (zab (jb 29) je .nil h 21 e (fun q1 g1 h=>?_) (fun J2 h hJ2=>?_))
 ·refine oA e (rnf (zD ?_))
  cases h
  exact zh (.tmp e .nil) .nil ⟨e,e⟩
 refine zn (j:=8) h e (fun g3 h=>?_) (fun g3 h=>?_)
 ·refine oP 8 e e g3 (oP 8 e e g3 (oP 8 e e g3 (oP 8 e e g3 (zk e (dj:=12) e (zk e (dj:=12) e (zk e (dj:=12) e (zk e (dj:=12) e (oP 8 e e g3 ?_))))))))
  refine oP 8 e e g3 (zk e (dj:=18) e (zk e (dj:=18) e (zk e (dj:=18) e (zk e (dj:=18) e (zk e (dj:=22) e (zk e (dj:=22) e (zk e (dj:=22) e (zk e (dj:=22) e ?_))))))))
  exact zk e (dj:=18) e (oP 8 e e g3 (oV (zi e g3 e) (hJ2 _ () h _ (ji 21 29 e e e))))
 refine oK 8 e e e g3 (zI e GCon.f1 ziO e (z:=a_c.hasLow)) (oK 8 e e e g3 (zd ty4 e) (oK 8 e e e g3 (za2 e) (oK 8 e e e g3 (zs e) (zab (jb 17) je .nil h 5 e (fun q4 g4 h=>?_) (fun J5 h hJ5=>?_)))))
 ·refine oK 8 e e e g3 (zs e) (zab (jb 28) je .nil h 10 e (fun q7 g7 h=>?_) (fun J8 h hJ8=>?_))
  ·exact oV (zj e g3 e) (hJ2 _ () h _ (ji 8 29 e e e))
  refine zn (j:=18) h e (fun g9 h=>?_) (fun g9 h=>?_)
  ·refine oK 18 e e e g9 (zI e GCon.f2 ziZ e (z:=a_c.hasHigh)) (oK 18 e e e g9 (zd ty4 e) (oK 18 e e e g9 (za2 e) (oK 18 e e e g9 (zs e) (zab (jb 27) je .nil h 5 e (fun q10 g10 h=>?_) (fun J11 h hJ11=>?_)))))
   ·exact oK 8 e e e g3 (zi e g9 e) (hJ8 _ () h _ (ji 6 28 e e e))
   refine zn (j:=22) h e (fun g12 h=>?_) (fun g12 h=>?_)
   ·exact oP 22 e e g12 (oP 22 e e g12 (oP 22 e e g12 (oP 22 e e g12 (oK 18 e e e g9 (zi e g12 e) (hJ11 _ () h _ (ji 5 27 e e e))))))
   exact oK 22 e e e g12 (zs e) (oK 22 e e e g12 (zI e GCon.f5 zig e (z:=a_c.high)) (oK 22 e e e g12 (zd ty2 e) (oK 22 e e e g12 (zhL e e) (oK 18 e e e g9 (zj e g12 e) (hJ11 _ () h _ (ji 5 27 e e e))))))
  refine oP 18 e e g9 (oP 18 e e g9 (oP 18 e e g9 (oP 18 e e g9 (zk e (dj:=22) e (zk e (dj:=22) e (zk e (dj:=22) e (zk e (dj:=22) e (oP 18 e e g9 ?_))))))))
  exact oK 8 e e e g3 (zj e g9 e) (hJ8 _ () h _ (ji 10 28 e e e))
 refine zn (j:=12) h e (fun g6 h=>?_) (fun g6 h=>?_)
 ·exact oP 12 e e g6 (oP 12 e e g6 (oP 12 e e g6 (oP 12 e e g6 (oK 8 e e e g3 (zi e g6 e) (hJ5 _ () h _ (ji 5 17 e e e))))))
 exact oK 12 e e e g6 (zs e) (oK 12 e e e g6 (zI e GCon.f4 zh0 e (z:=a_c.low)) (oK 12 e e e g6 (zd ty2 e) (oK 12 e e e g6 (zcR e e) (oK 8 e e e g3 (zj e g6 e) (hJ5 _ () h _ (ji 5 17 e e e))))))


theorem zbV:∀ {a_s:(List UInt8)} {r:UInt64},zbG a_s=some r→Ctr Tryz.prog 131 [isv (a_s)] [] (fun R H=>R=oneOf [isv (r)]∧H=[]):=by
 intro a_s r h
 unfold zbG at h
 refine zr Tryz.func131 e fun w0 S0 hT=>wsr (oA e (rnf (zp (znU e e (wkf (zp (zae (.v 0 (.v 1 (.v 2 (.v 3 (.v 4 (.v 5 (.v 6 (.v 7 (.v 8 (.v 9 (.v 10 (.v 11 (.v 12 (.v 13 (.v 14 (.v 15 (.v 16 (.v 17 (.v 18 (.v 19 (.v 20 (.v 21 (.v 22 (.v 23 (.v 24 (.v 25 (.v 26 (.v 27 (.v 28 (.v 29 (.v 30 (.v 31 (.v 32 (.v 33 (.v 34 (.v 35 (.v 36 (.v 37 (.v 38 (.v 39 (.v 40 (.v 41 (.v 42 (.v 43 (.v 44 (.v 45 (.v 46 .nil))))))))))))))))))))))))))))))))))))))))))))))) moOrd (by kernel_rfl) ?_)))))))
 refine rvm e e (zb h fun y1 hy1 h=>zC e (zaz (l:=a_s) e hI e sl42 hy1) (zC e (zd ty5 e) (zC e (zdI Tryz.underlying5 Tryz.underlying41 e) (rvm e e (zb h fun y2 hy2 h=>zC e (zaz (l:=a_s) e hI e sl42 hy2) (zC e (zd ty5 e) ?_))))))
 refine zC e (zdI Tryz.underlying5 Tryz.underlying41 e) (zaf h fun q3 h=>zC e (ze8 e e q3) (zC e (zey e e) (rvm e e (zb h fun y4 hy4 h=>zC e (zaz (l:=a_s) e hI e sl42 hy4) (zC e (zd ty5 e) (zC e (zdI Tryz.underlying5 Tryz.underlying41 e) ?_))))))
 refine zaf h fun q5 h=>zC e (ze8 e e q5) (zC e (zey e e) (rvm e e (zb h fun y6 hy6 h=>zC e (zaz (l:=a_s) e hI e sl42 hy6) (zC e (zd ty5 e) (zC e (zdI Tryz.underlying5 Tryz.underlying41 e) (zaf h fun q7 h=>?_))))))
 refine zC e (ze8 e e q7) (zC e (zey e e) (rvm e e (zb h fun y8 hy8 h=>zC e (zaz (l:=a_s) e hI e sl42 hy8) (zC e (zd ty5 e) (zC e (zdI Tryz.underlying5 Tryz.underlying41 e) (zaf h fun q9 h=>zC e (ze8 e e q9) ?_))))))
 refine zC e (zey e e) (rvm e e (zb h fun y10 hy10 h=>zC e (zaz (l:=a_s) e hI e sl42 hy10) (zC e (zd ty5 e) (zC e (zdI Tryz.underlying5 Tryz.underlying41 e) (zaf h fun q11 h=>zC e (ze8 e e q11) (zC e (zey e e) ?_))))))
 refine rvm e e (zb h fun y12 hy12 h=>zC e (zaz (l:=a_s) e hI e sl42 hy12) (zC e (zd ty5 e) (zC e (zdI Tryz.underlying5 Tryz.underlying41 e) (zaf h fun q13 h=>zC e (ze8 e e q13) (zC e (zey e e) (rvm e e ?_))))))
 refine zb h fun y14 hy14 h=>zC e (zaz (l:=a_s) e hI e sl42 hy14) (zC e (zd ty5 e) (zC e (zdI Tryz.underlying5 Tryz.underlying41 e) (zaf h fun q15 h=>zC e (ze8 e e q15) (zC e (zey e e) (zC e (zaM e) (zaA ?_))))))
 refine zE (zD ?_)
 cases h
 exact zh (.tmp e .nil) .nil ⟨e,e⟩


theorem ziB:∀ {a_p:(List UInt8)} {r:Bool},zgf a_p=some r→Ctr Tryz.prog 93 [isv (a_p)] [] (fun R H=>R=oneOf [isv (r)]∧H=[]):=by
 intro a_p r h
 unfold zgf at h
 refine zr Tryz.func93 e fun w0 S0 hT=>wsr (oA e (rnf (wsr (oM e (oM e (oV (zaH (l:=a_p) e hI sl42) (oM e ?_)))))))
 refine oV (zaH (l:=a_p) e hI sl42) (zak h fun q1 h=>oV (zp1 (l:=a_p) e hI sl42 e e q1.1 q1.2) (oA e (rnf (zp (zB (zbx (ι:=(List UInt8)) (γ:=Unit) (fun q2 g2=>[(0,isv (q2))]) (fun q2 g2=>[]) h () (za (j:=0) e hI ze) .nil (fun L3 q2 g2 Q194 h hL3 eL3 rL3=>zp ?_)))))))
 refine wsr (oM e (oV (zaH (l:=q2) e hI sl42) (oV (zb1 e e) (rnf (zg h e (fun _ h=>?_) (fun _ h=>?_))))))
 ·refine wkf (zB (wsr (oM e (zb h fun y99 hy99 h=>oV (zaz (l:=q2) e hI e sl42 hy99) (oV (zd ty5 e) (oA e (rnf ?_)))))))
  refine zp (wsr (oM e (oV (zdY e e) (rnf (zg h e (fun _ h=>?_) (fun _ h=>?_))))))
  ·refine wsr (oM e (zak h fun q100 h=>oV (zfn (l:=q2) e hI sl42 (.inr ⟨_,e,e⟩) (.inl ⟨e,e⟩) q100.1 q100.2.1 q100.2.2) (oA e (rnf (zp (wsr (oM e ?_)))))))
   refine oV (zaH (l:=((q2.take ((q2.length:Int)).toNat).drop ((1:Int)).toNat)) e hI sl42) (oV (zb1 e e) (oM e (zab (jb 31) je .nil h 5 e (fun q101 g101 h=>?_) (fun J102 h hJ102=>?_))))
   ·refine rnf (zdF (ι:=(List UInt8)) (γ:=Unit) (fun q105 g105=>[(0,isv (q105))]) (fun q105 g105=>[]) .nil h (fun q105 g105 h=>?_) (fun J106 h hJ106=>?_))
    ·exact zam (z8 (zL (hL3 _ () h _ (ji 19 0 e e e))))
    refine zg h e (fun _ h=>?_) (fun _ h=>?_)
    ·refine wsr (oM e (zak h fun q107 h=>oV (zfn (l:=((q2.take ((q2.length:Int)).toNat).drop ((1:Int)).toNat)) e hI sl42 (.inr ⟨_,e,e⟩) (.inl ⟨e,e⟩) q107.1 q107.2.1 q107.2.2) (oA e (rnf (zp (zae (.v 0 (.v 1 (.v 2 (.v 3 (.v 4 (.v 6 (.v 7 (.t 5 (.t 8 (.v 9 (.v 10 (.v 11 (.v 12 .nil))))))))))))) moOrd (by kernel_rfl) ?_))))))
     refine rvm e e (zC e (zaH (l:=((((q2.take ((q2.length:Int)).toNat).drop ((1:Int)).toNat).take ((((q2.take ((q2.length:Int)).toNat).drop ((1:Int)).toNat).length:Int)).toNat).drop ((8:Int)).toNat)) e hI sl42) (zC e (zb1 e e) (rvm e e (zdk (jb 46) je .nil h 9 e (fun q108 g108 h=>?_) (fun J109 h hJ109=>?_)))))
     ·refine zaA (zE (zg h e (fun _ h=>?_) (fun _ h=>?_)))
      ·refine wsr (oM e (zak h fun q114 h=>oV (zfn (l:=((((q2.take ((q2.length:Int)).toNat).drop ((1:Int)).toNat).take ((((q2.take ((q2.length:Int)).toNat).drop ((1:Int)).toNat).length:Int)).toNat).drop ((8:Int)).toNat)) e hI sl42 (.inr ⟨_,e,e⟩) (.inl ⟨e,e⟩) q114.1 q114.2.1 q114.2.2) (oA e (rnf (zB (zbx (ι:=(List UInt8)) (γ:=Unit) (fun q115 g115=>[(0,isv (q115))]) (fun q115 g115=>[]) h () (za (j:=0) e hI ze) .nil (fun L116 q115 g115 Q139 h hL116 eL116 rL116=>zp ?_)))))))
       refine zp (zae (.v 0 (.v 1 (.v 2 (.v 3 (.v 4 (.v 6 (.v 7 (.v 10 (.v 11 (.v 13 (.v 14 (.t 5 (.t 8 (.v 9 (.t 12 (.t 15 (.v 16 (.v 17 (.v 18 (.v 19 (.v 20 .nil))))))))))))))))))))) moOrd (by kernel_rfl) ?_)
       refine rvm e e (zC e (zaH (l:=q115) e hI sl42) (zC e (zb1 e e) (rvm e e (zdk (jb 69) je .nil h 17 e (fun q128 g128 h=>?_) (fun J129 h hJ129=>?_)))))
       ·refine zaA (zE (zg h e (fun _ h=>?_) (fun _ h=>?_)))
        ·refine wkf (zB (zt (oM e (zak h fun q138 h=>oV (zfn (l:=q115) e hI sl42 (.inr ⟨_,e,e⟩) (.inl ⟨e,e⟩) q138.1 q138.2.1 q138.2.2) (oA e (zF (zq ?_)))))))
         exact hL116 _ () h _ (ji 9 0 e e e)
        exact zam (z8 (eL116 _ _ (zL (hJ106 _ () h _ (ji 17 0 e e e)))))
       refine zaJ (j:=52) h e (fun g130 h=>?_) (fun g130 h=>?_)
       ·refine rvt 52 e e e g130 (zs e) (rvt 52 e e e g130 (zs e) (zak h fun q131 h=>rvt 52 e e e g130 (zfn (l:=q115) e hI sl42 (.inr ⟨_,e,e⟩) (.inl ⟨e,e⟩) q131.1 q131.2.1 q131.2.2) (rvt 52 e e e g130 (zs e) (zak h fun q132 h=>rvt 52 e e e g130 (zfn (l:=q115) e hI sl42 (.inr ⟨_,e,e⟩) (.inl ⟨e,e⟩) q132.1 q132.2.1 q132.2.2) (rvt 52 e e e g130 (zs e) (zak h fun q133 h=>?_))))))
        refine rvt 52 e e e g130 (zfn (l:=q115) e hI sl42 (.inr ⟨_,e,e⟩) (.inl ⟨e,e⟩) q133.1 q133.2.1 q133.2.2) (zb h fun y134 hy134 h=>zgI e e e (dj:=52) e g130 (zA (zbV hy134) hT (s1 e) .nil (zb h fun y135 hy135 h=>zgI e e e (dj:=52) e g130 (zA (zbV hy135) hT (s1 e) .nil (rvt 52 e e e g130 (zey e e) (zb h fun y136 hy136 h=>zgI e e e (dj:=52) e g130 (zA (zbV hy136) hT (s1 e) .nil (zb h fun y137 hy137 h=>?_))))))))
        exact zgI e e e (dj:=52) e g130 (zA (zbV hy137) hT (s1 e) .nil (rvt 52 e e e g130 (zey e e) (rvt 52 e e e g130 (zey e e) (rvt 52 e e e g130 (zk2 e e) (rvt 52 e e e g130 (zjr e e) (zC e (zi e g130 e) (hJ129 _ () h _ (ji 17 69 e e e))))))))
       refine rpv 52 e e e g130 (rpv 52 e e e g130 (rpv 52 e e e g130 (rpv 52 e e e g130 (rpv 52 e e e g130 (rpv 52 e e e g130 (rpv 52 e e e g130 (zcZ e e (dj:=52) e g130 (zcZ e e (dj:=52) e g130 ?_))))))))
       exact rpv 52 e e e g130 (zcZ e e (dj:=52) e g130 (zcZ e e (dj:=52) e g130 (rpv 52 e e e g130 (rpv 52 e e e g130 (rpv 52 e e e g130 (rpv 52 e e e g130 (zC e (zj e g130 e) (hJ129 _ () h _ (ji 17 69 e e e)))))))))
      exact z6 (hJ106 _ () h _ (ji 8 0 e e e))
     refine zaJ (j:=37) h e (fun g110 h=>?_) (fun g110 h=>?_)
     ·refine rvt 37 e e e g110 (zs e) (rvt 37 e e e g110 (zs e) (zak h fun q111 h=>rvt 37 e e e g110 (zfn (l:=((((q2.take ((q2.length:Int)).toNat).drop ((1:Int)).toNat).take ((((q2.take ((q2.length:Int)).toNat).drop ((1:Int)).toNat).length:Int)).toNat).drop ((8:Int)).toNat)) e hI sl42 (.inr ⟨_,e,e⟩) (.inl ⟨e,e⟩) q111.1 q111.2.1 q111.2.2) (zb h fun y112 hy112 h=>zgI e e e (dj:=37) e g110 (zA (zbV hy112) hT (s1 e) .nil (zb h fun y113 hy113 h=>zgI e e e (dj:=37) e g110 (zA (zbV hy113) hT (s1 e) .nil (rvt 37 e e e g110 (zey e e) ?_)))))))
      exact rvt 37 e e e g110 (zk2 e e) (rvt 37 e e e g110 (zjr e e) (zC e (zi e g110 e) (hJ109 _ () h _ (ji 9 46 e e e))))
     refine rpv 37 e e e g110 (rpv 37 e e e g110 (rpv 37 e e e g110 (zcZ e e (dj:=37) e g110 (zcZ e e (dj:=37) e g110 (rpv 37 e e e g110 (rpv 37 e e e g110 (rpv 37 e e e g110 (zC e (zj e g110 e) ?_))))))))
     exact hJ109 _ () h _ (ji 9 46 e e e)
    exact z6 (hJ106 _ () h _ (ji 0 0 e e e))
   refine zn (j:=26) h e (fun g103 h=>?_) (fun g103 h=>?_)
   ·exact oK 26 e e e g103 (zs e) (zb h fun y104 hy104 h=>zai e e (dj:=26) e g103 (zA (zbV hy104) hT (s1 e) .nil (oK 26 e e e g103 (zk2 e e) (oK 26 e e e g103 (zjr e e) (oV (zi e g103 e) (hJ102 _ () h _ (ji 5 31 e e e)))))))
   exact oP 26 e e g103 (oP 26 e e g103 (oP 26 e e g103 (oP 26 e e g103 (oV (zj e g103 e) (hJ102 _ () h _ (ji 5 31 e e e))))))
  refine wkf (wsr (oM e (oV (zqi zlB ar190 e) (oV (zpZ hT ty5 e _ zgJ) (oA e (rnf (wsr (oM e ?_))))))))
  refine oV (zlf e e) (oV (zlV Tryz.underlying5 Tryz.underlying3 e) (oA e (rnf (wsr (oM e (zaf h fun q140 h=>oV (zoP e e q140) (zaf h fun q141 h=>?_)))))))
  refine oV (zqf zgJ ar193 e q141) (oV (zp9 hT ty192 e q141 _ zlB) (oT (zag _ ze192 fun b142=>oT (zo (y':=((tab2 (shr8 (tab1 y99) (4:UInt64).toNat)):GAcc)) ty192 e e hI .here e (zaj (zaQ 6 .here e) (rnf (wsr (oM e (rnf ?_)))))))))
  refine zB (wsr (oV (zaa e e) (oA e (rnf (zg h e (fun _ h=>?_) (fun _ h=>?_))))))
  ·refine zp (zp (zae (.v 0 (.v 1 (.v 2 (.v 3 (.v 4 (.v 5 (.v 6 (.v 7 (.v 8 (.v 9 (.v 10 (.v 11 (.v 12 (.v 13 (.v 14 (.v 15 (.v 16 (.v 17 (.v 18 .nil))))))))))))))))))) moOrd (by kernel_rfl) ?_))
   refine rvm e e (zC e (zaH (l:=q2) e hI sl42) (zC e (zay e e) (rvm e e (zdk (jb 95) je .nil h 7 e (fun q143 g143 h=>?_) (fun J144 h hJ144=>?_)))))
   ·refine rvm e e (zdk (jb 103) je .nil h 7 e (fun q147 g147 h=>?_) (fun J148 h hJ148=>?_))
    ·refine zaA (zE (zg h e (fun _ h=>?_) (fun _ h=>?_)))
     ·refine wsr (oA e (rnf (zD (zx (zz (zz (rL3 _ (zz ?_))))))))
      refine zx ?_
      cases h
      exact zh (.tmp e .nil) .nil ⟨e,e⟩
     refine wkf (zt (oM e (zak h fun q151 h=>oV (zfn (l:=q2) e hI sl42 (.inr ⟨_,e,e⟩) (.inl ⟨e,e⟩) q151.1 q151.2.1 q151.2.2) (oA e (zF (zq (zq ?_)))))))
     exact hL3 _ () h _ (ji 37 0 e e e)
    refine zaJ (j:=96) h e (fun g149 h=>?_) (fun g149 h=>?_)
    ·exact rpv 96 e e e g149 (rpv 96 e e e g149 (rpv 96 e e e g149 (rpv 96 e e e g149 (rpv 96 e e e g149 (rpv 96 e e e g149 (zC e (zi e g149 e) (hJ148 _ () h _ (ji 7 103 e e e))))))))
    exact rvt 96 e e e g149 (zI e GAcc.f1 zk7 e (z:=(tab2 (shr8 (tab1 y99) (4:UInt64).toNat)).hi)) (rvt 96 e e e g149 (zd ty5 e) (rvt 96 e e e g149 (zs e) (zb h fun y150 hy150 h=>rvt 96 e e e g149 (zaz (l:=q2) e hI e sl42 hy150) (rvt 96 e e e g149 (zd ty5 e) (rvt 96 e e e g149 (zdY e e) (zC e (zj e g149 e) (hJ148 _ () h _ (ji 7 103 e e e))))))))
   refine zaJ (j:=88) h e (fun g145 h=>?_) (fun g145 h=>?_)
   ·exact rpv 88 e e e g145 (rpv 88 e e e g145 (rpv 88 e e e g145 (rpv 88 e e e g145 (rpv 88 e e e g145 (rpv 88 e e e g145 (zC e (zi e g145 e) (hJ144 _ () h _ (ji 7 95 e e e))))))))
   exact rvt 88 e e e g145 (zs e) (zb h fun y146 hy146 h=>rvt 88 e e e g145 (zaz (l:=q2) e hI e sl42 hy146) (rvt 88 e e e g145 (zd ty5 e) (rvt 88 e e e g145 (zI e GAcc.f0 zlg e (z:=(tab2 (shr8 (tab1 y99) (4:UInt64).toNat)).lo)) (rvt 88 e e e g145 (zd ty5 e) (rvt 88 e e e g145 (zdY e e) (zC e (zj e g145 e) (hJ144 _ () h _ (ji 7 95 e e e))))))))
  refine wsr (oV (zaa e e) (oA e (rnf (zg h e (fun _ h=>?_) (fun _ h=>?_)))))
  ·refine zp (zp (zae (.v 0 (.v 1 (.v 2 (.v 3 (.v 4 (.v 5 (.v 6 (.v 7 (.v 8 (.v 9 (.v 10 (.v 11 (.v 12 (.v 13 (.v 14 (.v 15 (.v 16 (.v 17 (.v 18 (.v 19 (.v 20 (.v 21 (.v 22 (.v 23 (.v 24 (.v 25 (.v 26 (.v 27 (.v 28 (.v 29 (.v 30 .nil))))))))))))))))))))))))))))))) moOrd (by kernel_rfl) ?_))
   refine rvm e e (zC e (zaH (l:=q2) e hI sl42) (zC e (zay e e) (rvm e e (zdk (jb 118) je .nil h 7 e (fun q152 g152 h=>?_) (fun J153 h hJ153=>?_)))))
   ·refine rvm e e (zdk (jb 126) je .nil h 7 e (fun q156 g156 h=>?_) (fun J157 h hJ157=>?_))
    ·refine rvm e e (zdk (jb 132) je .nil h 5 e (fun q160 g160 h=>?_) (fun J161 h hJ161=>?_))
     ·refine rvm e e (zdk (jb 138) je .nil h 5 e (fun q164 g164 h=>?_) (fun J165 h hJ165=>?_))
      ·refine zaA (zE (zg h e (fun _ h=>?_) (fun _ h=>?_)))
       ·refine wsr (oA e (rnf (zD (zx (zz (zz (rL3 _ (zz ?_))))))))
        refine zx ?_
        cases h
        exact zh (.tmp e .nil) .nil ⟨e,e⟩
       refine wkf (zt (oM e (zak h fun q168 h=>oV (zfn (l:=q2) e hI sl42 (.inr ⟨_,e,e⟩) (.inl ⟨e,e⟩) q168.1 q168.2.1 q168.2.2) (oA e (zF (zq (zq ?_)))))))
       exact hL3 _ () h _ (ji 43 0 e e e)
      refine zaJ (j:=133) h e (fun g166 h=>?_) (fun g166 h=>?_)
      ·exact rpv 133 e e e g166 (rpv 133 e e e g166 (rpv 133 e e e g166 (rpv 133 e e e g166 (zC e (zi e g166 e) (hJ165 _ () h _ (ji 5 138 e e e))))))
      exact rvt 133 e e e g166 (zs e) (zb h fun y167 hy167 h=>rvt 133 e e e g166 (zaz (l:=q2) e hI e sl42 hy167) (rvt 133 e e e g166 (zd ty5 e) (rvt 133 e e e g166 (zdY e e) (zC e (zj e g166 e) (hJ165 _ () h _ (ji 5 138 e e e))))))
     refine zaJ (j:=127) h e (fun g162 h=>?_) (fun g162 h=>?_)
     ·exact rpv 127 e e e g162 (rpv 127 e e e g162 (rpv 127 e e e g162 (rpv 127 e e e g162 (zC e (zi e g162 e) (hJ161 _ () h _ (ji 5 132 e e e))))))
     exact rvt 127 e e e g162 (zs e) (zb h fun y163 hy163 h=>rvt 127 e e e g162 (zaz (l:=q2) e hI e sl42 hy163) (rvt 127 e e e g162 (zd ty5 e) (rvt 127 e e e g162 (zdY e e) (zC e (zj e g162 e) (hJ161 _ () h _ (ji 5 132 e e e))))))
    refine zaJ (j:=119) h e (fun g158 h=>?_) (fun g158 h=>?_)
    ·exact rpv 119 e e e g158 (rpv 119 e e e g158 (rpv 119 e e e g158 (rpv 119 e e e g158 (rpv 119 e e e g158 (rpv 119 e e e g158 (zC e (zi e g158 e) (hJ157 _ () h _ (ji 7 126 e e e))))))))
    exact rvt 119 e e e g158 (zI e GAcc.f1 zk7 e (z:=(tab2 (shr8 (tab1 y99) (4:UInt64).toNat)).hi)) (rvt 119 e e e g158 (zd ty5 e) (rvt 119 e e e g158 (zs e) (zb h fun y159 hy159 h=>rvt 119 e e e g158 (zaz (l:=q2) e hI e sl42 hy159) (rvt 119 e e e g158 (zd ty5 e) (rvt 119 e e e g158 (zdY e e) (zC e (zj e g158 e) (hJ157 _ () h _ (ji 7 126 e e e))))))))
   refine zaJ (j:=111) h e (fun g154 h=>?_) (fun g154 h=>?_)
   ·exact rpv 111 e e e g154 (rpv 111 e e e g154 (rpv 111 e e e g154 (rpv 111 e e e g154 (rpv 111 e e e g154 (rpv 111 e e e g154 (zC e (zi e g154 e) (hJ153 _ () h _ (ji 7 118 e e e))))))))
   exact rvt 111 e e e g154 (zs e) (zb h fun y155 hy155 h=>rvt 111 e e e g154 (zaz (l:=q2) e hI e sl42 hy155) (rvt 111 e e e g154 (zd ty5 e) (rvt 111 e e e g154 (zI e GAcc.f0 zlg e (z:=(tab2 (shr8 (tab1 y99) (4:UInt64).toNat)).lo)) (rvt 111 e e e g154 (zd ty5 e) (rvt 111 e e e g154 (zdY e e) (zC e (zj e g154 e) (hJ153 _ () h _ (ji 7 118 e e e))))))))
  refine wsr (oV (zaa e e) (oA e (rnf (zg h e (fun _ h=>?_) (fun _ h=>?_)))))
  ·refine zp (zp (zae (.v 0 (.v 1 (.v 2 (.v 3 (.v 4 (.v 5 (.v 6 (.v 7 (.v 8 (.v 9 (.v 10 (.v 11 (.v 12 (.v 13 (.v 14 (.v 15 (.v 16 (.v 17 (.v 18 (.v 19 (.v 20 (.v 21 (.v 22 (.v 23 (.v 24 (.v 25 (.v 26 (.v 27 (.v 28 (.v 29 (.v 30 (.v 31 (.v 32 (.v 33 (.v 34 (.v 35 (.v 36 (.v 37 (.v 38 (.v 39 (.v 40 (.v 41 (.v 42 .nil))))))))))))))))))))))))))))))))))))))))))) moOrd (by kernel_rfl) ?_))
   refine rvm e e (zC e (zaH (l:=q2) e hI sl42) (zC e (zay e e) (rvm e e (zdk (jb 153) je .nil h 7 e (fun q169 g169 h=>?_) (fun J170 h hJ170=>?_)))))
   ·refine rvm e e (zdk (jb 161) je .nil h 7 e (fun q173 g173 h=>?_) (fun J174 h hJ174=>?_))
    ·refine rvm e e (zdk (jb 167) je .nil h 5 e (fun q177 g177 h=>?_) (fun J178 h hJ178=>?_))
     ·refine rvm e e (zdk (jb 173) je .nil h 5 e (fun q181 g181 h=>?_) (fun J182 h hJ182=>?_))
      ·refine rvm e e (zdk (jb 179) je .nil h 5 e (fun q185 g185 h=>?_) (fun J186 h hJ186=>?_))
       ·refine rvm e e (zdk (jb 185) je .nil h 5 e (fun q189 g189 h=>?_) (fun J190 h hJ190=>?_))
        ·refine zaA (zE (zg h e (fun _ h=>?_) (fun _ h=>?_)))
         ·refine wsr (oA e (rnf (zD (zx (zz (zz (rL3 _ (zz ?_))))))))
          refine zx ?_
          cases h
          exact zh (.tmp e .nil) .nil ⟨e,e⟩
         refine wkf (zt (oM e (zak h fun q193 h=>oV (zfn (l:=q2) e hI sl42 (.inr ⟨_,e,e⟩) (.inl ⟨e,e⟩) q193.1 q193.2.1 q193.2.2) (oA e (zF (zq (zq ?_)))))))
         exact hL3 _ () h _ (ji 49 0 e e e)
        refine zaJ (j:=180) h e (fun g191 h=>?_) (fun g191 h=>?_)
        ·exact rpv 180 e e e g191 (rpv 180 e e e g191 (rpv 180 e e e g191 (rpv 180 e e e g191 (zC e (zi e g191 e) (hJ190 _ () h _ (ji 5 185 e e e))))))
        exact rvt 180 e e e g191 (zs e) (zb h fun y192 hy192 h=>rvt 180 e e e g191 (zaz (l:=q2) e hI e sl42 hy192) (rvt 180 e e e g191 (zd ty5 e) (rvt 180 e e e g191 (zdY e e) (zC e (zj e g191 e) (hJ190 _ () h _ (ji 5 185 e e e))))))
       refine zaJ (j:=174) h e (fun g187 h=>?_) (fun g187 h=>?_)
       ·exact rpv 174 e e e g187 (rpv 174 e e e g187 (rpv 174 e e e g187 (rpv 174 e e e g187 (zC e (zi e g187 e) (hJ186 _ () h _ (ji 5 179 e e e))))))
       exact rvt 174 e e e g187 (zs e) (zb h fun y188 hy188 h=>rvt 174 e e e g187 (zaz (l:=q2) e hI e sl42 hy188) (rvt 174 e e e g187 (zd ty5 e) (rvt 174 e e e g187 (zdY e e) (zC e (zj e g187 e) (hJ186 _ () h _ (ji 5 179 e e e))))))
      refine zaJ (j:=168) h e (fun g183 h=>?_) (fun g183 h=>?_)
      ·exact rpv 168 e e e g183 (rpv 168 e e e g183 (rpv 168 e e e g183 (rpv 168 e e e g183 (zC e (zi e g183 e) (hJ182 _ () h _ (ji 5 173 e e e))))))
      exact rvt 168 e e e g183 (zs e) (zb h fun y184 hy184 h=>rvt 168 e e e g183 (zaz (l:=q2) e hI e sl42 hy184) (rvt 168 e e e g183 (zd ty5 e) (rvt 168 e e e g183 (zdY e e) (zC e (zj e g183 e) (hJ182 _ () h _ (ji 5 173 e e e))))))
     refine zaJ (j:=162) h e (fun g179 h=>?_) (fun g179 h=>?_)
     ·exact rpv 162 e e e g179 (rpv 162 e e e g179 (rpv 162 e e e g179 (rpv 162 e e e g179 (zC e (zi e g179 e) (hJ178 _ () h _ (ji 5 167 e e e))))))
     exact rvt 162 e e e g179 (zs e) (zb h fun y180 hy180 h=>rvt 162 e e e g179 (zaz (l:=q2) e hI e sl42 hy180) (rvt 162 e e e g179 (zd ty5 e) (rvt 162 e e e g179 (zdY e e) (zC e (zj e g179 e) (hJ178 _ () h _ (ji 5 167 e e e))))))
    refine zaJ (j:=154) h e (fun g175 h=>?_) (fun g175 h=>?_)
    ·exact rpv 154 e e e g175 (rpv 154 e e e g175 (rpv 154 e e e g175 (rpv 154 e e e g175 (rpv 154 e e e g175 (rpv 154 e e e g175 (zC e (zi e g175 e) (hJ174 _ () h _ (ji 7 161 e e e))))))))
    exact rvt 154 e e e g175 (zI e GAcc.f1 zk7 e (z:=(tab2 (shr8 (tab1 y99) (4:UInt64).toNat)).hi)) (rvt 154 e e e g175 (zd ty5 e) (rvt 154 e e e g175 (zs e) (zb h fun y176 hy176 h=>rvt 154 e e e g175 (zaz (l:=q2) e hI e sl42 hy176) (rvt 154 e e e g175 (zd ty5 e) (rvt 154 e e e g175 (zdY e e) (zC e (zj e g175 e) (hJ174 _ () h _ (ji 7 161 e e e))))))))
   refine zaJ (j:=146) h e (fun g171 h=>?_) (fun g171 h=>?_)
   ·exact rpv 146 e e e g171 (rpv 146 e e e g171 (rpv 146 e e e g171 (rpv 146 e e e g171 (rpv 146 e e e g171 (rpv 146 e e e g171 (zC e (zi e g171 e) (hJ170 _ () h _ (ji 7 153 e e e))))))))
   exact rvt 146 e e e g171 (zs e) (zb h fun y172 hy172 h=>rvt 146 e e e g171 (zaz (l:=q2) e hI e sl42 hy172) (rvt 146 e e e g171 (zd ty5 e) (rvt 146 e e e g171 (zI e GAcc.f0 zlg e (z:=(tab2 (shr8 (tab1 y99) (4:UInt64).toNat)).lo)) (rvt 146 e e e g171 (zd ty5 e) (rvt 146 e e e g171 (zdY e e) (zC e (zj e g171 e) (hJ170 _ () h _ (ji 7 153 e e e))))))))
  refine wsr (oA e (rnf (zD (zz (zz (rL3 _ (zz (zx ?_))))))))
  cases h
  exact zh (.tmp e .nil) .nil ⟨e,e⟩
 refine zam (z8 (eL3 _ _ (zL (zE (wsr (oA e (rnf (zD ?_))))))))
 cases h
 exact zh (.tmp e .nil) .nil ⟨e,e⟩


theorem zg8:∀ {a_x:GMk} {a_i:Int} {a_v:Val} {zJ:Nat} {zad:Vt} {r:Val × GMk},zdW a_x a_i a_v=some r→Ctr Tryz.prog 175 [ptrv zJ (Fld.id (GMod × Vh × Int)),isv (a_i),isv (a_v)] [boxE zJ ((a_x.m,(Vh.mk zad a_x.l.length),a_x.e):(GMod × Vh × Int)),vecE zad (a_x.l:List GTyp)] (fun R H=>R=oneOf [isv (r.1)]∧H=[boxE zJ ((r.2.m,(Vh.mk zad r.2.l.length),r.2.e)),vecE zad (r.2.l)]):=by
 intro a_x a_i a_v zJ zad r h
 unfold zdW at h
 refine zr Tryz.func175 e fun w0 S0 hT=>wsr (oT (zjZ (y:=a_v) e hI fun b2=>oT (zag _ ze46 fun b3=>rnf (wsr (oM e (oV (zw e) (oV (zY e zbY zcI) ?_)))))))
 refine oT (zH (R:=vecv zad (a_x.l.length)) ty24 e tI isvV1 (oM e (zak h fun q4 h=>oV (zcu (α:=GTyp) sl24 e e q4.1 q4.2) (zb h fun y5 hy5 h=>oT (zcV ty87 e (.there tI) hy5 ?_)))))
 refine oT (zag _ ze87 fun b6=>oT (zo (y':=(y5:GTyp)) ty87 e e hI .here e (zaj (zaQ 7 .here e) (rnf (wsr (oV (zY e Val.f0 zcy) (oT (zH (R:=isv (a_v.kind)) ty3 e tH hI (oV (zI e GTyp.f0 zdf e (z:=y5.kind)) (oV (zd ty3 e) ?_))))))))))
 refine oV (zaa e e) (oA e (rnf (zp (wsr (oV (zI e GTyp.f0 zdf e (z:=y5.kind)) (oV (zd ty3 e) (rnf (zdF (ι:=Bool × Val) (γ:=Unit) (fun q7 g7=>[(5,ptrv b2 (Fld.id Val)),(8,isv (q7.1))]) (fun q7 g7=>[boxE b2 (q7.2:Val)]) (.cons tH .nil) h (fun q7 g7 h=>?_) (fun J8 h hJ8=>?_)))))))))
 ·refine zp (wsr (oM e (oV (za2 e) (rnf (zdF (ι:=GMk) (γ:=Unit) (fun q51 g51=>[]) (fun q51 g51=>[boxE zJ ((q51.m,(Vh.mk zad q51.l.length),q51.e):(GMod × Vh × Int)),vecE zad (q51.l:List GTyp)]) (.cons tI (.cons tI .nil)) h (fun q51 g51 h=>?_) (fun J52 h hJ52=>?_))))))
  ·refine wsr (oT (zH (R:=isv (q7.2)) ty46 e tI hI (oT (zo (y':=(q7.2:Val)) ty46 e e hI (.there tI) e (rnf (zD ?_))))))
   cases h
   exact zh (.cell e .here ty46 .nil) (.cons tH (.cons tH .nil)) ⟨e,e⟩
  refine zg h e (fun _ h=>?_) (fun _ h=>?_)
  ·exact zt (oM e (zb h fun y53 hy53 h=>oT (zA (zbv hy53) hT (s2 e e) (.cons tI (.cons tI .nil)) (zF (hJ52 _ () h _ (zf 2 e e ze k4))))))
  exact z6 (hJ52 _ () h _ (zf 0 e e ze (.cons tI (.cons tI k2))))
 refine zB (zp (wsr (oV (zaa e e) (oA e (rnf (zdF (jb 24) je .nil h (fun q9 g9 h=>?_) (fun J10 h hJ10=>?_)))))))
 ·refine zg h e (fun _ h=>?_) (fun _ h=>?_)
  ·exact z6 (zq (hJ8 _ () h _ (zf 3 e e (za (j:=5) e hI (za (j:=8) e hI ze)) (.cons tH k3))))
  refine wsr (oV (zaa e e) (oA e (rnf (zg h e (fun _ h=>?_) (fun _ h=>?_)))))
  ·refine zt (oM e (oM e (zab (jb 36) je .nil h 6 e (fun q11 g11 h=>?_) (fun J12 h hJ12=>?_))))
   ·exact oA e (zF (zq (hJ8 _ () h _ (zf 9 e e (za (j:=5) e hI (za (j:=8) e hI ze)) (.cons tH k3)))))
   refine zn (j:=30) h e (fun g13 h=>?_) (fun g13 h=>?_)
   ·exact oK 30 e e e g13 (zI e GTyp.f2 zgv e (z:=y5.con)) (oK 30 e e e g13 (zd ty83 e) (oK 30 e e e g13 (zY e Val.f1 zcx) (zai e e (dj:=30) e g13 (zH (R:=isv (a_v.n)) ty2 e tH hI (zb h fun y14 hy14 h=>zai e e (dj:=30) e g13 (zA (ziA hy14) hT (s2 e e) .nil (oV (zi e g13 e) (hJ12 _ () h _ (zf 6 e e (za (j:=36) e hI ze) k4)))))))))
   exact oP 30 e e g13 (oP 30 e e g13 (oP 30 e e g13 (oP 30 e e g13 (oP 30 e e g13 (oV (zj e g13 e) (hJ12 _ () h _ (zf 6 e e (za (j:=36) e hI ze) k4)))))))
  refine zp (wsr (oV (zaa e e) (oA e (rnf (zdF (jb 37) je .nil h (fun q15 g15 h=>?_) (fun J16 h hJ16=>?_))))))
  ·refine zg h e (fun _ h=>?_) (fun _ h=>?_)
   ·refine zt (oM e (oM e (zab (jb 48) je .nil h 7 e (fun q17 g17 h=>?_) (fun J18 h hJ18=>?_))))
    ·refine oM e (zab (jb 58) je .nil h 9 e (fun q21 g21 h=>?_) (fun J22 h hJ22=>?_))
     ·exact oA e (zF (zq (hJ8 _ () h _ (zf 14 e e (za (j:=5) e hI (za (j:=8) e hI ze)) (.cons tH k3)))))
     refine zn (j:=49) h e (fun g23 h=>?_) (fun g23 h=>?_)
     ·refine oK 49 e e e g23 (zI e GTyp.f0 zdf e (z:=y5.kind)) (oK 49 e e e g23 (zd ty3 e) (oK 49 e e e g23 (zaa e e) (oK 49 e e e g23 (zs e) (zab (jb 57) je .nil h 4 e (fun q24 g24 h=>?_) (fun J25 h hJ25=>?_)))))
      ·exact oV (zi e g23 e) (hJ22 _ () h _ (zf 6 e e (za (j:=58) e hI ze) k4))
      refine zn (j:=53) h e (fun g26 h=>?_) (fun g26 h=>?_)
      ·exact oP 53 e e g26 (oP 53 e e g26 (oP 53 e e g26 (oK 49 e e e g23 (zi e g26 e) (hJ25 _ () h _ (zf 4 e e (za (j:=57) e hI ze) k4)))))
      exact oK 53 e e e g26 (zY e Val.f2 zc5) (zai e e (dj:=53) e g26 (zH (R:=isv (a_v.b)) ty42 e tH hI (zb h fun y27 hy27 h=>zai e e (dj:=53) e g26 (zA (ziB hy27) hT (s1 e) .nil (oK 49 e e e g23 (zj e g26 e) (hJ25 _ () h _ (zf 4 e e (za (j:=57) e hI ze) k4)))))))
     refine oP 49 e e g23 (oP 49 e e g23 (oP 49 e e g23 (oP 49 e e g23 (zk e (dj:=53) e (zk e (dj:=53) e (zk e (dj:=53) e (oP 49 e e g23 (oV (zj e g23 e) ?_))))))))
     exact hJ22 _ () h _ (zf 9 e e (za (j:=58) e hI ze) k4)
    refine zn (j:=41) h e (fun g19 h=>?_) (fun g19 h=>?_)
    ·exact oK 41 e e e g19 (zI e GTyp.f2 zgv e (z:=y5.con)) (oK 41 e e e g19 (zd ty83 e) (oK 41 e e e g19 (zY e Val.f2 zc5) (zai e e (dj:=41) e g19 (zH (R:=isv (a_v.b)) ty42 e tH hI (oK 41 e e e g19 (zaH (l:=a_v.b) e hI sl42) (zb h fun y20 hy20 h=>zai e e (dj:=41) e g19 (zA (ziA hy20) hT (s2 e e) .nil (oV (zi e g19 e) (hJ18 _ () h _ (zf 7 e e (za (j:=48) e hI ze) k4))))))))))
    exact oP 41 e e g19 (oP 41 e e g19 (oP 41 e e g19 (oP 41 e e g19 (oP 41 e e g19 (oP 41 e e g19 (oV (zj e g19 e) (hJ18 _ () h _ (zf 7 e e (za (j:=48) e hI ze) k4))))))))
   refine wsr (oV (zaa e e) (oA e (rnf (zg h e (fun _ h=>?_) (fun _ h=>?_)))))
   ·refine wsr (oM e (rnf (zg h e (fun _ h=>?_) (fun _ h=>?_))))
    ·refine wsr (oA e (rnf (wsr (oA e (rnf (zB (zbx (ι:=Bool × Int × Val) (γ:=Unit) (fun q28 g28=>[(5,ptrv b2 (Fld.id Val)),(8,isv (q28.1)),(9,isv (q28.2.1))]) (fun q28 g28=>[boxE b2 (q28.2.2:Val)]) h () (za (j:=5) e hI (za (j:=8) e hI (za (j:=9) e hI ze))) (.cons tH .nil) (fun L29 q28 g28 Q50 h hL29 eL29 rL29=>zp ?_))))))))
     refine wsr (oM e (oV (zI e GTyp.f5 zg9 e (z:=y5.root)) (oV (zd ty3 e) (oV (zay e e) (oM e (zab (jb 69) je .nil h 3 e (fun q40 g40 h=>?_) (fun J41 h hJ41=>?_)))))))
     ·refine rnf (zg h e (fun _ h=>?_) (fun _ h=>?_))
      ·refine wkf (zp (zdF (ι:=Bool × Val) (γ:=Unit) (fun q43 g43=>[(5,ptrv b2 (Fld.id Val)),(8,isv (q43.1))]) (fun q43 g43=>[boxE b2 (q43.2:Val)]) k1 h (fun q43 g43 h=>?_) (fun J44 h hJ44=>?_)))
       ·exact zt (oM e (zO h fun q49 h=>oV (zan e e q49) (oA e (zF (hL29 _ () h _ (zf 14 e e (za (j:=5) e hI (za (j:=8) e hI (za (j:=9) e hI ze))) k4))))))
       refine zB (zp (zdh 5 .here e (fun o45 hn46=>zae (.v 0 (.v 1 (.v 2 (.v 3 (.v 4 (.v 5 (.v 6 (.v 7 (.v 8 (.v 9 .nil)))))))))) moOrd (by kernel_rfl) ?_)))
       refine zC e (zI e GTyp.f3 ziR e (z:=y5.items)) (zC e (zd ty84 e) (rvm e e (zb h fun y47 hy47 h=>zC e (zaz (l:=y5.items) e hI e sl84 hy47) (zC e (zI e GItem.f0 zlm e (z:=y47.name)) (zC e (zd ty9 e) (zC e (zf0 e Val.f2 zc5) (zC e (zdx (R:=isv (q28.2.2.b)) ty42 e (List.Mem.head _) hI) ?_)))))))
       refine zC e (znE (l:=q28.2.2.b) Tryz.underlying42 Tryz.underlying5 Tryz.underlying9 e hI) (zC e (zce eq9 e e) (zaA (za7 5 hn46 e (zE (zg h e (fun _ h=>?_) (fun _ h=>?_))))))
       ·refine zt (oV (zI e GTyp.f3 ziR e (z:=y5.items)) (oV (zd ty84 e) (oM e (zb h fun y48 hy48 h=>oV (zaz (l:=y5.items) e hI e sl84 hy48) (oV (zI e GItem.f1 zdV e (z:=y48.number)) (oV (zd ty2 e) (oV (zar (z:=(Val.mk (3:Int) y48.number ([]:(List UInt8)) ([]:(List Val)) (0:Int) ([]:(List Raw)))) e bu46 ze46 (.cons Val.f0 zcy e hI (.cons Val.f1 zcx e hI .nil))) ?_)))))))
        exact oT (zo (y':=((Val.mk (3:Int) y48.number ([]:(List UInt8)) ([]:(List Val)) (0:Int) ([]:(List Raw))):Val)) ty46 e e hI .here e (oA e (zF (zq (hJ44 _ () h _ (zf 20 e e (za (j:=5) e hI (za (j:=8) e hI ze)) k4))))))
       exact z6 (zq (hJ44 _ () h _ (zf 12 e e (za (j:=5) e hI (za (j:=8) e hI ze)) k4)))
      exact zam (z8 (eL29 _ _ (zL (zq (hJ8 _ () h _ (zf 22 e e (za (j:=5) e hI (za (j:=8) e hI ze)) k4))))))
     refine zn (j:=66) h e (fun g42 h=>?_) (fun g42 h=>?_)
     ·exact oK 66 e e e g42 (zs e) (oK 66 e e e g42 (za2 e) (oV (zi e g42 e) (hJ41 _ () h _ (zf 3 e e (za (j:=69) e hI ze) k4))))
     exact oP 66 e e g42 (oP 66 e e g42 (oV (zj e g42 e) (hJ41 _ () h _ (zf 3 e e (za (j:=69) e hI ze) k4))))
    exact z6 (zq (hJ8 _ () h _ (zf 11 e e (za (j:=5) e hI (za (j:=8) e hI ze)) (.cons tH k3))))
   exact zt (oA e (zF (zq (hJ8 _ () h _ (zf 11 e e (za (j:=5) e hI (za (j:=8) e hI ze)) (.cons tH k3))))))
  refine zg h e (fun _ h=>?_) (fun _ h=>?_)
  ·exact z6 (hJ16 _ () h _ (zf 0 e e (za (j:=37) e hI ze) k4))
  exact zt (oV (zaa e e) (oA e (zF (hJ16 _ () h _ (zf 2 e e (za (j:=37) e hI ze) k4)))))
 refine zg h e (fun _ h=>?_) (fun _ h=>?_)
 ·exact z6 (hJ10 _ () h _ (zf 0 e e (za (j:=24) e hI ze) k4))
 exact zt (oV (zaa e e) (oA e (zF (hJ10 _ () h _ (zf 2 e e (za (j:=24) e hI ze) k4)))))


theorem zf6:∀ {a_x:GMk} {a_i:Int} {zJ:Nat} {zad:Vt} {r:Int × GMk},zel a_x a_i=some r→Ctr Tryz.prog 114 [ptrv zJ (Fld.id (GMod × Vh × Int)),isv (a_i)] [boxE zJ ((a_x.m,(Vh.mk zad a_x.l.length),a_x.e):(GMod × Vh × Int)),vecE zad (a_x.l:List GTyp)] (fun R H=>R=oneOf [isv (r.1)]∧H=[boxE zJ ((r.2.m,(Vh.mk zad r.2.l.length),r.2.e)),vecE zad (r.2.l)]):=by
 intro a_x a_i zJ zad r h
 unfold zel at h
 refine zr Tryz.func114 e fun w0 S0 hT=>wsr (oA e (rnf (zp (wsr (oM e (oV (zw e) (oV (zY e zbY zcI) ?_)))))))
 refine oT (zH (R:=vecv zad (a_x.l.length)) ty24 e .here isvV1 (oM e (zak h fun q2 h=>oV (zcu (α:=GTyp) sl24 e e q2.1 q2.2) (oV (zhG e GTyp.f1 zfM) (zb h fun y3 hy3 h=>oT (zcV ty78 e tH hy3 ?_))))))
 refine oV (zaH (l:=y3.tags) e hI sl78) (oV (zb1 e e) (rnf (zg h e (fun _ h=>?_) (fun _ h=>?_))))
 ·refine wsr (oA e (rnf (zD (zx ?_))))
  cases h
  exact zh (.tmp e .nil) k2 ⟨e,e⟩
 refine wkf (wsr (oA e (rnf (zD ?_))))
 cases h
 exact zh (.tmp e .nil) k2 ⟨e,e⟩


theorem zmr:∀ {zcX:(List Tag)} {zbN:Int} {zeZ:Int} {r:(List Tag) × Int},zjG zcX zbN zeZ=some r→Ctr Tryz.prog 155 [isv (zcX),isv (zbN),isv (zeZ)] [] (fun R H=>R=oneOf [isv (r.1),isv (r.2)]∧H=[]):=by
 intro zcX zbN zeZ r h
 unfold zjG at h
 refine zr Tryz.func155 e fun w0 S0 hT=>wsr (oA e (oA e (rnf (zp (wsr (oM e (oV (zay e e) ?_)))))))
 refine oM e (zab (jb 14) je .nil h 3 e (fun q1 g1 h=>?_) (fun J2 h hJ2=>?_))
 ·refine oM e (zab (jb 23) je .nil h 8 e (fun q4 g4 h=>?_) (fun J5 h hJ5=>?_))
  ·refine rnf (zg h e (fun _ h=>?_) (fun _ h=>?_))
   ·refine wsr (oA e (oA e (rnf (zD (zx ?_)))))
    cases h
    exact zh (.as e (zed (α:=Tag)) (.tmp e .nil)) .nil ⟨e,e⟩
   refine wkf (wsr (oM e (oV (zar (z:=(Tag.mk (2:Int) zbN)) e bu31 ze31 (.cons Tag.f0 ziP e hI (.cons Tag.f1 zeW e hI .nil))) (oT (zZ (l:=([(Tag.mk (2:Int) zbN)]:(List Tag))) el78 (.cons e hI .nil) e e (oA e (rnf (zp (wsr ?_)))))))))
   refine oM e (oV (zaa e e) (rnf (zg h e (fun _ h=>?_) (fun _ h=>?_))))
   ·refine wsr (oM e (oM e (zak h fun q11 h=>oV (zfn (l:=zcX) e hI sl78 (.inr ⟨_,e,e⟩) (.inl ⟨e,e⟩) q11.1 q11.2.1 q11.2.2) (zaj (zbh) (zaf h fun q13 h=>oT (zbU (l:=([(Tag.mk (2:Int) zbN)]:(List Tag))) (m:=((zcX.take ((zcX.length:Int)).toNat).drop ((1:Int)).toNat)) zhl e hI e hI .here q13 fun t12=>oA e ?_))))))
    refine oA e (rnf (zD (zx ?_)))
    cases h
    exact zh (.as e zQ (.tmp e .nil)) .nil ⟨e,e⟩
   refine wkf (wsr (oM e (oM e (zaj (zbh) (zaf h fun q15 h=>oT (zbU (l:=([(Tag.mk (2:Int) zbN)]:(List Tag))) (m:=zcX) zhl e hI e hI .here q15 fun t14=>oA e (oA e ?_)))))))
   refine rnf (zD ?_)
   cases h
   exact zh (.as e zQ (.tmp e .nil)) .nil ⟨e,e⟩
  refine zn (j:=15) h e (fun g6 h=>?_) (fun g6 h=>?_)
  ·exact oP 15 e e g6 (oP 15 e e g6 (oP 15 e e g6 (zk e (dj:=18) e (zk e (dj:=18) e (zk e (dj:=18) e (oP 15 e e g6 (oV (zi e g6 e) (hJ5 _ () h _ (ji 8 23 e e e)))))))))
  refine oK 15 e e e g6 (zs e) (oK 15 e e e g6 (zaa e e) (oK 15 e e e g6 (zs e) (zab (jb 22) je .nil h 4 e (fun q7 g7 h=>?_) (fun J8 h hJ8=>?_))))
  ·exact oV (zj e g6 e) (hJ5 _ () h _ (ji 5 23 e e e))
  refine zn (j:=18) h e (fun g9 h=>?_) (fun g9 h=>?_)
  ·exact oK 18 e e e g9 (zs e) (oK 18 e e e g9 (zaH (l:=zcX) e hI sl78) (oK 18 e e e g9 (zaa e e) (oK 15 e e e g6 (zi e g9 e) (hJ8 _ () h _ (ji 4 22 e e e)))))
  exact oP 18 e e g9 (oP 18 e e g9 (oP 18 e e g9 (oK 15 e e e g6 (zj e g9 e) (hJ8 _ () h _ (ji 4 22 e e e)))))
 refine zn (j:=11) h e (fun g3 h=>?_) (fun g3 h=>?_)
 ·exact oP 11 e e g3 (oP 11 e e g3 (oV (zi e g3 e) (hJ2 _ () h _ (ji 3 14 e e e))))
 exact oK 11 e e e g3 (zs e) (oK 11 e e e g3 (zb1 e e) (oV (zj e g3 e) (hJ2 _ () h _ (ji 3 14 e e e))))


theorem zfY:∀ {a_x:GMk} {a_i:Int} {zbN:Int} {zeZ:Int} {zJ:Nat} {zad:Vt} {r:GMk},zeg a_x a_i zbN zeZ=some r→Ctr Tryz.prog 115 [ptrv zJ (Fld.id (GMod × Vh × Int)),isv (a_i),isv (zbN),isv (zeZ)] [boxE zJ ((a_x.m,(Vh.mk zad a_x.l.length),a_x.e):(GMod × Vh × Int)),vecE zad (a_x.l:List GTyp)] (fun R H=>R=oneOf []∧H=[boxE zJ ((r.m,(Vh.mk zad r.l.length),r.e)),vecE zad (r.l)]):=by
 intro a_x a_i zbN zeZ zJ zad r h
 unfold zeg at h
 refine zr Tryz.func115 e fun w0 S0 hT=>zp (wsr (oM e (oV (zw e) (oV (zY e zcz zdG) (oT (zH (R:=isv (a_x.e)) ty65 e .here hI (oV (zbo e e) (rnf ?_))))))))
 refine zg h e (fun _ h=>?_) (fun _ h=>?_)
 ·refine zD (zx ?_)
  cases h
  exact zh .nil k2 ⟨e,e⟩
 refine wkf (wsr (oM e (oV (zw e) (oV (zY e zbY zcI) (oT (zH (R:=vecv zad (a_x.l.length)) ty24 e .here isvV1 (oM e (zak h fun q2 h=>oV (zcu (α:=GTyp) sl24 e e q2.1 q2.2) ?_))))))))
 refine oV (zhG e GTyp.f1 zfM) (zb h fun y3 hy3 h=>oT (zcV ty78 e tH hy3 ?_))
 refine oM e (oM e (zb h fun y4 hy4 h=>oT (zA (zmr hy4) hT (s3 e e e) .nil (oM e (oV (z7 e e) (oV (z7 e e) (oA e (oA e ?_))))))))
 refine rnf (zp (wsr (oM e (oV (zbo e e) (rnf (zg h e (fun _ h=>?_) (fun _ h=>?_)))))))
 ·refine wsr (oM e (oM e (zb h fun y5 hy5 h=>oT (zA (zbv hy5) hT (s2 e e) k2 (rnf (zD (zx ?_)))))))
  cases h
  exact zh .nil k2 ⟨e,e⟩
 refine wkf (zt (oM e (oV (zw e) (oV (zY e zbY zcI) (oT (zH (R:=vecv zad (a_x.l.length)) ty24 e .here isvV1 (oM e (oM e (zak h fun q6 h=>?_)))))))))
 refine oV (zcu (α:=GTyp) sl24 e e q6.1 q6.2) (oV (zhG e GTyp.f1 zfM) (zb h fun y7 hy7 h=>oT (zeO ty78 e e tH hy7 (zaj (zhA (y:=((a_x.m,(Vh.mk zad (a_x.l.set a_i.toNat ({ y7 with tags:=y4.1 })).length),a_x.e):(GMod × Vh × Int))) tH (fun S=>(Cv.pair Cv.id (Cv.pair (Cv.vhe (by first | rfl | simp)) Cv.id)))) ?_))))
 refine zF (zaP .nil k2 ?_)
 cases h
 exact ⟨e,e⟩


def zh1 (f':(List GTyp)→Int→Option (Bool)):Prop :=
 ∀ {a_l:(List GTyp)} {a_i:Int} {zeL:Vt} {r:Bool},f' a_l a_i=some r→Ctr Tryz.prog 193 [vecv zeL (a_l.length),isv (a_i)] [vecE zeL (a_l:List GTyp)] (fun R H=>R=oneOf [isv (r)]∧H=[vecE zeL (a_l:List GTyp)])
theorem zlT {zhv:(List GTyp)→Int→Option (Bool)} (zmt:zh1 zhv):∀ {a_l:(List GTyp)} {a_i:Int} {zeL:Vt} {r:Bool},zhR zhv a_l a_i=some r→Ctr Tryz.prog 193 [vecv zeL (a_l.length),isv (a_i)] [vecE zeL (a_l:List GTyp)] (fun R H=>R=oneOf [isv (r)]∧H=[vecE zeL (a_l:List GTyp)]):=by
 intro a_l a_i zeL r h
 unfold zhR at h
 refine zr Tryz.func193 e fun w0 S0 hT=>wsr (oA e (rnf (zp (wsr (oM e (oM e (zak h fun q1 h=>?_)))))))
 refine oV (zcu (α:=GTyp) sl24 e e q1.1 q1.2) (oV (zhG e GTyp.f0 zdf) (zb h fun y2 hy2 h=>oT (zcV ty3 e .here hy2 ?_)))
 refine oV (zbo e e) (oM e (zab (jb 21) je .nil h 8 e (fun q3 g3 h=>?_) (fun J4 h hJ4=>?_)))
 ·refine rnf (zg h e (fun _ h=>?_) (fun _ h=>?_))
  ·refine wsr (oA e (rnf (zD (zx ?_))))
   cases h
   exact zh (.tmp e .nil) k1 ⟨e,e⟩
  refine wkf (wsr (oM e (oM e (zak h fun q8 h=>oV (zcu (α:=GTyp) sl24 e e q8.1 q8.2) (oV (zhG e GTyp.f6 ziQ) (zb h fun y9 hy9 h=>oT (zcV ty4 e .here hy9 ?_)))))))
  refine oA e (rnf (zp (wsr (oA e (rnf (zB (zbx (ι:=Bool × Int) (γ:=Unit) (fun q10 g10=>[(5,isv (q10.1)),(6,isv (q10.2))]) (fun q10 g10=>[]) h () (za (j:=5) e hI (za (j:=6) e hI ze)) .nil (fun L11 q10 g10 Q32 h hL11 eL11 rL11=>zp ?_))))))))
  refine wsr (oM e (oM e (oM e (zak h fun q22 h=>oV (zcu (α:=GTyp) sl24 e e q22.1 q22.2) (oV (zhG e GTyp.f4 zbR) (zb h fun y23 hy23 h=>oT (zcV ty85 e .here hy23 ?_)))))))
  refine oV (zaH (l:=y23.fields) e hI sl85) (oV (zay e e) (rnf (zg h e (fun _ h=>?_) (fun _ h=>?_))))
  ·refine wkf (zp (zB (zt (oM e (oM e (zab (jb 50) je .nil h 12 e (fun q24 g24 h=>?_) (fun J25 h hJ25=>?_)))))))
   ·refine oA e (zF (zq (zE (zt (oM e (zO h fun q31 h=>oV (zan e e q31) (oA e ?_)))))))
    exact zF (hL11 _ () h _ (zf 17 e e (za (j:=5) e hI (za (j:=6) e hI ze)) k1))
   refine zn (j:=38) h e (fun g26 h=>?_) (fun g26 h=>?_)
   ·refine oP 38 e e g26 (oP 38 e e g26 (oP 38 e e g26 (oP 38 e e g26 (oP 38 e e g26 (oP 38 e e g26 (oP 38 e e g26 (oP 38 e e g26 (oP 38 e e g26 ?_))))))))
    exact oP 38 e e g26 (oP 38 e e g26 (oV (zi e g26 e) (hJ25 _ () h _ (jk 12 50 e e e))))
   refine oK 38 e e e g26 (zs e) (oK 38 e e e g26 (zs e) (oK 38 e e e g26 (zs e) (zak h fun q27 h=>oK 38 e e e g26 (zcu (α:=GTyp) sl24 e e q27.1 q27.2) (oK 38 e e e g26 (zhG e GTyp.f4 zbR) (zb h fun y28 hy28 h=>zai e e (dj:=38) e g26 (zcV ty85 e .here hy28 ?_))))))
   refine oK 38 e e e g26 (zs e) (zb h fun y29 hy29 h=>oK 38 e e e g26 (zaz (l:=y28.fields) e hI e sl85 hy29) (oK 38 e e e g26 (zI e GFld.f1 zdA e (z:=y29.ty)) (oK 38 e e e g26 (zd ty3 e) (zb h fun y30 hy30 h=>zai e e (dj:=38) e g26 (zA (zmt hy30) hT (.cons e (fun _ _ h=>vecvE (by first | rfl | simp) _ _ h) (s1 e)) k1 ?_)))))
   exact oV (zj e g26 e) (hJ25 _ () h _ (jk 12 50 e e e))
  refine zam (z8 (eL11 _ _ (zL (zE (wsr (oM e (oA e (rnf ?_))))))))
  refine zD ?_
  cases h
  exact zh (.tmp e .nil) k1 ⟨e,e⟩
 refine zn (j:=13) h e (fun g5 h=>?_) (fun g5 h=>?_)
 ·exact oP 13 e e g5 (oP 13 e e g5 (oP 13 e e g5 (oP 13 e e g5 (oP 13 e e g5 (oP 13 e e g5 (oP 13 e e g5 (oV (zi e g5 e) (hJ4 _ () h _ (jk 8 21 e e e)))))))))
 refine oK 13 e e e g5 (zs e) (oK 13 e e e g5 (zs e) (zak h fun q6 h=>oK 13 e e e g5 (zcu (α:=GTyp) sl24 e e q6.1 q6.2) (oK 13 e e e g5 (zhG e GTyp.f1 zfM) (zb h fun y7 hy7 h=>zai e e (dj:=13) e g5 (zcV ty78 e .here hy7 ?_)))))
 exact oK 13 e e e g5 (zaH (l:=y7.tags) e hI sl78) (oK 13 e e e g5 (zb1 e e) (oV (zj e g5 e) (hJ4 _ () h _ (jk 8 21 e e e))))

theorem zhd:∀ n,zh1 (zke n)
 | 0=>fun h=>(by cases h)
 | n + 1=>zlT (zhd n)
theorem zmF (n:Nat):zh1 (zke n):=(zhd n)

def zgs (f':(List GTyp)→Int→Option ((List Tag))):Prop :=
 ∀ {a_l:(List GTyp)} {a_i:Int} {zeL:Vt} {r:(List Tag)},f' a_l a_i=some r→Ctr Tryz.prog 79 [vecv zeL (a_l.length),isv (a_i)] [vecE zeL (a_l:List GTyp)] (fun R H=>R=oneOf [isv (r)]∧H=[vecE zeL (a_l:List GTyp)])
theorem zkg {zfJ:(List GTyp)→Int→Option ((List Tag))} (zkK:zgs zfJ):∀ {a_l:(List GTyp)} {a_i:Int} {zeL:Vt} {r:(List Tag)},zgo zfJ a_l a_i=some r→Ctr Tryz.prog 79 [vecv zeL (a_l.length),isv (a_i)] [vecE zeL (a_l:List GTyp)] (fun R H=>R=oneOf [isv (r)]∧H=[vecE zeL (a_l:List GTyp)]):=by
 intro a_l a_i zeL r h
 unfold zgo at h
 refine zr Tryz.func79 e fun w0 S0 hT=>wsr (oA e (rnf (zp (wsr (oM e (oM e (zak h fun q1 h=>?_)))))))
 refine oV (zcu (α:=GTyp) sl24 e e q1.1 q1.2) (oV (zhG e GTyp.f1 zfM) (zb h fun y2 hy2 h=>oT (zcV ty78 e .here hy2 ?_)))
 refine oV (zaH (l:=y2.tags) e hI sl78) (oV (zb1 e e) (rnf (zg h e (fun _ h=>?_) (fun _ h=>?_))))
 ·refine wsr (oM e (oM e (zak h fun q3 h=>oV (zcu (α:=GTyp) sl24 e e q3.1 q3.2) (oV (zhG e GTyp.f1 zfM) (zb h fun y4 hy4 h=>oT (zcV ty78 e .here hy4 ?_))))))
  refine zak h fun q5 h=>oV (zfn (l:=y4.tags) e hI sl78 (.inl ⟨e,e⟩) (.inr ⟨_,e,e⟩) q5.1 q5.2.1 q5.2.2) (oA e (rnf (zD (zx ?_))))
  cases h
  exact zh (.tmp e .nil) k1 ⟨e,e⟩
 refine wkf (wsr (oA e (rnf (zp (wsr (oA e (rnf (zB ?_))))))))
 refine zgZ (zbh) (zbx (ι:=(List Tag) × Int) (γ:=Tok) (fun q6 g6=>[(5,appv g6 (q6.1)),(6,isv (q6.2))]) (fun q6 g6=>[tokE g6]) h (none) (za (j:=5) e zb4 (za (j:=6) e hI ze)) k1 (fun L7 q6 g6 Q27 h hL7 eL7 rL7=>zp (wsr (oM e (oM e (oM e (zak h fun q17 h=>oV (zcu (α:=GTyp) sl24 e e q17.1 q17.2) ?_)))))))
 refine oV (zhG e GTyp.f4 zbR) (zb h fun y18 hy18 h=>oT (zcV ty85 e tH hy18 ?_))
 refine oV (zaH (l:=y18.fields) e hI sl85) (oV (zay e e) (rnf (zg h e (fun _ h=>?_) (fun _ h=>?_))))
 ·refine wkf (zp (zB (zt (oM e (oM e (oM e (oM e (zak h fun q19 h=>?_))))))))
  refine oV (zcu (α:=GTyp) sl24 e e q19.1 q19.2) (oV (zhG e GTyp.f4 zbR) (zb h fun y20 hy20 h=>oT (zcV ty85 e tH hy20 ?_)))
  refine oM e (zb h fun y21 hy21 h=>oV (zaz (l:=y20.fields) e hI e sl85 hy21) (oV (zI e GFld.f1 zdA e (z:=y21.ty)) (oV (zd ty3 e) (zb h fun y22 hy22 h=>oT (zA (zkK hy22) hT (.cons e (fun _ _ h=>vecvE (by first | rfl | simp) _ _ h) (s1 e)) (.cons tH .nil) ?_)))))
  refine zaf h fun q24 h=>oT (zbU (l:=q6.1) (m:=y22) zhl e hI e hI tH q24 fun t23=>oA e (zF (zq (zE (zt (oM e (zO h fun q25 h=>?_)))))))
  exact oV (zan e e q25) (oA e (zF (hL7 _ (t23) h _ (zf 27 e e (za (j:=5) e hI (za (j:=6) e hI ze)) k2))))
 refine zam (z8 (eL7 _ _ (zL (zE (wsr (oM e (oA e (rnf ?_))))))))
 refine zD ?_
 cases h
 exact zh (.as e zQ .nil) (.cons tH .nil) ⟨e,e⟩

theorem zga:∀ n,zgs (zie n)
 | 0=>fun h=>(by cases h)
 | n + 1=>zkg (zga n)
theorem zlh (n:Nat):zgs (zie n):=(zga n)

theorem zj1:∀ {a_l:(List Tag)} {a_x:Tag} {r:Bool},zgr a_l a_x=some r→Ctr Tryz.prog 166 [isv (a_l),isv (a_x)] [] (fun R H=>R=oneOf [isv (r)]∧H=[]):=by
 intro a_l a_x r h
 unfold zgr at h
 refine zr Tryz.func166 e fun w0 S0 hT=>wsr (oT (zaw (y:=a_x) e hI (oA e (rnf (zp (wsr (oA e (rnf ?_))))))))
 refine zB (zbx (ι:=Int) (γ:=Unit) (fun q1 g1=>[(5,isv (q1))]) (fun q1 g1=>[]) h () (za (j:=5) e hI ze) .nil (fun L2 q1 g1 Q7 h hL2 eL2 rL2=>zp (wsr (oM e (oM e (oV (zaH (l:=a_l) e hI sl78) (oV (zay e e) (rnf ?_))))))))
 refine zg h e (fun _ h=>?_) (fun _ h=>?_)
 ·refine wkf (zp (zB (zp (zae (.v 0 (.v 1 (.v 2 (.v 3 (.v 4 (.v 5 .nil)))))) moOrd (by kernel_rfl) ?_))))
  refine rvm e e (rvm e e (zb h fun y5 hy5 h=>zC e (zaz (l:=a_l) e hI e sl78 hy5) (zC e (zd ty31 e) (zC e (zd ty31 e) (zC e (zce eq31 e e) (zaA (zE ?_)))))))
  refine zg h e (fun _ h=>?_) (fun _ h=>?_)
  ·refine wsr (oA e (rnf (zD (zz (zx (rL2 _ (zz (zx ?_))))))))
   cases h
   exact zh (.tmp e .nil) .nil ⟨e,e⟩
  refine z6 (zq (zE (zt (oM e (zO h fun q6 h=>oV (zan e e q6) (oA e (zF ?_)))))))
  exact hL2 _ () h _ (ji 14 5 e e e)
 refine zam (z8 (eL2 _ _ (zL (zE (wsr (oA e (rnf (zD ?_))))))))
 cases h
 exact zh (.tmp e .nil) .nil ⟨e,e⟩

end Go.Proofs.Q

