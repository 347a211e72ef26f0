/- Walks, printed by mill.py. -/
import Derived.Test.YtmahnaanhhojkaaGreatDoorNpA
import Derived.Test.YtmahnaanhhojkaaGreatDoorNpB
import Derived.Test.YtmahnaanhhojkaaGreatDoorNpC
import Derived.Test.YtmahnaanhhojkaaGreatDoorNpD
import Derived.Test.YtmahnaanhhojkaaGreatDoorProg
import Derived.Shelf.Strconv.ParseIntPublic10
import Derived.KernelRfl
import Derived.Shelf.Strconv.Itoa4
import Derived.Shelf.Strings.Replace
import Derived.Lib.AppendIntMem
import Derived.Shelf.Unicode.ValidAny
set_option linter.unusedVariables false
set_option linter.unusedSimpArgs false

namespace Go.Proofs.Q
open Go.Sy
open Go.Shelf Go.RowKit
theorem zm0 {S:Frz} {w w':World} (hk:Below w.heap.size w w') (hs:S.sub w):Step (keys []) S S w w' :=
 ⟨⟨hk.os,hk.tape,hk.output,hk.size,λk hk' _=>hk.block k hk'⟩,Go.Sy.Grow.refl _ _ _,λb cs hb=>by
  obtain ⟨c,T,fr,h1,h2⟩:=hs b cs hb
  exact ⟨c,T,fr,by rw [hk.block b (Array.getElem?_eq_some_iff.1 h1).1];exact h1,h2⟩⟩
end Go.Proofs.Q


namespace Go.Proofs.Q
open Go.Sy
open Go.Shelf Go.RowKit
def fmtRen:Shelf.Ren:=⟨λx=>bif Nat.beq x 129 then 222 else bif Nat.beq x 173 then 113 else bif Nat.beq x 246 then 161 else bif Nat.beq x 283 then 193 else bif Nat.beq x 284 then 194 else bif Nat.beq x 285 then 195 else bif Nat.beq x 286 then 196 else bif Nat.beq x 317 then 221 else bif Nat.beq x 318 then 223 else bif Nat.beq x 319 then 224 else bif Nat.beq x 320 then 225 else bif Nat.beq x 337 then 241 else bif Nat.beq x 338 then 242 else x,λx=>bif Nat.beq x 0 then 0 else bif Nat.beq x 2 then 2 else bif Nat.beq x 3 then 3 else bif Nat.beq x 4 then 4 else bif Nat.beq x 5 then 5 else bif Nat.beq x 9 then 9 else bif Nat.beq x 20 then 20 else bif Nat.beq x 37 then 22 else bif Nat.beq x 46 then 51 else bif Nat.beq x 51 then 278 else bif Nat.beq x 53 then 102 else bif Nat.beq x 171 then 240 else bif Nat.beq x 173 then 243 else bif Nat.beq x 212 then 277 else bif Nat.beq x 213 then 279 else bif Nat.beq x 232 then 303 else bif Nat.beq x 233 then 304 else x,λx=>bif Nat.beq x 17 then 4 else bif Nat.beq x 18 then 6 else bif Nat.beq x 19 then 7 else x⟩
set_option maxRecDepth 100000 in
theorem fmtLays:LaysM.n173 Tryz.prog fmtRen:={
 mixed:=by kernel_rfl
 f129:=Tryz.func222.trans (by kernel_rfl)
 f173:=Tryz.func113.trans (by kernel_rfl)
 f246:=Tryz.func161.trans (by kernel_rfl)
 f283:=Tryz.func193.trans (by kernel_rfl)
 f284:=Tryz.func194.trans (by kernel_rfl)
 f285:=Tryz.func195.trans (by kernel_rfl)
 f286:=Tryz.func196.trans (by kernel_rfl)
 f317:=Tryz.func221.trans (by kernel_rfl)
 f318:=Tryz.func223.trans (by kernel_rfl)
 f319:=Tryz.func224.trans (by kernel_rfl)
 f320:=Tryz.func225.trans (by kernel_rfl)
 f337:=Tryz.func241.trans (by kernel_rfl)
 f338:=Tryz.func242.trans (by kernel_rfl)
 t0:=Tryz.underlying0
 a0:=Tryz.isAgg0
 z0:=Tryz.sizeOf0
 v0:=Tryz.zeroValue0
 t2:=Tryz.underlying2
 a2:=Tryz.isAgg2
 z2:=Tryz.sizeOf2
 v2:=Tryz.zeroValue2
 t3:=Tryz.underlying3
 a3:=Tryz.isAgg3
 z3:=Tryz.sizeOf3
 v3:=Tryz.zeroValue3
 t4:=Tryz.underlying4
 a4:=Tryz.isAgg4
 z4:=Tryz.sizeOf4
 v4:=Tryz.zeroValue4
 t5:=Tryz.underlying5
 a5:=Tryz.isAgg5
 z5:=Tryz.sizeOf5
 v5:=Tryz.zeroValue5
 t9:=Tryz.underlying9
 a9:=Tryz.isAgg9
 z9:=Tryz.sizeOf9
 v9:=Tryz.zeroValue9
 t20:=Tryz.underlying20
 a20:=Tryz.isAgg20
 z20:=Tryz.sizeOf20
 v20:=Tryz.zeroValue20
 t37:=Tryz.underlying22
 a37:=Tryz.isAgg22
 z37:=Tryz.sizeOf22
 v37:=Tryz.zeroValue22
 t46:=Tryz.underlying51
 a46:=Tryz.isAgg51
 z46:=Tryz.sizeOf51
 v46:=Tryz.zeroValue51
 t51:=Tryz.underlying278
 a51:=Tryz.isAgg278
 z51:=Tryz.sizeOf278
 v51:=Tryz.zeroValue278
 t53:=Tryz.underlying102
 a53:=Tryz.isAgg102
 z53:=Tryz.sizeOf102
 v53:=Tryz.zeroValue102
 t171:=Tryz.underlying240
 a171:=Tryz.isAgg240
 z171:=Tryz.sizeOf240
 v171:=Tryz.zeroValue240
 t173:=Tryz.underlying243
 a173:=Tryz.isAgg243
 z173:=Tryz.sizeOf243
 v173:=Tryz.zeroValue243
 t212:=Tryz.underlying277
 a212:=Tryz.isAgg277
 z212:=Tryz.sizeOf277
 v212:=Tryz.zeroValue277
 t213:=Tryz.underlying279
 a213:=Tryz.isAgg279
 z213:=Tryz.sizeOf279
 t232:=Tryz.underlying303
 a232:=Tryz.isAgg303
 z232:=Tryz.sizeOf303
 v232:=Tryz.zeroValue303
 t233:=Tryz.underlying304
 a233:=Tryz.isAgg304
 z233:=Tryz.sizeOf304
 v233:=Tryz.zeroValue304
 g17:=by kernel_rfl
 g18:=by kernel_rfl
 g19:=by kernel_rfl
 i0:=by kernel_rfl
 i2:=by kernel_rfl
 i3:=by kernel_rfl
 i4:=by kernel_rfl
 i5:=by kernel_rfl
 i9:=by kernel_rfl
 i20:=by kernel_rfl
 i37:=by kernel_rfl
 i46:=by kernel_rfl
 i51:=by kernel_rfl
 i53:=by kernel_rfl
 i171:=by kernel_rfl
 i173:=by kernel_rfl
 i212:=by kernel_rfl
 i232:=by kernel_rfl
 i233:=by kernel_rfl
 m17:=by kernel_rfl
 m18:=by kernel_rfl
 m19:=by kernel_rfl }
def repRen:Shelf.Ren:=⟨λx=>bif Nat.beq x 138 then 197 else bif Nat.beq x 143 then 199 else bif Nat.beq x 154 then 162 else bif Nat.beq x 155 then 115 else bif Nat.beq x 165 then 198 else bif Nat.beq x 166 then 200 else bif Nat.beq x 169 then 202 else bif Nat.beq x 195 then 226 else bif Nat.beq x 197 then 201 else bif Nat.beq x 217 then 245 else bif Nat.beq x 218 then 227 else bif Nat.beq x 219 then 230 else bif Nat.beq x 224 then 247 else bif Nat.beq x 225 then 246 else bif Nat.beq x 240 then 228 else bif Nat.beq x 241 then 229 else bif Nat.beq x 260 then 231 else bif Nat.beq x 266 then 252 else bif Nat.beq x 267 then 248 else bif Nat.beq x 276 then 243 else bif Nat.beq x 277 then 244 else bif Nat.beq x 314 then 253 else x,λx=>bif Nat.beq x 0 then 0 else bif Nat.beq x 3 then 3 else bif Nat.beq x 4 then 4 else bif Nat.beq x 5 then 5 else bif Nat.beq x 9 then 9 else bif Nat.beq x 20 then 20 else bif Nat.beq x 21 then 21 else bif Nat.beq x 37 then 22 else bif Nat.beq x 46 then 51 else bif Nat.beq x 51 then 278 else bif Nat.beq x 70 then 246 else bif Nat.beq x 72 then 248 else bif Nat.beq x 75 then 149 else bif Nat.beq x 76 then 250 else bif Nat.beq x 80 then 254 else bif Nat.beq x 105 then 252 else bif Nat.beq x 119 then 97 else bif Nat.beq x 127 then 283 else bif Nat.beq x 138 then 99 else bif Nat.beq x 139 then 100 else bif Nat.beq x 146 then 305 else bif Nat.beq x 164 then 299 else x,λx=>bif Nat.beq x 1 then 5 else bif Nat.beq x 3 then 0 else bif Nat.beq x 4 then 1 else x⟩
set_option maxRecDepth 100000 in
theorem repLays:Lays.n155 Tryz.prog repRen:={
 mixed:=by kernel_rfl
 f138:=Tryz.func197.trans (by kernel_rfl)
 f143:=Tryz.func199.trans (by kernel_rfl)
 f154:=Tryz.func162.trans (by kernel_rfl)
 f155:=Tryz.func115.trans (by kernel_rfl)
 f165:=Tryz.func198.trans (by kernel_rfl)
 f166:=Tryz.func200.trans (by kernel_rfl)
 f169:=Tryz.func202.trans (by kernel_rfl)
 f195:=Tryz.func226.trans (by kernel_rfl)
 f197:=Tryz.func201.trans (by kernel_rfl)
 f217:=Tryz.func245.trans (by kernel_rfl)
 f218:=Tryz.func227.trans (by kernel_rfl)
 f219:=Tryz.func230.trans (by kernel_rfl)
 f224:=Tryz.func247.trans (by kernel_rfl)
 f225:=Tryz.func246.trans (by kernel_rfl)
 f240:=Tryz.func228.trans (by kernel_rfl)
 f241:=Tryz.func229.trans (by kernel_rfl)
 f260:=Tryz.func231.trans (by kernel_rfl)
 f266:=Tryz.func252.trans (by kernel_rfl)
 f267:=Tryz.func248.trans (by kernel_rfl)
 f276:=Tryz.func243.trans (by kernel_rfl)
 f277:=Tryz.func244.trans (by kernel_rfl)
 f314:=Tryz.func253.trans (by kernel_rfl)
 t0:=Tryz.underlying0
 a0:=Tryz.isAgg0
 z0:=Tryz.sizeOf0
 v0:=Tryz.zeroValue0
 t3:=Tryz.underlying3
 a3:=Tryz.isAgg3
 z3:=Tryz.sizeOf3
 v3:=Tryz.zeroValue3
 t4:=Tryz.underlying4
 a4:=Tryz.isAgg4
 z4:=Tryz.sizeOf4
 v4:=Tryz.zeroValue4
 t5:=Tryz.underlying5
 a5:=Tryz.isAgg5
 z5:=Tryz.sizeOf5
 v5:=Tryz.zeroValue5
 t9:=Tryz.underlying9
 a9:=Tryz.isAgg9
 z9:=Tryz.sizeOf9
 v9:=Tryz.zeroValue9
 t20:=Tryz.underlying20
 a20:=Tryz.isAgg20
 z20:=Tryz.sizeOf20
 v20:=Tryz.zeroValue20
 t21:=Tryz.underlying21
 a21:=Tryz.isAgg21
 z21:=Tryz.sizeOf21
 v21:=Tryz.zeroValue21
 t37:=Tryz.underlying22
 a37:=Tryz.isAgg22
 z37:=Tryz.sizeOf22
 v37:=Tryz.zeroValue22
 t46:=Tryz.underlying51
 a46:=Tryz.isAgg51
 z46:=Tryz.sizeOf51
 v46:=Tryz.zeroValue51
 t51:=Tryz.underlying278
 a51:=Tryz.isAgg278
 z51:=Tryz.sizeOf278
 v51:=Tryz.zeroValue278
 t70:=Tryz.underlying246
 a70:=Tryz.isAgg246
 z70:=Tryz.sizeOf246
 v70:=Tryz.zeroValue246
 t72:=Tryz.underlying248
 a72:=Tryz.isAgg248
 z72:=Tryz.sizeOf248
 v72:=Tryz.zeroValue248
 t75:=Tryz.underlying149
 a75:=Tryz.isAgg149
 z75:=Tryz.sizeOf149
 v75:=Tryz.zeroValue149
 t76:=Tryz.underlying250
 a76:=Tryz.isAgg250
 z76:=Tryz.sizeOf250
 v76:=Tryz.zeroValue250
 t105:=Tryz.underlying252
 a105:=Tryz.isAgg252
 z105:=Tryz.sizeOf252
 v105:=Tryz.zeroValue252
 t119:=Tryz.underlying97
 a119:=Tryz.isAgg97
 z119:=Tryz.sizeOf97
 t127:=Tryz.underlying283
 a127:=Tryz.isAgg283
 z127:=Tryz.sizeOf283
 v127:=Tryz.zeroValue283
 t138:=Tryz.underlying99
 a138:=Tryz.isAgg99
 z138:=Tryz.sizeOf99
 v138:=Tryz.zeroValue99
 t139:=Tryz.underlying100
 a139:=Tryz.isAgg100
 z139:=Tryz.sizeOf100
 v139:=Tryz.zeroValue100
 t146:=Tryz.underlying305
 a146:=Tryz.isAgg305
 z146:=Tryz.sizeOf305
 v146:=Tryz.zeroValue305
 t164:=Tryz.underlying299
 a164:=Tryz.isAgg299
 z164:=Tryz.sizeOf299
 v164:=Tryz.zeroValue299
 g1:=by kernel_rfl
 g3:=by kernel_rfl
 g4:=by kernel_rfl }
set_option maxRecDepth 100000 in
theorem repX:Builder.Extra Tryz.prog repRen:={
 sizeBuilder:=by kernel_rfl
 liesBuilder:=by kernel_rfl
 t5:=Tryz.underlying5
 a5:=Tryz.isAgg5
 z5:=Tryz.sizeOf5
 v5:=Tryz.zeroValue5
 infoByte:=by kernel_rfl
 cellsByte:=by kernel_rfl
 sizeByte:=by kernel_rfl
 neB5:=by decide }
theorem zkB:∀ {a_i:Int} {zt4:Int} {r:Str},zdA a_i zt4=some r->Ctr Tryz.prog 113 [isv (a_i),isv (zt4)] [] (λR H=>R=oneOf [isv (r)]/\H=[]):=by
 intro n b r h
 unfold zdA at h
 cases hc:(decide (b=10) && Nat.ble (Lib.itoa n).length 100) with
 | false=>rw [hc] at h;cases h
 | true =>
  rw [hc,zCt] at h
  obtain rfl:=Option.some.inj h
  rw [zBa] at hc
  have hb:=zOT hc.1
  have hln:=Nat.le_of_ble_eq_true hc.2
  subst hb
  refine ⟨⟨_,Tryz.func113,rfl,by decide +kernel⟩,λS w vs hT hs hv ho=>?_⟩
  match vs,hv with
  | [v1,v2],⟨hv1,hv2,_⟩ =>
   obtain ⟨rfl,hn⟩:=zas.1 hv1
   obtain ⟨rfl,_⟩:=zas.1 hv2
   have htab : Lib.TabIs Tryz.prog w "internal/strconv.uint64pow10" .u64 Lib.pow10Tab := by
    have:=hT.glob.pow (by kernel_rfl)
    unfold Lib.TabIs
    rw [this]
    unfold powTab Lib.pow10Tab
    rw [List.map_map]
    rfl
   unfold inI64 at hn
   refine (Any.strconv_FormatInt_10 fmtLays n (by omega) (by omega) w htab).mono λe w' ⟨he,k,os,hw⟩=>?_
   subst hw
   have hml:maxText=4611686018427387904:=rfl
   exact ⟨_,S,_,[],⟨rfl,rfl⟩,he,zcG.2 ⟨rfl,by show (Lib.itoa n).length <= _;omega⟩,zm0 (Lib.below_grow _ _ (zNl _) _ _) hs,zfZ _ _ _ _⟩
theorem zjS:∀ {a_s:Str} {zvA:Str} {zvx:Str} {r:Str},strings_ReplaceAll a_s zvA zvx=some r->Ctr Tryz.prog 115 [isv (a_s),isv (zvA),isv (zvx)] [] (λR H=>R=oneOf [isv (r)]/\H=[]):=by
 intro s o n r h
 unfold strings_ReplaceAll at h
 cases hc:(Nat.ble s.b.length 1000000 && Nat.ble 1 o.b.length && Nat.ble (s.b.length + Lib.count s.b o.b * n.b.length) 140737488355328 && Nat.ble (Lib.replaceAll s.b o.b n.b).length 4294967296) with
 | false=>rw [hc] at h;cases h
 | true =>
  rw [hc,zCt] at h
  obtain rfl:=Option.some.inj h
  rw [zBa,zBa,zBa] at hc
  have h1:=Nat.le_of_ble_eq_true hc.1.1.1
  have h2:=Nat.le_of_ble_eq_true hc.1.1.2
  have h3:=Nat.le_of_ble_eq_true hc.1.2
  have h4:=Nat.le_of_ble_eq_true hc.2
  refine ⟨⟨_,Tryz.func115,rfl,by decide +kernel⟩,λS w vs hT hs hv ho=>?_⟩
  match vs,hv with
  | [v1,v2,v3],⟨hv1,hv2,hv3,_⟩ =>
   obtain ⟨rfl,_⟩:=zcG.1 hv1
   obtain ⟨rfl,_⟩:=zcG.1 hv2
   obtain ⟨rfl,_⟩:=zcG.1 hv3
   obtain ⟨m,hm⟩:=hT.glob.most (repRen.g 1) (by kernel_rfl)
   have e1:s.ba.size=s.b.length:=Str.ba_size s
   have e2:o.ba.size=o.b.length:=Str.ba_size o
   have e3:n.ba.size=n.b.length:=Str.ba_size n
   refine (Any.strings_ReplaceAll repLays repX s.ba o.ba n.ba m w (by omega) hm (by omega) (by rw [e1,e3];exact h3)).mono λe w' ⟨he,hw⟩=>?_
   have hml:maxText=4611686018427387904:=rfl
   exact ⟨_,S,_,[],⟨rfl,rfl⟩,he,zcG.2 ⟨rfl,by show (Lib.replaceAll s.b o.b n.b).length <= _;omega⟩,zm0 hw hs,zfZ _ _ _ _⟩
end Go.Proofs.Q


namespace Go.Proofs.Q
open Go.Sy
def valRen:Shelf.Ren:=⟨λx=>bif Nat.beq x 196 then 20 else bif Nat.beq x 259 then 42 else x,λx=>bif Nat.beq x 0 then 0 else bif Nat.beq x 3 then 3 else bif Nat.beq x 4 then 4 else bif Nat.beq x 5 then 5 else bif Nat.beq x 9 then 9 else bif Nat.beq x 12 then 12 else bif Nat.beq x 46 then 51 else bif Nat.beq x 53 then 102 else bif Nat.beq x 119 then 97 else bif Nat.beq x 138 then 99 else bif Nat.beq x 139 then 100 else x,λx=>bif Nat.beq x 3 then 0 else bif Nat.beq x 4 then 1 else x⟩
set_option maxRecDepth 100000 in
theorem valLays:Lays.n196 Tryz.prog valRen:={
 mixed:=by kernel_rfl
 f196:=Tryz.func20.trans (by kernel_rfl)
 f259:=Tryz.func42.trans (by kernel_rfl)
 t0:=Tryz.underlying0
 a0:=Tryz.isAgg0
 z0:=Tryz.sizeOf0
 v0:=Tryz.zeroValue0
 t3:=Tryz.underlying3
 a3:=Tryz.isAgg3
 z3:=Tryz.sizeOf3
 v3:=Tryz.zeroValue3
 t4:=Tryz.underlying4
 a4:=Tryz.isAgg4
 z4:=Tryz.sizeOf4
 v4:=Tryz.zeroValue4
 t5:=Tryz.underlying5
 a5:=Tryz.isAgg5
 z5:=Tryz.sizeOf5
 v5:=Tryz.zeroValue5
 t9:=Tryz.underlying9
 a9:=Tryz.isAgg9
 z9:=Tryz.sizeOf9
 v9:=Tryz.zeroValue9
 t12:=Tryz.underlying12
 a12:=Tryz.isAgg12
 z12:=Tryz.sizeOf12
 v12:=Tryz.zeroValue12
 t46:=Tryz.underlying51
 a46:=Tryz.isAgg51
 z46:=Tryz.sizeOf51
 v46:=Tryz.zeroValue51
 t53:=Tryz.underlying102
 a53:=Tryz.isAgg102
 z53:=Tryz.sizeOf102
 v53:=Tryz.zeroValue102
 t119:=Tryz.underlying97
 a119:=Tryz.isAgg97
 z119:=Tryz.sizeOf97
 t138:=Tryz.underlying99
 a138:=Tryz.isAgg99
 z138:=Tryz.sizeOf99
 v138:=Tryz.zeroValue99
 t139:=Tryz.underlying100
 a139:=Tryz.isAgg100
 z139:=Tryz.sizeOf100
 v139:=Tryz.zeroValue100
 g3:=by kernel_rfl
 g4:=by kernel_rfl }
theorem zk4:∀ {a_s:Str} {r:Bool},utf8_ValidString a_s=some r->Ctr Tryz.prog 20 [isv (a_s)] [] (λR H=>R=oneOf [isv (r)]/\H=[]):=by
 intro s r h
 obtain rfl:=Option.some.inj h
 refine ⟨⟨_,Tryz.func20,rfl,by decide +kernel⟩,λS w vs hT hs hv ho=>?_⟩
 match vs,hv with
 | [v],⟨hv,_⟩ =>
  obtain ⟨rfl,hl⟩:=zcG.1 hv
  have hb:=Any.utf8_ValidString valLays s.ba w (by rw [Str.ba_size];unfold maxText at hl;omega) ((hT.tabs w hs).1 _ _ valLays.g3 valLays.g4)
  refine hb.mono λe w' ⟨he,hk⟩=>⟨.bool (Lib.validD s.ba.data.toList),S,_,[],⟨rfl,rfl⟩,he,?_,⟨⟨hk.os,hk.tape,hk.output,hk.size,λk hk' _=>hk.block k hk'⟩,Go.Sy.Grow.refl _ _ _,λb cs hb=>?_⟩,zfZ _ _ _ _⟩
  ·refine zbL.2 ?_
   show Value.bool (Lib.validD s.b.toArray.toList)=_
   rfl
  ·obtain ⟨c,T,fr,h1,h2⟩:=hs b cs hb
   exact ⟨c,T,fr,by rw [hk.block b (Array.getElem?_eq_some_iff.1 h1).1];exact h1,h2⟩
end Go.Proofs.Q


namespace Go.Proofs.Q
open Go.Sy
set_option maxRecDepth 4000
@[reducible] def zkm:Fld ((List GTok) × Int × (Str × Int × (TList Str) × (TList Int) × Vh) × Int × Int) (List GTok):=pf0
@[reducible] def zik:Fld ((List GTok) × Int × (Str × Int × (TList Str) × (TList Int) × Vh) × Int × Int) Int:=pf1
@[reducible] def zb8:Fld ((List GTok) × Int × (Str × Int × (TList Str) × (TList Int) × Vh) × Int × Int) Int:=pf3
@[reducible] def zoe:Fld ((List GTok) × Int × (Str × Int × (TList Str) × (TList Int) × Vh) × Int × Int) Int:=pl4
@[reducible] def zdb:Fld ((List GTok) × Int × (Str × Int × (TList Str) × (TList Int) × Vh) × Int × Int) (Str × Int × (TList Str) × (TList Int) × Vh):=pf2
@[reducible] def zut:Fld (Str × Int × (TList Str) × (TList Int) × Vh) Str:=pf0
@[reducible] def zqk:Fld (Str × Int × (TList Str) × (TList Int) × Vh) Int:=pf1
@[reducible] def znH:Fld (Str × Int × (TList Str) × (TList Int) × Vh) (TList Str):=pf2
@[reducible] def zju:Fld (Str × Int × (TList Str) × (TList Int) × Vh) Vh:=pl4
@[reducible] def zmp:Fld (Int × Str × GMark × GCon × (TList GItem) × (TList GFld) × Int × Bool × Int) GMark:=pf2
@[reducible] def zdu:Fld (Int × Str × GMark × GCon × (TList GItem) × (TList GFld) × Int × Bool × Int) Int:=pf0
@[reducible] def zkh:Fld (Int × Str × GMark × GCon × (TList GItem) × (TList GFld) × Int × Bool × Int) GCon:=pf3
@[reducible] def zg0:Fld (Int × Str × GMark × GCon × (TList GItem) × (TList GFld) × Int × Bool × Int) (TList GItem):=pf4
@[reducible] def zgl:Fld (Int × Str × GMark × GCon × (TList GItem) × (TList GFld) × Int × Bool × Int) Bool:=pf7
@[reducible] def zkt:Fld (Int × Str × GMark × GCon × (TList GItem) × (TList GFld) × Int × Bool × Int) Int:=pf6
@[reducible] def zig:Fld (Int × Str × GMark × GCon × (TList GItem) × (TList GFld) × Int × Bool × Int) (TList GFld):=pf5
@[reducible] def zsy:Fld (Int × Str × GMark × GCon × (TList GItem) × (TList GFld) × Int × Bool × Int) Int:=pl8
@[reducible] def zsE:Fld (Int × Str × GMark × GCon × (TList GItem) × (TList GFld) × Int × Bool × Int) Str:=pf1
@[reducible] def zqr:Fld (Str × Int × (TList Str) × (TList Int) × Vh) (TList Int):=pf3
@[reducible] def zsH:Fld ((List GTok) × Int × (Str × Int × (TList Str) × (TList Int) × (List GNode)) × Int × Int) (Str × Int × (TList Str) × (TList Int) × (List GNode)):=pf2
theorem ze57:ZeroOk Tryz.prog 57 ((GMod.mk (Str.mk []) (0:Int) ([]:(List Str)) ([]:(List Int)) ([]:(List GNode))):GMod):=zb9 (cs:=[.string ⟨#[]⟩,.int .i64 0,.slice none 0 0,.slice none 0 0,.slice none 0 0]) rfl (by kernel_rfl) (zL zgb (zL zbj (zL zbB (zL zbB zbB))))
theorem st9:StrB Tryz.prog 9=true:=by kernel_rfl
theorem eq5:EqOk Tryz.prog 5 UInt8:=EqOk.u8
theorem zra:FldB Tryz.prog 80 2 2 1 false=true:=by kernel_rfl
theorem bu80:BuildB Tryz.prog 80=true:=by kernel_rfl
theorem ze80:ZeroOk Tryz.prog 80 ((GTok.mk (0:Int) (Str.mk []) (0:Int)):GTok):=zb9 (cs:=[.int .i64 0,.string ⟨#[]⟩,.int .i64 0]) rfl (by kernel_rfl) (zL zbj (zL zgb zbj))
theorem el69:elB Tryz.prog 69 3=true:=by kernel_rfl
theorem zrR:appB Tryz.prog 69 69 3=true:=by kernel_rfl
theorem ty80:TyB Tryz.prog 80 3 true=true:=by kernel_rfl
theorem moOrd:Tryz.prog.follows .mixedOrders=true:=by kernel_rfl
theorem zd0:FldB Tryz.prog 80 0 0 1 false=true:=by kernel_rfl
theorem ty3:TyB Tryz.prog 3 1 false=true:=by kernel_rfl
theorem zfB:FldB Tryz.prog 80 1 1 1 false=true:=by kernel_rfl
theorem ty9:TyB Tryz.prog 9 1 false=true:=by kernel_rfl
theorem el27:elB Tryz.prog 27 1=true:=by kernel_rfl
theorem sl27:SlB Tryz.prog 27 1 false=true:=by kernel_rfl
theorem eq9:EqOk Tryz.prog 9 Str:=EqOk.str
theorem bu57:BuildB Tryz.prog 57=true:=by kernel_rfl
theorem ty57:TyB Tryz.prog 57 5 true=true:=by kernel_rfl
theorem zmS:FldB Tryz.prog 105 0 0 1 false=true:=by kernel_rfl
theorem bu105:BuildB Tryz.prog 105=true:=by kernel_rfl
theorem zu0:ZeroOk Tryz.prog 105 ((([]:(List GTok)),(0:Int),((Str.mk []),(0:Int),(TList.mk none ([]:(List Str))),(TList.mk none ([]:(List Int))),(Vh.mk none 0)),(0:Int),(0:Int)):((List GTok) × Int × (Str × Int × (TList Str) × (TList Int) × Vh) × Int × Int)):=zb9 (cs:=[.slice none 0 0,.int .i64 0,.string ⟨#[]⟩,.int .i64 0,.slice none 0 0,.slice none 0 0,.slice none 0 0,.int .i64 0,.int .i64 0]) rfl (by kernel_rfl) (zL zbB (zL zbj (zL (zL zgb (zL zbj (zL zoC (zL zoC ztF)))) (zL zbj zbj))))
theorem ty69:TyB Tryz.prog 69 1 false=true:=by kernel_rfl
theorem zlJ:FldB Tryz.prog 105 1 1 1 false=true:=by kernel_rfl
theorem sl69:SlB Tryz.prog 69 3 true=true:=by kernel_rfl
theorem zdt:FldB Tryz.prog 105 3 7 1 false=true:=by kernel_rfl
theorem ty38:TyB Tryz.prog 38 1 false=true:=by kernel_rfl
theorem zr2:FldB Tryz.prog 105 4 8 1 false=true:=by kernel_rfl
theorem zem:FldB Tryz.prog 105 2 2 5 true=true:=by kernel_rfl
theorem ztN:FldB Tryz.prog 57 0 0 1 false=true:=by kernel_rfl
theorem zpp:FldB Tryz.prog 57 1 1 1 false=true:=by kernel_rfl
theorem zfY:FldB Tryz.prog 57 2 2 1 false=true:=by kernel_rfl
theorem ty27:TyB Tryz.prog 27 1 false=true:=by kernel_rfl
theorem ziK:FldB Tryz.prog 57 4 4 1 false=true:=by kernel_rfl
theorem ty55:TyB Tryz.prog 55 1 false=true:=by kernel_rfl
theorem sl55:SlB Tryz.prog 55 16 true=true:=by kernel_rfl
theorem bu174:BuildB Tryz.prog 174=true:=by kernel_rfl
theorem ze174:ZeroOk Tryz.prog 174 ((GNode.mk (0:Int) (Str.mk []) (GMark.mk false (0:Int) (0:Int)) (GCon.mk false false false false (0:Int) (0:Int)) ([]:(List GItem)) ([]:(List GFld)) (0:Int) false (0:Int)):GNode):=zb9 (cs:=[.int .i64 0,.string ⟨#[]⟩,.bool false,.int .i64 0,.int .i64 0,.bool false,.bool false,.bool false,.bool false,.int .i64 0,.int .i64 0,.slice none 0 0,.slice none 0 0,.int .i64 0,.bool false,.int .i64 0]) rfl (by kernel_rfl) (zL zbj (zL zgb (zL (zL zb6 (zL zbj zbj)) (zL (zL zb6 (zL zb6 (zL zb6 (zL zb6 (zL zbj zbj))))) (zL zbB (zL zbB (zL zbj (zL zb6 zbj))))))))
theorem el55:elB Tryz.prog 55 16=true:=by kernel_rfl
theorem zuP:appB Tryz.prog 55 55 16=true:=by kernel_rfl
theorem zrK:ZeroOk Tryz.prog 174 (((0:Int),(Str.mk []),(GMark.mk false (0:Int) (0:Int)),(GCon.mk false false false false (0:Int) (0:Int)),(TList.mk none ([]:(List GItem))),(TList.mk none ([]:(List GFld))),(0:Int),false,(0:Int)):(Int × Str × GMark × GCon × (TList GItem) × (TList GFld) × Int × Bool × Int)):=zb9 (cs:=[.int .i64 0,.string ⟨#[]⟩,.bool false,.int .i64 0,.int .i64 0,.bool false,.bool false,.bool false,.bool false,.int .i64 0,.int .i64 0,.slice none 0 0,.slice none 0 0,.int .i64 0,.bool false,.int .i64 0]) rfl (by kernel_rfl) (zL zbj (zL zgb (zL (zL zb6 (zL zbj zbj)) (zL (zL zb6 (zL zb6 (zL zb6 (zL zb6 (zL zbj zbj))))) (zL zoC (zL zoC (zL zbj (zL zb6 zbj))))))))
theorem ty174:TyB Tryz.prog 174 16 true=true:=by kernel_rfl
theorem zrF:FldB Tryz.prog 172 1 1 1 false=true:=by kernel_rfl
theorem zpc:FldB Tryz.prog 172 0 0 1 false=true:=by kernel_rfl
theorem bu172:BuildB Tryz.prog 172=true:=by kernel_rfl
theorem ze172:ZeroOk Tryz.prog 172 ((GMark.mk false (0:Int) (0:Int)):GMark):=zb9 (cs:=[.bool false,.int .i64 0,.int .i64 0]) rfl (by kernel_rfl) (zL zb6 (zL zbj zbj))
theorem zhC:FldB Tryz.prog 174 2 2 3 true=true:=by kernel_rfl
theorem ty172:TyB Tryz.prog 172 3 true=true:=by kernel_rfl
theorem zmJ:FldB Tryz.prog 172 2 2 1 false=true:=by kernel_rfl
theorem zcF:FldB Tryz.prog 174 0 0 1 false=true:=by kernel_rfl
theorem ze125:ZeroOk Tryz.prog 125 ((GCon.mk false false false false (0:Int) (0:Int)):GCon):=zb9 (cs:=[.bool false,.bool false,.bool false,.bool false,.int .i64 0,.int .i64 0]) rfl (by kernel_rfl) (zL zb6 (zL zb6 (zL zb6 (zL zb6 (zL zbj zbj)))))
theorem bu125:BuildB Tryz.prog 125=true:=by kernel_rfl
theorem ty125:TyB Tryz.prog 125 6 true=true:=by kernel_rfl
theorem zmK:FldB Tryz.prog 125 0 0 1 false=true:=by kernel_rfl
theorem zj7:FldB Tryz.prog 125 1 1 1 false=true:=by kernel_rfl
theorem ty4:TyB Tryz.prog 4 1 false=true:=by kernel_rfl
theorem ziI:FldB Tryz.prog 125 4 4 1 false=true:=by kernel_rfl
theorem ty2:TyB Tryz.prog 2 1 false=true:=by kernel_rfl
theorem zj9:FldB Tryz.prog 125 2 2 1 false=true:=by kernel_rfl
theorem zi5:FldB Tryz.prog 125 5 5 1 false=true:=by kernel_rfl
theorem zi3:FldB Tryz.prog 125 3 3 1 false=true:=by kernel_rfl
theorem zj2:FldB Tryz.prog 174 3 5 6 true=true:=by kernel_rfl
theorem zgs:FldB Tryz.prog 174 4 11 1 false=true:=by kernel_rfl
theorem ty126:TyB Tryz.prog 126 1 false=true:=by kernel_rfl
theorem sl126:SlB Tryz.prog 126 3 true=true:=by kernel_rfl
theorem zgO:FldB Tryz.prog 174 7 14 1 false=true:=by kernel_rfl
theorem zhJ:FldB Tryz.prog 174 6 13 1 false=true:=by kernel_rfl
theorem zkd:FldB Tryz.prog 132 0 0 1 false=true:=by kernel_rfl
theorem bu132:BuildB Tryz.prog 132=true:=by kernel_rfl
theorem ze132:ZeroOk Tryz.prog 132 ((GItem.mk (Str.mk []) (0:Int) false):GItem):=zb9 (cs:=[.string ⟨#[]⟩,.int .i64 0,.bool false]) rfl (by kernel_rfl) (zL zgb (zL zbj zb6))
theorem ty132:TyB Tryz.prog 132 3 true=true:=by kernel_rfl
theorem zks:FldB Tryz.prog 132 2 2 1 false=true:=by kernel_rfl
theorem zdL:FldB Tryz.prog 132 1 1 1 false=true:=by kernel_rfl
theorem el126:elB Tryz.prog 126 3=true:=by kernel_rfl
theorem zkv:appB Tryz.prog 126 126 3=true:=by kernel_rfl
theorem zeL:FldB Tryz.prog 174 5 12 1 false=true:=by kernel_rfl
theorem ty127:TyB Tryz.prog 127 1 false=true:=by kernel_rfl
theorem sl127:SlB Tryz.prog 127 11 true=true:=by kernel_rfl
theorem ziR:FldB Tryz.prog 137 5 10 1 false=true:=by kernel_rfl
theorem ziY:FldB Tryz.prog 137 0 0 1 false=true:=by kernel_rfl
theorem bu137:BuildB Tryz.prog 137=true:=by kernel_rfl
theorem ze137:ZeroOk Tryz.prog 137 ((GFld.mk (Str.mk []) (0:Int) false false (Val.mk (0:Int) (0:Int) ([]:(List UInt8)) ([]:(List Val)) (0:Int) ([]:(List Raw))) (0:Int)):GFld):=zb9 (cs:=[.string ⟨#[]⟩,.int .i64 0,.bool false,.bool false,.int .i64 0,.int .i64 0,.slice none 0 0,.slice none 0 0,.int .i64 0,.slice none 0 0,.int .i64 0]) rfl (by kernel_rfl) (zL zgb (zL zbj (zL zb6 (zL zb6 (zL ztq zbj)))))
theorem ty137:TyB Tryz.prog 137 11 true=true:=by kernel_rfl
theorem zcr:FldB Tryz.prog 137 1 1 1 false=true:=by kernel_rfl
theorem zj6:FldB Tryz.prog 137 2 2 1 false=true:=by kernel_rfl
theorem ze26:ZeroOk Tryz.prog 26 ((Val.mk (0:Int) (0:Int) ([]:(List UInt8)) ([]:(List Val)) (0:Int) ([]:(List Raw))):Val):=zb9 (cs:=[.int .i64 0,.int .i64 0,.slice none 0 0,.slice none 0 0,.int .i64 0,.slice none 0 0]) rfl (by kernel_rfl) ztq
theorem zbd:FldB Tryz.prog 26 1 1 1 false=true:=by kernel_rfl
theorem zcw:FldB Tryz.prog 26 0 0 1 false=true:=by kernel_rfl
theorem bu26:BuildB Tryz.prog 26=true:=by kernel_rfl
theorem ty26:TyB Tryz.prog 26 6 true=true:=by kernel_rfl
theorem zbN:FldB Tryz.prog 26 2 2 1 false=true:=by kernel_rfl
theorem el22:elB Tryz.prog 22 1=true:=by kernel_rfl
theorem zkq:appB Tryz.prog 22 22 1=true:=by kernel_rfl
theorem zgT:FldB Tryz.prog 137 3 3 1 false=true:=by kernel_rfl
theorem zly:FldB Tryz.prog 137 4 4 6 true=true:=by kernel_rfl
theorem el127:elB Tryz.prog 127 11=true:=by kernel_rfl
theorem zme:appB Tryz.prog 127 127 11=true:=by kernel_rfl
theorem zpe:FldB Tryz.prog 174 8 15 1 false=true:=by kernel_rfl
theorem zoX:FldB Tryz.prog 174 1 1 1 false=true:=by kernel_rfl
theorem zpg:appB Tryz.prog 27 27 1=true:=by kernel_rfl
theorem znN:FldB Tryz.prog 57 3 3 1 false=true:=by kernel_rfl
theorem ty28:TyB Tryz.prog 28 1 false=true:=by kernel_rfl
theorem el28:elB Tryz.prog 28 1=true:=by kernel_rfl
theorem zeY:appB Tryz.prog 28 28 1=true:=by kernel_rfl
abbrev GParOT:Type:=(List GTok) × Int × (Str × Int × (TList Str) × (TList Int) × Vh) × Int × Int
abbrev GParO (x:GPar) (t0:Tok) (t1:Tok) (t2:Vt):GParOT:=(x.l,x.at_,(x.m.name,x.m.tagging,⟨t0,x.m.names⟩,⟨t1,x.m.types⟩,⟨t2,x.m.nodes.length⟩),x.e,x.p)
abbrev GNodeOT:Type:=Int × Str × GMark × GCon × (TList GItem) × (TList GFld) × Int × Bool × Int
abbrev GNodeO (x:GNode) (t0:Tok) (t1:Tok):GNodeOT:=(x.kind,x.name,x.mark,x.con,⟨t0,x.items⟩,⟨t1,x.fields⟩,x.root,x.more,x.of)
end Go.Proofs.Q


namespace Go.Proofs.Q
open Go.Sy
set_option maxRecDepth 4000
theorem sl28:SlB Tryz.prog 28 1 false=true:=by kernel_rfl
theorem el178:elB Tryz.prog 178 1=true:=by kernel_rfl
theorem zmc:appB Tryz.prog 178 178 1=true:=by kernel_rfl
theorem sl178:SlB Tryz.prog 178 1 false=true:=by kernel_rfl
end Go.Proofs.Q


namespace Go.Proofs.Q
open Go.Sy
set_option maxRecDepth 4000
@[reducible] def zge:Fld (GMod × Vh × Int) GMod:=pf0
@[reducible] def zqv:Fld (Str × (List Str) × (TList Int) × (List GTyp)) Str:=pf0
@[reducible] def zp2:Fld (Str × (List Str) × (TList Int) × (List GTyp)) (List Str):=pf1
@[reducible] def zll:Fld (Str × (List Str) × (TList Int) × (List GTyp)) (TList Int):=pf2
@[reducible] def zdx:Fld (GMod × Vh × Int) Int:=pl2
@[reducible] def zcz:Fld (GMod × Vh × Int) Vh:=pf1
@[reducible] def zug:Fld (Str × (List Str) × (TList Int) × (List GTyp)) (List GTyp):=pl3
theorem ze31:ZeroOk Tryz.prog 31 ((GTab.mk (Str.mk []) ([]:(List Str)) ([]:(List Int)) ([]:(List GTyp))):GTab):=zb9 (cs:=[.string ⟨#[]⟩,.slice none 0 0,.slice none 0 0,.slice none 0 0]) rfl (by kernel_rfl) (zL zgb (zL zbB (zL zbB zbB)))
theorem bu31:BuildB Tryz.prog 31=true:=by kernel_rfl
theorem ty31:TyB Tryz.prog 31 4 true=true:=by kernel_rfl
theorem zjb:FldB Tryz.prog 114 0 0 5 true=true:=by kernel_rfl
theorem bu114:BuildB Tryz.prog 114=true:=by kernel_rfl
theorem zuO:ZeroOk Tryz.prog 114 (((GMod.mk (Str.mk []) (0:Int) ([]:(List Str)) ([]:(List Int)) ([]:(List GNode))),(Vh.mk none 0),(0:Int)):(GMod × Vh × Int)):=zb9 (cs:=[.string ⟨#[]⟩,.int .i64 0,.slice none 0 0,.slice none 0 0,.slice none 0 0,.slice none 0 0,.int .i64 0]) rfl (by kernel_rfl) (zL (zL zgb (zL zbj (zL zbB (zL zbB zbB)))) (zL ztF zbj))
theorem zt2:FldB Tryz.prog 31 0 0 1 false=true:=by kernel_rfl
theorem zue:FldB Tryz.prog 31 1 1 1 false=true:=by kernel_rfl
theorem zpj:ZeroOk Tryz.prog 31 (((Str.mk []),([]:(List Str)),(TList.mk none ([]:(List Int))),([]:(List GTyp))):(Str × (List Str) × (TList Int) × (List GTyp))):=zb9 (cs:=[.string ⟨#[]⟩,.slice none 0 0,.slice none 0 0,.slice none 0 0]) rfl (by kernel_rfl) (zL zgb (zL zbB (zL zoC zbB)))
theorem zk3:FldB Tryz.prog 31 2 2 1 false=true:=by kernel_rfl
theorem ze5:FldB Tryz.prog 114 2 6 1 false=true:=by kernel_rfl
theorem zdM:FldB Tryz.prog 114 1 5 1 false=true:=by kernel_rfl
theorem ty29:TyB Tryz.prog 29 1 false=true:=by kernel_rfl
theorem sl29:SlB Tryz.prog 29 13 true=true:=by kernel_rfl
theorem zhF:FldB Tryz.prog 129 6 11 1 false=true:=by kernel_rfl
theorem ze4:FldB Tryz.prog 129 5 10 1 false=true:=by kernel_rfl
theorem zd1:FldB Tryz.prog 129 2 2 6 true=true:=by kernel_rfl
theorem zbh:FldB Tryz.prog 129 0 0 1 false=true:=by kernel_rfl
theorem bu129:BuildB Tryz.prog 129=true:=by kernel_rfl
theorem ze129:ZeroOk Tryz.prog 129 ((GTyp.mk (0:Int) ([]:(List Tag)) (GCon.mk false false false false (0:Int) (0:Int)) ([]:(List GItem)) ([]:(List GFld)) (0:Int) false (0:Int)):GTyp):=zb9 (cs:=[.int .i64 0,.slice none 0 0,.bool false,.bool false,.bool false,.bool false,.int .i64 0,.int .i64 0,.slice none 0 0,.slice none 0 0,.int .i64 0,.bool false,.int .i64 0]) rfl (by kernel_rfl) (zL zbj (zL zbB (zL (zL zb6 (zL zb6 (zL zb6 (zL zb6 (zL zbj zbj))))) (zL zbB (zL zbB (zL zbj (zL zb6 zbj)))))))
theorem ty129:TyB Tryz.prog 129 13 true=true:=by kernel_rfl
theorem ze206:ZeroOk Tryz.prog 206 (Tag.zero:Tag):=zb9 (cs:=[.int .i64 0,.int .i64 0]) rfl (by kernel_rfl) (zL zbj zbj)
theorem zdz:FldB Tryz.prog 206 1 1 1 false=true:=by kernel_rfl
theorem bu206:BuildB Tryz.prog 206=true:=by kernel_rfl
theorem ty206:TyB Tryz.prog 206 2 true=true:=by kernel_rfl
theorem el123:elB Tryz.prog 123 2=true:=by kernel_rfl
theorem zeZ:FldB Tryz.prog 129 1 1 1 false=true:=by kernel_rfl
theorem ty123:TyB Tryz.prog 123 1 false=true:=by kernel_rfl
theorem el29:elB Tryz.prog 29 13=true:=by kernel_rfl
theorem zrX:appB Tryz.prog 29 29 13=true:=by kernel_rfl
theorem zlW:FldB Tryz.prog 129 7 12 1 false=true:=by kernel_rfl
theorem zfy:FldB Tryz.prog 129 3 8 1 false=true:=by kernel_rfl
theorem ty22:TyB Tryz.prog 22 1 false=true:=by kernel_rfl
theorem sl22:SlB Tryz.prog 22 1 false=true:=by kernel_rfl
theorem ty5:TyB Tryz.prog 5 1 false=true:=by kernel_rfl
theorem zqh : Tryz.prog.globals.findIdx? (·.name == "unicode/utf8.first") = some 0 := by kernel_rfl
theorem ar97:ArrB Tryz.prog 97 256 1 false=true:=by kernel_rfl
theorem zje : Tryz.prog.globals.findIdx? (·.name == "unicode/utf8.acceptRanges") = some 1 := by kernel_rfl
theorem ar100:ArrB Tryz.prog 100 16 2 true=true:=by kernel_rfl
theorem ty99:TyB Tryz.prog 99 2 true=true:=by kernel_rfl
theorem ze99:ZeroOk Tryz.prog 99 (GAcc.zero:GAcc):=zb9 (cs:=[.int .u8 0,.int .u8 0]) rfl (by kernel_rfl) (zL zvy zvy)
theorem zrb:FldB Tryz.prog 99 0 0 1 false=true:=by kernel_rfl
theorem zrf:FldB Tryz.prog 99 1 1 1 false=true:=by kernel_rfl
theorem sl123:SlB Tryz.prog 123 2 true=true:=by kernel_rfl
theorem zfE:FldB Tryz.prog 206 0 0 1 false=true:=by kernel_rfl
theorem zfh:appB Tryz.prog 123 123 2=true:=by kernel_rfl
theorem zaB:FldB Tryz.prog 129 4 9 1 false=true:=by kernel_rfl
theorem el291:elB Tryz.prog 291 1=true:=by kernel_rfl
theorem zr9:appB Tryz.prog 291 291 1=true:=by kernel_rfl
theorem sl291:SlB Tryz.prog 291 1 false=true:=by kernel_rfl
theorem eq206:EqOk Tryz.prog 206 Tag:=Tag.eqOk Tryz.underlying206 (by kernel_rfl) (by kernel_rfl) Tryz.underlying3
theorem el263:elB Tryz.prog 263 1=true:=by kernel_rfl
theorem zs5:appB Tryz.prog 263 263 1=true:=by kernel_rfl
theorem sl263:SlB Tryz.prog 263 1 false=true:=by kernel_rfl
theorem zcE:FldB Tryz.prog 31 3 3 1 false=true:=by kernel_rfl
abbrev GMkOT:Type:=GMod × Vh × Int
abbrev GMkO (x:GMk) (t0:Vt):GMkOT:=(x.m,⟨t0,x.l.length⟩,x.e)
end Go.Proofs.Q


namespace Go.Proofs.Q
open Go.Sy
set_option maxRecDepth 4000
theorem ze3:ZeroOk Tryz.prog 3 ((0:Int):Int):=zpI (v:=.int .i64 0) rfl (by kernel_rfl) zbj
theorem zd4:FldB Tryz.prog 26 5 5 1 false=true:=by kernel_rfl
theorem ty24:TyB Tryz.prog 24 1 false=true:=by kernel_rfl
theorem sl24:SlB Tryz.prog 24 2 true=true:=by kernel_rfl
theorem ziV:FldB Tryz.prog 92 1 1 1 false=true:=by kernel_rfl
theorem zaY:FldB Tryz.prog 26 3 3 1 false=true:=by kernel_rfl
theorem ty23:TyB Tryz.prog 23 1 false=true:=by kernel_rfl
theorem sl23:SlB Tryz.prog 23 6 true=true:=by kernel_rfl
theorem zdF:FldB Tryz.prog 26 4 4 1 false=true:=by kernel_rfl
theorem ty92:TyB Tryz.prog 92 2 true=true:=by kernel_rfl
theorem zgJ:FldB Tryz.prog 92 0 0 1 false=true:=by kernel_rfl
theorem ze92:ZeroOk Tryz.prog 92 (Raw.zero:Raw):=zb9 (cs:=[.int .i64 0,.slice none 0 0]) rfl (by kernel_rfl) (zL zbj zbB)
theorem zfw:FldB Tryz.prog 118 0 0 4 true=true:=by kernel_rfl
theorem bu118:BuildB Tryz.prog 118=true:=by kernel_rfl
theorem ze118:ZeroOk Tryz.prog 118 ((GTbd.mk (GTab.mk (Str.mk []) ([]:(List Str)) ([]:(List Int)) ([]:(List GTyp)))):GTbd):=zb9 (cs:=[.string ⟨#[]⟩,.slice none 0 0,.slice none 0 0,.slice none 0 0]) rfl (by kernel_rfl) (zL zgb (zL zbB (zL zbB zbB)))
theorem zfx:FldB Tryz.prog 120 0 0 4 true=true:=by kernel_rfl
theorem bu120:BuildB Tryz.prog 120=true:=by kernel_rfl
theorem ze120:ZeroOk Tryz.prog 120 ((GChk.mk (GTbd.mk (GTab.mk (Str.mk []) ([]:(List Str)) ([]:(List Int)) ([]:(List GTyp)))) false):GChk):=zb9 (cs:=[.string ⟨#[]⟩,.slice none 0 0,.slice none 0 0,.slice none 0 0,.bool false]) rfl (by kernel_rfl) (zL (zL zgb (zL zbB (zL zbB zbB))) zb6)
theorem zva:FldB Tryz.prog 120 1 4 1 false=true:=by kernel_rfl
theorem eq102:EqOk Tryz.prog 102 UInt64:=EqOk.u64
theorem ty116:TyB Tryz.prog 116 1 false=true:=by kernel_rfl
theorem zpf:FldB Tryz.prog 272 0 0 1 false=true:=by kernel_rfl
theorem bu272:BuildB Tryz.prog 272=true:=by kernel_rfl
theorem ze272:ZeroOk Tryz.prog 272 ((GTys.mk ([]:(List GTyp))):GTys):=zb9 (cs:=[.slice none 0 0]) rfl (by kernel_rfl) zbB
theorem zuN:ZeroOk Tryz.prog 123 ((TList.mk none ([]:(List Tag))):(TList Tag)):=zpI (v:=.slice none 0 0) rfl (by kernel_rfl) zoC
end Go.Proofs.Q


namespace Go.Proofs.Q
open Go.Sy
set_option maxRecDepth 4000
end Go.Proofs.Q


namespace Go.Proofs.Q
open Go.Sy
set_option maxRecDepth 4000
@[reducible] def zpv:Fld (GTab × Vh) GTab:=pf0
@[reducible] def zeU:Fld (GTab × Vh) Vh:=pl1
theorem zuq:FldB Tryz.prog 66 0 0 4 true=true:=by kernel_rfl
theorem bu66:BuildB Tryz.prog 66=true:=by kernel_rfl
theorem zvR:ZeroOk Tryz.prog 66 (((GTab.mk (Str.mk []) ([]:(List Str)) ([]:(List Int)) ([]:(List GTyp))),(Vh.mk none 0)):(GTab × Vh)):=zb9 (cs:=[.string ⟨#[]⟩,.slice none 0 0,.slice none 0 0,.slice none 0 0,.slice none 0 0]) rfl (by kernel_rfl) (zL (zL zgb (zL zbB (zL zbB zbB))) ztF)
theorem ty64:TyB Tryz.prog 64 1 false=true:=by kernel_rfl
theorem zhP:FldB Tryz.prog 66 1 4 1 false=true:=by kernel_rfl
theorem zv2:appSB Tryz.prog 22 9=true:=by kernel_rfl
abbrev GNprOT:Type:=GTab × Vh
abbrev GNprO (x:GNpr) (t0:Vt):GNprOT:=(x.t,⟨t0,x.b.length⟩)
end Go.Proofs.Q


namespace Go.Proofs.Q
open Go.Sy
set_option maxRecDepth 4000
theorem el23:elB Tryz.prog 23 6=true:=by kernel_rfl
end Go.Proofs.Q


namespace Go.Proofs.Q
open Go.Sy
set_option maxRecDepth 4000
end Go.Proofs.Q


namespace Go.Proofs.Q
open Go.Sy
set_option maxRecDepth 4000
theorem zgy {a_s a_i r} (h:zfV a_s a_i=some r):Ctr Tryz.prog 131 [isv a_s,isv a_i] [] (Pt [isv r] []):=by
 unfold zfV at h
 refine zh Tryz.func131 e λw0 S0 hT=>ws (an e (ss (om e (oV (zac e e) (om e (jO 5 12 h (λq1 h=>?_) λJ2 h hJ2=>oI h (λg3 h=>?_) λg3 h=>oG g3 (zm e) (oG g3 (zm e) (oG g3 (zeO st9 e) (oG g3 (zcY e e) (oV (zf e g3 e) (hJ2 h 5)))))))))))
 ·refine rn (zd h e (λ_ h=>?_) (λ_ h=>wk (ws (om e (om e (zb h λy4 hy4 h=>oV (zcR y4 st9 e e hy4) (ar e (ze (r1 e) k0 (iS h ▸ ⟨e,e⟩)))))))))
  exact ws (ar e (zx (ze (r1 e) k0 (iS h ▸ ⟨e,e⟩))))
 exact oN g3 (oN g3 (oN g3 (oN g3 (oV (zg e g3 e) (hJ2 h 5)))))


theorem zqA {a_s a_i r} (h:zgc a_s a_i=some r):Ctr Tryz.prog 77 [isv a_s,isv a_i] [] (Pt [isv r] []):=by
 unfold zgc at h
 refine zh Tryz.func77 e λw0 S0 hT=>ws (an e (zE (zo (lO 1 h e λL2 q1 Q99 h hL2 eL2 rL2=>ss (om e (om e (oV (zeO st9 e) (oV (zac e e) (rn (zd h e (λ_ h=>?_) (λ_ h=>xn (eL2 _ _ (zs (zp (ws (om e (ar e (ze (r1 e) k0 (iS h ▸ ⟨e,e⟩)))))))))))))))))))
 refine wk (zo (zo (ws (om e (om e (zb h λy51 hy51 h=>oV (zcR y51 st9 e e hy51) (oV (zcL eq5 e e) (om e (jO 5 20 h (λq52 h=>?_) λJ53 h hJ53=>oI h (λg54 h=>?_) λg54 h=>oG g54 (zm e) (oG g54 (zm e) (zb h λy55 hy55 h=>oG g54 (zcR y55 st9 e e hy55) (oG g54 (zcL eq5 e e) (oV (zf e g54 e) (hJ53 h 5))))))))))))))
 ·refine om e (jO 5 26 h (λq56 h=>?_) λJ57 h hJ57=>oI h (λg58 h=>?_) λg58 h=>oG g58 (zm e) (oG g58 (zm e) (zb h λy59 hy59 h=>oG g58 (zcR y59 st9 e e hy59) (oG g58 (zcL eq5 e e) (oV (zf e g58 e) (hJ57 h 5))))))
  ·refine om e (jO 5 32 h (λq60 h=>?_) λJ61 h hJ61=>oI h (λg62 h=>?_) λg62 h=>oG g62 (zm e) (oG g62 (zm e) (zb h λy63 hy63 h=>oG g62 (zcR y63 st9 e e hy63) (oG g62 (zcL eq5 e e) (oV (zf e g62 e) (hJ61 h 5))))))
   ·refine an e (zd h e (λ_ h=>?_) (λ_ h=>ws (om e (om e (zb h λy65 hy65 h=>oV (zcR y65 st9 e e hy65) (oV (zcL eq5 e e) (om e (jO 6 46 h (λq66 h=>?_) λJ67 h hJ67=>oI h (λg68 h=>?_) λg68 h=>oN g68 (oN g68 (oN g68 (oN g68 (oN g68 (oV (zf e g68 e) (hJ67 h 6))))))))))))))
    ·exact zi (om e (zt h λq64 h=>oV (zX e e q64) (oa e (rb (zw (hL2 h 19))))))
    ·refine an e (zd h e (λ_ h=>?_) (λ_ h=>ws (om e (ar e (zbP (zbP (rL2 _ (bn (ze (r1 e) k0 (iS h ▸ ⟨e,e⟩))))))))))
     refine ws (om e (zt h λq71 h=>oV (zX e e q71) (an e (zo (lO 1 h e λL73 q72 Q98 h hL73 eL73 rL73=>ss (om e (om e (oV (zeO st9 e) (oV (zac e e) (om e (jO 5 58 h (λq86 h=>?_) λJ87 h hJ87=>oI h (λg88 h=>?_) λg88 h=>oN g88 (oN g88 (oN g88 (oN g88 (oV (zf e g88 e) (hJ87 h 5))))))))))))))))
     ·refine rn (zd h e (λ_ h=>?_) (λ_ h=>xn (eL73 _ _ (zs (zw (zw (hL2 h 33)))))))
      refine wk (zo (ss (om e (om e (zb h λy90 hy90 h=>oV (zcR y90 st9 e e hy90) (oV (zcL eq5 e e) (om e (jO 6 69 h (λq91 h=>?_) λJ92 h hJ92=>oI h (λg93 h=>?_) λg93 h=>oN g93 (oN g93 (oN g93 (oN g93 (oN g93 (oV (zf e g93 e) (hJ92 h 6))))))))))))))
      ·refine rn (zd h e (λ_ h=>?_) (λ_ h=>wk (zi (om e (zt h λq97 h=>oV (zX e e q97) (oa e (rb (hL73 h 16))))))))
       exact ws (om e (zt h λq96 h=>oV (zX e e q96) (an e (xn (zjH e (eL73 _ _ (zs (zw (zw (hL2 h 42))))))))))
      exact oG g93 (zm e) (oG g93 (zm e) (zt h λq94 h=>oG g93 (zX e e q94) (zb h λy95 hy95 h=>oH g93 (tC (zgy hy95) hT (s2 e e) k0 (oG g93 (zcL eq5 e e) (oV (zg e g93 e) (hJ92 h 6)))))))
     exact oG g88 (zm e) (oG g88 (zm e) (zb h λy89 hy89 h=>oG g88 (zcR y89 st9 e e hy89) (oG g88 (zkJ eq5 e e) (oV (zg e g88 e) (hJ87 h 5)))))
    exact oG g68 (zm e) (oG g68 (zm e) (zt h λq69 h=>oG g68 (zX e e q69) (zb h λy70 hy70 h=>oH g68 (tC (zgy hy70) hT (s2 e e) k0 (oG g68 (zcL eq5 e e) (oV (zg e g68 e) (hJ67 h 6)))))))
   exact oN g62 (oN g62 (oN g62 (oN g62 (oV (zg e g62 e) (hJ61 h 5)))))
  exact oN g58 (oN g58 (oN g58 (oN g58 (oV (zg e g58 e) (hJ57 h 5)))))
 exact oN g54 (oN g54 (oN g54 (oN g54 (oV (zg e g54 e) (hJ53 h 5)))))


theorem zi7 {a_c r} (h:zfg a_c=some r):Ctr Tryz.prog 132 [isv a_c] [] (Pt [isv r] []):=by
 unfold zfg at h
 refine zh Tryz.func132 e λw0 S0 hT=>ws (an e (ws (om e (oV (znF e e) (om e (jO 3 8 h (λq1 h=>?_) λJ2 h hJ2=>oI h (λg3 h=>?_) λg3 h=>oN g3 (oN g3 (oV (zf e g3 e) (hJ2 h 3)))))))))
 ·refine om e (jO 7 16 h (λq4 h=>?_) λJ5 h hJ5=>oI h (λg6 h=>?_) λg6 h=>oG g6 (zm e) (oG g6 (znF e e) (oG g6 (zm e) (jO 3 15 h (λq7 h=>?_) λJ8 h hJ8=>oI h (λg9 h=>?_) λg9 h=>oN g9 (oN g9 (oG g6 (zf e g9 e) (hJ8 h 3)))))))
  ·exact ar e (ze (r1 e) k0 (iS h ▸ ⟨e,e⟩))
  ·exact oN g6 (oN g6 (oN g6 (oU (oU (oN g6 (oV (zg e g6 e) (hJ5 h 7)))))))
  ·exact oV (zf e g6 e) (hJ5 h 5)
  exact oG g9 (zm e) (oG g9 (zm8 e e) (oG g6 (zg e g9 e) (hJ8 h 3)))
 exact oG g3 (zm e) (oG g3 (zm8 e e) (oV (zg e g3 e) (hJ2 h 3)))


theorem zgA {a_c r} (h:zeE a_c=some r):Ctr Tryz.prog 135 [isv a_c] [] (Pt [isv r] []):=by
 unfold zeE at h
 refine zh Tryz.func135 e λw0 S0 hT=>ws (an e (ws (om e (oV (znF e e) (om e (jO 3 8 h (λq1 h=>?_) λJ2 h hJ2=>oI h (λg3 h=>?_) λg3 h=>oN g3 (oN g3 (oV (zf e g3 e) (hJ2 h 3)))))))))
 ·exact ar e (ze (r1 e) k0 (iS h ▸ ⟨e,e⟩))
 exact oG g3 (zm e) (oG g3 (zm8 e e) (oV (zg e g3 e) (hJ2 h 3)))


theorem zq5 {a_s a_i r} (h:zhr a_s a_i=some r):Ctr Tryz.prog 133 [isv a_s,isv a_i] [] (Pt [isv r] []):=by
 unfold zhr at h
 refine zh Tryz.func133 e λw0 S0 hT=>ws (an e (ws (om e (an e (zE (zo (lO 1 h e λL2 q1 Q55 h hL2 eL2 rL2=>ss (om e (om e (oV (zeO st9 e) (oV (zac e e) (om e (jO 24 35 h (λq29 h=>?_) λJ30 h hJ30=>oI h (λg31 h=>?_) λg31 h=>oN g31 (oN g31 (oN g31 (oN g31 (oN g31 (oU (oU (oU (oU (oN g31 (oN g31 (oU (oU ?_)))))))))))))))))))))))))
 ·refine rn (zd h e (λ_ h=>?_) (λ_ h=>xn (eL2 _ _ (zs (zp (ss (om e (om e (zt h λq49 h=>oV (zdR e e q49) (zb h λy50 hy50 h=>oV (zcR y50 st9 e e hy50) (oV (zcL eq5 e e) (om e (jO 5 48 h (λq51 h=>?_) λJ52 h hJ52=>oI h (λg53 h=>?_) λg53 h=>oG g53 (zm e) (oG g53 (zm e) (zt h λq54 h=>oG g53 (zdR e e q54) (oG g53 (zbw e e) (oV (zf e g53 e) (hJ52 h 5))))))))))))))))))
  ·exact wk (zo (zi (om e (zt h λq48 h=>oV (zX e e q48) (oa e (rb (hL2 h 10)))))))
  ·refine rn (zd h e (λ_ h=>?_) (λ_ h=>wk (ws (om e (ar e (ze (r1 e) k0 (iS h ▸ ⟨e,e⟩)))))))
   exact ws (ar e (zx (ze (r1 e) k0 (iS h ▸ ⟨e,e⟩))))
  exact oN g53 (oN g53 (oN g53 (oN g53 (oV (zg e g53 e) (hJ52 h 5)))))
 ·refine oG g31 (zm e) (oG g31 (zm e) (zb h λy32 hy32 h=>oG g31 (zcR y32 st9 e e hy32) (zb h λy33 hy33 h=>oH g31 (tC (zi7 hy33) hT (s1 e) k0 (oG g31 (zm e) (jO 5 21 h (λq34 h=>?_) λJ35 h hJ35=>oI h (λg36 h=>?_) λg36 h=>oG g36 (zm e) (oG g36 (zm e) (zb h λy37 hy37 h=>oG g36 (zcR y37 st9 e e hy37) (zb h λy38 hy38 h=>oH g36 (tC (zgA hy38) hT (s1 e) k0 (oG g31 (zf e g36 e) (hJ35 h 5))))))))))))
  ·refine oG g31 (zm e) (jO 12 34 h (λq39 h=>?_) λJ40 h hJ40=>oI h (λg41 h=>?_) λg41 h=>oG g41 (zm e) (oG g41 (zm e) (zb h λy42 hy42 h=>oG g41 (zcR y42 st9 e e hy42) (oG g41 (zcL eq5 e e) (oG g41 (zm e) (jO 6 33 h (λq43 h=>?_) λJ44 h hJ44=>oI h (λg45 h=>?_) λg45 h=>oN g45 (oN g45 (oN g45 (oN g45 (oN g45 (oG g41 (zf e g45 e) (hJ44 h 6))))))))))))
   ·exact oV (zg e g31 e) (hJ30 h 9)
   ·exact oN g41 (oN g41 (oN g41 (oN g41 (oN g41 (oU (oU (oU (oU (oU (oN g41 (oG g31 (zg e g41 e) (hJ40 h 12))))))))))))
   ·exact oG g31 (zf e g41 e) (hJ40 h 7)
   exact oG g45 (zm e) (oG g45 (zm e) (zt h λq46 h=>oG g45 (zX e e q46) (zb h λy47 hy47 h=>oH g45 (tC (zgy hy47) hT (s2 e e) k0 (oG g45 (zkJ eq5 e e) (oG g41 (zg e g45 e) (hJ44 h 6)))))))
  exact oN g36 (oN g36 (oN g36 (oN g36 (oG g31 (zg e g36 e) (hJ35 h 5)))))
 exact oU (oU (oU (oU (oU (oU (oU (oU (oU (oN g31 (oV (zf e g31 e) (hJ30 h 24)))))))))))


theorem zqj:∀  {r:(List Str)},zh3 =some r->Ctr Tryz.prog 174 [] [] (λR H=>R=oneOf [isv (r)]/\H=[]):=by
 intro  r h
 unfold zh3 at h
 exact zh Tryz.func174 e λw0 S0 hT=>ws (an e (ws (oT (zB (l:=([(Str.mk [68,69,70,73,78,73,84,73,79,78,83]),(Str.mk [69,88,80,76,73,67,73,84]),(Str.mk [73,77,80,76,73,67,73,84]),(Str.mk [65,85,84,79,77,65,84,73,67]),(Str.mk [84,65,71,83]),(Str.mk [66,69,71,73,78]),(Str.mk [69,78,68]),(Str.mk [66,79,79,76,69,65,78]),(Str.mk [73,78,84,69,71,69,82]),(Str.mk [69,78,85,77,69,82,65,84,69,68]),(Str.mk [78,85,76,76]),(Str.mk [79,67,84,69,84]),(Str.mk [83,84,82,73,78,71]),(Str.mk [85,84,70,56,83,116,114,105,110,103]),(Str.mk [83,69,81,85,69,78,67,69]),(Str.mk [83,69,84]),(Str.mk [67,72,79,73,67,69]),(Str.mk [79,70]),(Str.mk [79,80,84,73,79,78,65,76]),(Str.mk [68,69,70,65,85,76,84]),(Str.mk [83,73,90,69]),(Str.mk [77,73,78]),(Str.mk [77,65,88]),(Str.mk [84,82,85,69]),(Str.mk [70,65,76,83,69])]:(List Str))) el27 (.cons e hI (.cons e hI (.cons e hI (.cons e hI (.cons e hI (.cons e hI (.cons e hI (.cons e hI (.cons e hI (.cons e hI (.cons e hI (.cons e hI (.cons e hI (.cons e hI (.cons e hI (.cons e hI (.cons e hI (.cons e hI (.cons e hI (.cons e hI (.cons e hI (.cons e hI (.cons e hI (.cons e hI (.cons e hI .nil))))))))))))))))))))))))) e e (ar e (ze (.as e zz .nil) k0 (iS h ▸ ⟨e,e⟩)))))))


theorem zkI {a_l a_x r} (h:zfs a_l a_x=some r):Ctr Tryz.prog 96 [isv a_l,isv a_x] [] (Pt [isv r] []):=by
 unfold zfs at h
 refine zh Tryz.func96 e λw0 S0 hT=>ws (an e (ss (an e (zo (lO 5 h e λL2 q1 Q7 h hL2 eL2 rL2=>ss (om e (om e (oV (vN e sl27) (oV (zac e e) (rn (zd h e (λ_ h=>?_) (λ_ h=>xn (eL2 _ _ (zs (zp (ws (ar e (ze (r1 e) k0 (iS h ▸ ⟨e,e⟩)))))))))))))))))))
 refine wk (zE (zo (ws (om e (om e (zb h λy5 hy5 h=>oV (vX e e sl27 hy5) (oV (za ty9 e) (om e (oV (zcL eq9 e e) (rn (zd h e (λ_ h=>?_) (λ_ h=>zJ (zw (zp (zi (om e (zt h λq6 h=>oV (zX e e q6) (oa e (zF (hL2 h 14))))))))))))))))))))
 exact ws (ar e (bn (rL2 _ (bn (ze (r1 e) k0 (iS h ▸ ⟨e,e⟩))))))


theorem zrq {a_s r} (h:zho a_s=some r):Ctr Tryz.prog 134 [isv a_s] [] (Pt [isv r] []):=by
 unfold zho at h
 exact zh Tryz.func134 e λw0 S0 hT=>ws (an e (ws (zb h λy1 hy1 h=>oT (tC (zqj hy1) hT .nil k0 (om e (zb h λy2 hy2 h=>oT (tC (zkI hy2) hT (s2 e e) k0 (ar e (ze (r1 e) k0 (iS h ▸ ⟨e,e⟩))))))))))


theorem zoH {a_s a_i r} (h:zfe a_s a_i=some r):Ctr Tryz.prog 136 [isv a_s,isv a_i] [] (Pt [isv r] []):=by
 unfold zfe at h
 refine zh Tryz.func136 e λw0 S0 hT=>ws (an e (ws (om e (om e (zb h λy1 hy1 h=>oV (zcR y1 st9 e e hy1) (oV (zcL eq5 e e) (an e (ss (om e (rn (jW 1 h (λq2 h=>?_) λJ3 h hJ3=>zd h e (λ_ h=>?_) (λ_ h=>zJ (hJ3 h 0)))))))))))))
 ·refine ws (om e (an e (ws (an e (zE (zo (lP h Unit () (λq5 g5=>[(1,isv q5.1),(7,isv q5.2)]) (λq5 g5=>[]) (zu (j:=1) e hI (zu (j:=7) e hI zal)) k0 λL6 q5 g5 Q91 h hL6 eL6 rL6=>ss (om e (om e (oV (zeO st9 e) (oV (zac e e) (om e (jO 5 26 h (λq49 h=>?_) λJ50 h hJ50=>oI h (λg51 h=>?_) λg51 h=>oN g51 (oN g51 (oN g51 (oN g51 (oV (zf e g51 e) (hJ50 h 5))))))))))))))))))
  ·refine rn (zd h e (λ_ h=>?_) (λ_ h=>xn (eL6 _ _ (zs (zp (ws (om e (om e (zt h λq59 h=>oV (zdR e e q59) (an e (ss (om e (oV (zac e e) (om e (jO 3 49 h (λq60 h=>?_) λJ61 h hJ61=>oI h (λg62 h=>?_) λg62 h=>oG g62 (zm e) (oG g62 (zbw e e) (oV (zf e g62 e) (hJ61 h 3))))))))))))))))))
   ·refine wk (zo (ss (om e (om e (zt h λq54 h=>oV (zdR e e q54) (oV (zac e e) (rn (jW 7 h (λq55 h=>?_) λJ56 h hJ56=>zd h e (λ_ h=>?_) (λ_ h=>zJ (hJ56 h 0))))))))))
    ·exact zi (om e (zt h λq58 h=>oV (zX e e q58) (oa e (rb (hL6 h () 16)))))
    exact zi (om e (oV (zrC e e) (om e (om e (zb h λy57 hy57 h=>oV (zcR y57 st9 e e hy57) (oV (zo5 e e) (oV (zel Tryz.underlying5 Tryz.underlying102 e) (oV (zlg e e) (oa e (zF (hJ56 h 9)))))))))))
   ·refine om e (jO 9 59 h (λq63 h=>?_) λJ64 h hJ64=>oI h (λg65 h=>?_) λg65 h=>oG g65 (zm e) (oG g65 (zbw e e) (oG g65 (zm e) (jO 5 58 h (λq66 h=>?_) λJ67 h hJ67=>oI h (λg68 h=>?_) λg68 h=>oN g68 (oN g68 (oN g68 (oN g68 (oG g65 (zf e g68 e) (hJ67 h 5)))))))))
    ·refine om e (jO 8 68 h (λq70 h=>?_) λJ71 h hJ71=>oI h (λg72 h=>?_) λg72 h=>oG g72 (zm e) (oG g72 (zm e) (jO 5 67 h (λq73 h=>?_) λJ74 h hJ74=>oI h (λg75 h=>?_) λg75 h=>oN g75 (oN g75 (oN g75 (oN g75 (oG g72 (zf e g75 e) (hJ74 h 5))))))))
     ·refine om e (jO 5 74 h (λq77 h=>?_) λJ78 h hJ78=>oI h (λg79 h=>?_) λg79 h=>oG g79 (zm e) (oG g79 (zm e) (zb h λy80 hy80 h=>oH g79 (tC (zgy hy80) hT (s2 e e) k0 (zb h λy81 hy81 h=>oH g79 (tC (zi7 hy81) hT (s1 e) k0 (oV (zf e g79 e) (hJ78 h 5))))))))
      ·refine om e (jO 3 78 h (λq82 h=>?_) λJ83 h hJ83=>oI h (λg84 h=>?_) λg84 h=>oG g84 (zm e) (oG g84 (zkg e e) (oV (zf e g84 e) (hJ83 h 3))))
       ·refine om e (jO 7 86 h (λq85 h=>?_) λJ86 h hJ86=>oI h (λg87 h=>?_) λg87 h=>oG g87 (zm e) (oG g87 (zaA e) (oG g87 (zm e) (jO 3 85 h (λq88 h=>?_) λJ89 h hJ89=>oI h (λg90 h=>?_) λg90 h=>oN g90 (oN g90 (oG g87 (zf e g90 e) (hJ89 h 3)))))))
        ·refine rn (zd h e (λ_ h=>?_) (λ_ h=>wk (ws (om e (ar e (ze (r1 e) k0 (iS h ▸ ⟨e,e⟩)))))))
         exact ws (ar e (zx (ze (r1 e) k0 (iS h ▸ ⟨e,e⟩))))
        ·exact oN g87 (oN g87 (oN g87 (oU (oU (oN g87 (oV (zg e g87 e) (hJ86 h 7)))))))
        ·exact oV (zf e g87 e) (hJ86 h 5)
        exact oG g90 (zm e) (oG g90 (zmQ e e) (oG g87 (zg e g90 e) (hJ89 h 3)))
       exact oN g84 (oN g84 (oV (zg e g84 e) (hJ83 h 3)))
      exact oN g79 (oN g79 (oN g79 (oN g79 (oV (zg e g79 e) (hJ78 h 5)))))
     ·exact oN g72 (oN g72 (oU (oU (oU (oU (oN g72 (oV (zg e g72 e) (hJ71 h 8))))))))
     ·exact oV (zf e g72 e) (hJ71 h 4)
     exact oG g75 (zm e) (oG g75 (zm e) (zb h λy76 hy76 h=>oG g75 (zcR y76 st9 e e hy76) (oG g75 (zcL eq5 e e) (oG g72 (zg e g75 e) (hJ74 h 5)))))
    ·exact oN g65 (oN g65 (oN g65 (oU (oU (oU (oU (oN g65 (oV (zg e g65 e) (hJ64 h 9)))))))))
    ·exact oV (zf e g65 e) (hJ64 h 5)
    exact oG g68 (zm e) (oG g68 (zm e) (zb h λy69 hy69 h=>oG g68 (zcR y69 st9 e e hy69) (oG g68 (zcL eq5 e e) (oG g65 (zg e g68 e) (hJ67 h 5)))))
   exact oN g62 (oN g62 (oV (zg e g62 e) (hJ61 h 3)))
  exact oG g51 (zm e) (oG g51 (zm e) (zb h λy52 hy52 h=>oG g51 (zcR y52 st9 e e hy52) (zb h λy53 hy53 h=>oH g51 (tC (zgA hy53) hT (s1 e) k0 (oV (zg e g51 e) (hJ50 h 5))))))
 exact zi (om e (zt h λq4 h=>oV (zX e e q4) (oa e (zF (hJ3 h 3)))))


theorem ztb {a_s a_i r} (h:zi1 a_s a_i=some r):Ctr Tryz.prog 137 [isv a_s,isv a_i] [] (Pt [isv r.1,isv r.2] []):=by
 unfold zi1 at h
 refine zh Tryz.func137 e λw0 S0 hT=>ws (oa e (an e (ws (om e (zt h λq1 h=>oV (zX e e q1) (an e (ws (om e (an e (zE (zo (lO 1 h e λL3 q2 Q58 h hL3 eL3 rL3=>ss (om e (om e (oV (zeO st9 e) (oV (zac e e) (om e (jO 17 31 h (λq31 h=>?_) λJ32 h hJ32=>oI h (λg33 h=>?_) λg33 h=>oN g33 (oN g33 (oN g33 (oN g33 (oN g33 (oU (oU ?_))))))))))))))))))))))))
 ·refine rn (zd h e (λ_ h=>?_) (λ_ h=>xn (eL3 _ _ (zs (zp (ss (om e (om e (zt h λq45 h=>oV (zdR e e q45) (zR h λq46 h=>oV (zv0 e e q46) (oV (zaQ e e) (om e (jO 5 44 h (λq47 h=>?_) λJ48 h hJ48=>oI h (λg49 h=>?_) λg49 h=>oG g49 (zm e) (oG g49 (zm e) (zb h λy50 hy50 h=>oH g49 (tC (zgy hy50) hT (s2 e e) k0 (oG g49 (zkJ eq5 e e) (oV (zf e g49 e) (hJ48 h 5)))))))))))))))))))
  ·exact wk (zo (zi (om e (zt h λq44 h=>oV (zX e e q44) (oa e (rb (hL3 h 10)))))))
  ·refine om e (jO 6 51 h (λq51 h=>?_) λJ52 h hJ52=>oI h (λg53 h=>?_) λg53 h=>oG g53 (zm e) (oG g53 (zm e) (zt h λq54 h=>oG g53 (zX e e q54) (zb h λy55 hy55 h=>oH g53 (tC (zgy hy55) hT (s2 e e) k0 (oG g53 (zkJ eq5 e e) (oV (zf e g53 e) (hJ52 h 6))))))))
   ·refine rn (zd h e (λ_ h=>?_) (λ_ h=>wk (zE (zG (.v 0 (.v 1 (.v 2 (.v 3 (.v 4 (.v 5 (.v 6 (.v 7 .nil)))))))) moOrd (by kernel_rfl) (rm e e (zt h λq56 h=>zj e (zX e e q56) (rm e e (rm e e (rm e e (zad h λq57 h=>zj e (zmv st9 e (.inr ⟨_,e,e⟩) (.inr ⟨_,e,e⟩) q57.1 q57.2.1 q57.2.2) (zj e (zar e) (zj e (zar e) (zah (zp (zbz (ze (r2 e e) k0 (iS h ▸ ⟨e,e⟩)))))))))))))))))
    exact ws (oa e (ar e (zx (ze (r2 e e) k0 (iS h ▸ ⟨e,e⟩)))))
   exact oN g53 (oN g53 (oN g53 (oN g53 (oN g53 (oV (zg e g53 e) (hJ52 h 6))))))
  exact oN g49 (oN g49 (oN g49 (oN g49 (oV (zg e g49 e) (hJ48 h 5)))))
 ·refine oG g33 (zm e) (oG g33 (zm e) (zb h λy34 hy34 h=>oG g33 (zcR y34 st9 e e hy34) (zb h λy35 hy35 h=>oH g33 (tC (zgA hy35) hT (s1 e) k0 (oG g33 (zm e) (jO 11 30 h (λq36 h=>?_) λJ37 h hJ37=>oI h (λg38 h=>?_) λg38 h=>oG g38 (zm e) (oG g38 (zm e) (zb h λy39 hy39 h=>oG g38 (zcR y39 st9 e e hy39) (oG g38 (znF e e) (oG g38 (zm e) (jO 5 29 h (λq40 h=>?_) λJ41 h hJ41=>oI h (λg42 h=>?_) λg42 h=>oN g42 (oN g42 (oN g42 (oN g42 (oG g38 (zf e g42 e) (hJ41 h 5))))))))))))))))
  ·exact oV (zg e g33 e) (hJ32 h 7)
  ·exact oN g38 (oN g38 (oN g38 (oN g38 (oN g38 (oU (oU (oU (oU (oN g38 (oG g33 (zg e g38 e) (hJ37 h 11)))))))))))
  ·exact oG g33 (zf e g38 e) (hJ37 h 7)
  exact oG g42 (zm e) (oG g42 (zm e) (zb h λy43 hy43 h=>oG g42 (zcR y43 st9 e e hy43) (oG g42 (zm8 e e) (oG g38 (zg e g42 e) (hJ41 h 5)))))
 exact oU (oU (oU (oU (oU (oU (oU (oU (oN g33 (oV (zf e g33 e) (hJ32 h 17))))))))))


theorem zoK {a_s a_i r} (h:ze6 a_s a_i=some r):Ctr Tryz.prog 138 [isv a_s,isv a_i] [] (Pt [isv r.1,isv r.2] []):=by
 unfold ze6 at h
 refine zh Tryz.func138 e λw0 S0 hT=>ws (oa e (an e (ws (an e (ss (om e (zt h λq1 h=>oV (zX e e q1) (an e (zo (lP h Unit () (λq2 g2=>[(1,isv q2.1),(6,isv q2.2)]) (λq2 g2=>[]) (zu (j:=1) e hI (zu (j:=6) e hI zal)) k0 λL3 q2 g2 Q30 h hL3 eL3 rL3=>ss (om e (om e (oV (zeO st9 e) (oV (zac e e) (rn (zd h e (λ_ h=>?_) (λ_ h=>xn (eL3 _ _ (zs (zp (ws (oa e (ar e (ze (r2 e e) k0 (iS h ▸ ⟨e,e⟩)))))))))))))))))))))))))
 refine wk (zE (jw h Unit (λq17 g17=>[(1,isv q17.1),(6,isv q17.2)]) (λq17 g17=>[]) k0 (λq17 g17 h=>?_) λJ18 h hJ18=>zo (ss (om e (om e (zb h λy19 hy19 h=>oV (zcR y19 st9 e e hy19) (oV (zkJ eq5 e e) (rn (zd h e (λ_ h=>?_) (λ_ h=>wk (ss (om e (om e (zt h λq23 h=>oV (zX e e q23) (zb h λy24 hy24 h=>oT (tC (zgy hy24) hT (s2 e e) k0 (oV (zkJ eq5 e e) (rn (zd h e (λ_ h=>?_) (λ_ h=>wk (ws (om e (zR h λq27 h=>oV (zea e e q27) (an e (zi ?_)))))))))))))))))))))))))
 ·exact zi (om e (zt h λq29 h=>oV (zX e e q29) (oa e (zF (hL3 h () 11)))))
 ·exact ws (om e (om e (om e (om e (zt h λq20 h=>oV (zX e e q20) (zad h λq21 h=>oV (zmv st9 e (.inr ⟨_,e,e⟩) (.inr ⟨_,e,e⟩) q21.1 q21.2.1 q21.2.2) (zR h λq22 h=>oV (zea e e q22) (an e (xn (zs (hJ18 h () 12)))))))))))
 ·refine ss (om e (zb h λy25 hy25 h=>oT (tC (zk4 hy25) hT (s1 e) k0 (oV (zaA e) (rn (zd h e (λ_ h=>?_) (λ_ h=>wk (ws (om e (zt h λq26 h=>oV (zX e e q26) (om e (oa e (ar e (zx (bn (rL3 _ (bn (ze (r2 e e) k0 (iS h ▸ ⟨e,e⟩)))))))))))))))))))
  exact ws (oa e (ar e (zx (zx (bn (rL3 _ (bn (ze (r2 e e) k0 (iS h ▸ ⟨e,e⟩)))))))))
 exact om e (zt h λq28 h=>oV (zX e e q28) (oa e (rb (hJ18 h () 15))))


theorem zrw {a_s a_i r} (h:zhs a_s a_i=some r):Ctr Tryz.prog 139 [isv a_s,isv a_i] [] (Pt [isv r] []):=by
 unfold zhs at h
 refine zh Tryz.func139 e λw0 S0 hT=>ws (an e (ws (om e (om e (zad h λq1 h=>oV (zmv st9 e (.inr ⟨_,e,e⟩) (.inl ⟨e,e⟩) q1.1 q1.2.1 q1.2.2) (an e (ws (oT (zB (l:=([(Str.mk [58,58,61]),(Str.mk [46,46,46]),(Str.mk [46,46]),(Str.mk [91,91]),(Str.mk [93,93]),(Str.mk [123]),(Str.mk [125]),(Str.mk [91]),(Str.mk [93]),(Str.mk [40]),(Str.mk [41]),(Str.mk [44]),(Str.mk [58])]:(List Str))) el27 (.cons e hI (.cons e hI (.cons e hI (.cons e hI (.cons e hI (.cons e hI (.cons e hI (.cons e hI (.cons e hI (.cons e hI (.cons e hI (.cons e hI (.cons e hI .nil))))))))))))) e e (an e (ss (an e (zo (lO 7 h e λL4 q3 Q19 h hL4 eL4 rL4=>ss (om e (om e (oV (zl2 (l:=([(Str.mk [58,58,61]),(Str.mk [46,46,46]),(Str.mk [46,46]),(Str.mk [91,91]),(Str.mk [93,93]),(Str.mk [123]),(Str.mk [125]),(Str.mk [91]),(Str.mk [93]),(Str.mk [40]),(Str.mk [41]),(Str.mk [44]),(Str.mk [58])]:(List Str))) e zz sl27) (oV (zac e e) (rn (zd h e (λ_ h=>?_) (λ_ h=>xn (eL4 _ _ (zs (zp (ws (ar e (ze (r1 e) k0 (iS h ▸ ⟨e,e⟩))))))))))))))))))))))))))))
 refine wk (zE (zo (ws (om e (om e (zb h λy12 hy12 h=>oV (zlL (l:=([(Str.mk [58,58,61]),(Str.mk [46,46,46]),(Str.mk [46,46]),(Str.mk [91,91]),(Str.mk [93,93]),(Str.mk [123]),(Str.mk [125]),(Str.mk [91]),(Str.mk [93]),(Str.mk [40]),(Str.mk [41]),(Str.mk [44]),(Str.mk [58])]:(List Str))) e zz e sl27 hy12) (oV (za ty9 e) (oV (zeO st9 e) (an e (zE (zG (.v 0 (.v 1 (.v 2 (.v 3 (.v 4 (.v 5 (.v 6 (.v 7 (.v 8 (.v 9 (.v 10 (.v 11 (.v 12 (.v 13 .nil)))))))))))))) moOrd (by kernel_rfl) (rm e e (zj e (zeO st9 e) (rm e e (zj e (zcY e e) (rm e e (jD 9 37 h (λq13 h=>?_) λJ14 h hJ14=>rJ h (λg15 h=>?_) λg15 h=>rP e g15 (rP e g15 (rP e g15 (rP e g15 (rP e g15 (rP e g15 (rP e g15 (rP e g15 (zj e (zf e g15 e) (hJ14 h 9))))))))))))))))))))))))))
 ·refine zah (zp (zd h e (λ_ h=>?_) (λ_ h=>zJ (zw (zp (zi (om e (zt h λq18 h=>oV (zX e e q18) (oa e (zF (hL4 h 20)))))))))))
  exact ws (om e (ar e (bn (rL4 _ (bn (ze (r1 e) k0 (iS h ▸ ⟨e,e⟩)))))))
 exact rG e g15 (zm e) (rG e g15 (zm e) (zad h λq16 h=>rG e g15 (zmv st9 e (.inl ⟨e,e⟩) (.inr ⟨_,e,e⟩) q16.1 q16.2.1 q16.2.2) (rG e g15 (zm e) (rG e g15 (zm e) (zb h λy17 hy17 h=>rG e g15 (zlL (l:=([(Str.mk [58,58,61]),(Str.mk [46,46,46]),(Str.mk [46,46]),(Str.mk [91,91]),(Str.mk [93,93]),(Str.mk [123]),(Str.mk [125]),(Str.mk [91]),(Str.mk [93]),(Str.mk [40]),(Str.mk [41]),(Str.mk [44]),(Str.mk [58])]:(List Str))) e zz e sl27 hy17) (rG e g15 (za ty9 e) (rG e g15 (zcL eq9 e e) (zj e (zg e g15 e) (hJ14 h 9)))))))))


theorem zs1 {a_s a_i r} (h:ziG a_s a_i=some r):Ctr Tryz.prog 78 [isv a_s,isv a_i] [] (Pt [isv r.1,isv r.2] []):=by
 unfold ziG at h
 refine zh Tryz.func78 e λw0 S0 hT=>ws (oT (zU _ ze80 λb1=>an e (ws (om e (oV (zak (z:=(GTok.mk (0:Int) (Str.mk []) a_i)) e bu80 ze80 (.cons GTok.f2 zra e hI .nil)) (oT (zU _ ze80 λb2=>oT (tS ty80 e e p0 ⟨0,⟨[]⟩,a_i⟩ (rn (ws (om e (om e (zb h λy3 hy3 h=>oV (zcR y3 st9 e e hy3) (an e (ws (an e (zE (jw h Unit (λq4 g4=>[(8,isv q4.1)]) (λq4 g4=>[boxE b2 (q4.2:GTok)]) k1 (λq4 g4 h=>?_) λJ5 h hJ5=>zo (ws (om e (zb h λy6 hy6 h=>oT (tC (zi7 hy6) hT (s1 e) k0 (an e (zd h e (λ_ h=>?_) (λ_ h=>ws (om e (zb h λy12 hy12 h=>?_)))))))))))))))))))))))))))
 ·exact ws (oT (tL ty80 e p0 q4.2 (om e (oT (tS ty80 e e p1 q4.2 (ar e (ze (.cell e .here ty80 (.tmp e .nil)) k0 (iS h ▸ ⟨e,e⟩))))))))
 ·refine ws (om e (om e (zb h λy7 hy7 h=>oT (tC (zq5 hy7) hT (s2 e e) k0 (an e (ss (om e (oV (zac e e) (rn (zd h e (λ_ h=>?_) (λ_ h=>wk (zE (zG (.v 0 (.v 1 (.v 2 (.v 3 (.v 4 (.t 5 (.v 6 (.t 7 .nil)))))))) moOrd (by kernel_rfl) (rm e e (rm e e (rm e e (zad h λq8 h=>zj e (zmv st9 e (.inr ⟨_,e,e⟩) (.inr ⟨_,e,e⟩) q8.1 q8.2.1 q8.2.2) (zj e (zV e GTok.f0 zd0) (rT e (tS ty3 e e p0 ⟨2,⟨[]⟩,a_i⟩ (zj e (zV e GTok.f1 zfB) (rT e (tS ty9 e e p0 ⟨2,⟨((a_s.b.take (y7).toNat).drop (a_i).toNat)⟩,a_i⟩ (zah (zp (ss (om e (oV (zm8 e e) (rn (jw h Unit (λq9 g9=>[]) (λq9 g9=>[boxE b2 (q9:GTok)]) k1 (λq9 g9 h=>?_) λJ10 h hJ10=>?_))))))))))))))))))))))))))))))
  ·exact ws (oT (tL ty80 e p0 ⟨0,⟨[]⟩,a_i⟩ (oT (tS ty80 e e p1 ⟨0,⟨[]⟩,a_i⟩ (ar e (zx (bn (ze (.cell e .here ty80 (.tmp e .nil)) k0 (iS h ▸ ⟨e,e⟩)))))))))
  ·refine ws (oV (zV e GTok.f1 zfB) (oT (tL ty9 e p0 q9.text (zb h λy11 hy11 h=>oT (tC (zrq hy11) hT (s1 e) k0 (rn (zd h e (λ_ h=>?_) (λ_ h=>zJ (zw (hJ5 h () 20))))))))))
   exact zi (oV (zV e GTok.f0 zd0) (oT (tS ty3 e e p0 ({ q9 with kind:=5 }) (rb (hJ5 h () 21)))))
  refine zd h e (λ_ h=>?_) (λ_ h=>zJ (hJ10 h () 0))
  exact zi (oV (zV e GTok.f0 zd0) (oT (tS ty3 e e p0 ⟨1,⟨((a_s.b.take (y7).toNat).drop (a_i).toNat)⟩,a_i⟩ (zF (hJ10 h () 1)))))
 refine oT (tC (zgA hy12) hT (s1 e) k0 (om e (jO 10 66 h (λq13 h=>?_) λJ14 h hJ14=>oI h (λg15 h=>?_) λg15 h=>oG g15 (zm e) (oG g15 (zcL eq5 e e) (oG g15 (zm e) (jO 6 65 h (λq16 h=>?_) λJ17 h hJ17=>oI h (λg18 h=>?_) λg18 h=>oN g18 (oN g18 (oN g18 (oN g18 (oN g18 (oG g15 (zf e g18 e) (hJ17 h 6))))))))))))
 ·refine an e (zd h e (λ_ h=>?_) (λ_ h=>ws (om e (oV (zcL eq5 e e) (an e (zd h e (λ_ h=>?_) (λ_ h=>ws (om e (oV (zcL eq5 e e) (an e (zd h e (λ_ h=>?_) (λ_ h=>ws (om e (om e (zb h λy26 hy26 h=>oT (tC (zrw hy26) hT (s2 e e) k0 (an e (ws (om e (oV (zbw e e) (rn (zd h e (λ_ h=>?_) (λ_ h=>zJ (zw (hJ5 h () 20)))))))))))))))))))))))))
  ·refine ws (om e (om e (zb h λy22 hy22 h=>oT (tC (zoH hy22) hT (s2 e e) k0 (an e (ss (om e (oV (zac e e) (rn (zd h e (λ_ h=>?_) (λ_ h=>wk (zG (.v 0 (.v 1 (.v 2 (.v 3 (.v 4 (.t 5 (.v 6 (.t 7 .nil)))))))) moOrd (by kernel_rfl) (rm e e (rm e e (rm e e (zad h λq23 h=>zj e (zmv st9 e (.inr ⟨_,e,e⟩) (.inr ⟨_,e,e⟩) q23.1 q23.2.1 q23.2.2) (zj e (zV e GTok.f0 zd0) (rT e (tS ty3 e e p0 ⟨3,⟨[]⟩,a_i⟩ (zj e (zV e GTok.f1 zfB) (rT e (tS ty9 e e p0 ⟨3,⟨((a_s.b.take (y22).toNat).drop (a_i).toNat)⟩,a_i⟩ (zah (zw (hJ5 h () 20)))))))))))))))))))))))))
   exact ws (oT (tL ty80 e p0 ⟨0,⟨[]⟩,a_i⟩ (oT (tS ty80 e e p1 ⟨0,⟨[]⟩,a_i⟩ (ar e (zx (bn (ze (.cell e .here ty80 (.tmp e .nil)) k0 (iS h ▸ ⟨e,e⟩)))))))))
  ·exact ws (oV (zV e GTok.f0 zd0) (oT (tS ty3 e e p0 ⟨4,⟨[]⟩,a_i⟩ (rn (zi (om e (om e (zb h λy24 hy24 h=>oT (tC (ztb hy24) hT (s2 e e) k0 (om e (oV (zD e e) (oV (zD e e) (oa e (oV (zV e GTok.f1 zfB) (oT (tS ty9 e e p0 ⟨4,y24.2,a_i⟩ (rb (hJ5 h () 20))))))))))))))))))
  ·exact ws (oV (zV e GTok.f0 zd0) (oT (tS ty3 e e p0 ⟨7,⟨[]⟩,a_i⟩ (rn (zi (om e (om e (zb h λy25 hy25 h=>oT (tC (zoK hy25) hT (s2 e e) k0 (om e (oV (zD e e) (oV (zD e e) (oa e (oV (zV e GTok.f1 zfB) (oT (tS ty9 e e p0 ⟨7,y25.2,a_i⟩ (rb (hJ5 h () 23))))))))))))))))))
  exact zG (.v 0 (.v 1 (.v 2 (.v 3 (.v 4 (.v 5 (.v 6 (.v 7 (.v 8 (.v 9 (.t 10 (.v 11 (.t 12 (.v 13 .nil)))))))))))))) moOrd (by kernel_rfl) (rm e e (rm e e (rm e e (rm e e (zt h λq27 h=>zj e (zX e e q27) (zad h λq28 h=>zj e (zmv st9 e (.inr ⟨_,e,e⟩) (.inr ⟨_,e,e⟩) q28.1 q28.2.1 q28.2.2) (rm e e (rm e e (zt h λq29 h=>zj e (zX e e q29) (zj e (zV e GTok.f0 zd0) (rT e (tS ty3 e e p0 ⟨6,⟨[]⟩,a_i⟩ (zj e (zV e GTok.f1 zfB) (rT e (tS ty9 e e p0 ⟨6,⟨((a_s.b.take ((a_i + y26)).toNat).drop (a_i).toNat)⟩,a_i⟩ (zj e (zar e) (zah (zw (hJ5 h () 32)))))))))))))))))))
 ·exact oN g15 (oN g15 (oN g15 (oU (oU (oU (oU (oU (oN g15 (oV (zg e g15 e) (hJ14 h 10))))))))))
 ·exact oV (zf e g15 e) (hJ14 h 5)
 exact oG g18 (zm e) (oG g18 (zm e) (zt h λq19 h=>oG g18 (zX e e q19) (zb h λy20 hy20 h=>oH g18 (tC (zgy hy20) hT (s2 e e) k0 (zb h λy21 hy21 h=>oH g18 (tC (zgA hy21) hT (s1 e) k0 (oG g15 (zg e g18 e) (hJ17 h 6))))))))


theorem zoV {zbV r} (h:zev zbV=some r):Ctr Tryz.prog 33 [isv zbV] [] (Pt [isv r.1,isv r.2.1,isv r.2.2] []):=by
 unfold zev at h
 refine zh Tryz.func33 e λw0 S0 hT=>ws (oa e (oa e (an e (ss (om e (oV (zeO st9 e) (oV (zbw e e) (rn (zd h e (λ_ h=>?_) (λ_ h=>wk (ws (an e (ws (an e (zo (zhE (zaW) (lP h Tok none (λq1 g1=>[(5,appv g1 q1.1),(6,isv q1.2)]) (λq1 g1=>[tokE g1]) (zu (j:=5) e zcC (zu (j:=6) e hI zal)) k1 λL2 q1 g1 Q22 h hL2 eL2 rL2=>zo (ws (om e (om e (zb h λy12 hy12 h=>oT (tC (zqA hy12) hT (s2 e e) k0 (an e (ss (om e (om e (oV (zeO st9 e) ?_)))))))))))))))))))))))))))
 ·exact ws (oa e (oa e (ar e (zx (ze (.as e (zdQ (α:=GTok)) (.tmp e (.tmp e .nil))) k0 (iS h ▸ ⟨e,e⟩))))))
 refine oV (zcY e e) (rn (zd h e (λ_ h=>?_) (λ_ h=>wk (ws (om e (om e (zb h λy16 hy16 h=>oT (tC (zs1 hy16) hT (s2 e e) k0 (om e (oV (zD e e) (oV (zD e e) (oT (zU _ ze80 λb17=>oT (tS ty80 e e p0 y16.1 (zO (zaz 7 .here e) (an e (ss (om e (oV (zac e e) (rn (zd h e (λ_ h=>?_) (λ_ h=>wk (ws (om e (oV (za ty80 e) (oT (zB (l:=([y16.1]:(List GTok))) el69 (.cons e hI .nil) e e (zR h λq20 h=>oT (zbY (l:=q1.1) (m:=([y16.1]:(List GTok))) zrR e hI e zz .here q20 λt19=>an e (zi ?_))))))))))))))))))))))))))))))
 ·exact ws (om e (om e (oV (zeO st9 e) (oV (zak (z:=(GTok.mk (0:Int) (Str.mk []) (zbV.b.length:Int))) e bu80 ze80 (.cons GTok.f2 zra e hI .nil)) (oT (zB (l:=([(GTok.mk (0:Int) (Str.mk []) (zbV.b.length:Int))]:(List GTok))) el69 (.cons e hI .nil) e e (zR h λq15 h=>oT (zbY (l:=q1.1) (m:=([(GTok.mk (0:Int) (Str.mk []) (zbV.b.length:Int))]:(List GTok))) zrR e hI e zz .here q15 λt14=>oa e (oa e (ar e (zx (zbP (rL2 _ (zbP (ze (.as e zz (.tmp e (.tmp e .nil))) k0 (iS h ▸ ⟨e,e⟩))))))))))))))))
 ·exact ws (om e (oa e (oa e (ar e (zx (zbP (rL2 _ (zbP (ze (.as e (zdQ (α:=GTok)) (.tmp e (.tmp e .nil))) k0 (iS h ▸ ⟨e,e⟩))))))))))
 exact om e (oa e (rb (hL2 h t19 28)))


theorem za8 {a_x zW t_a_x1 t_a_x2 zT r} (h:zaw a_x=some r):Ctr Tryz.prog 47 [ptrv zW (Fld.id GParOT)] [boxE zW (GParO a_x t_a_x1 t_a_x2 zT),tokE t_a_x1,tokE t_a_x2,vecE zT a_x.m.nodes] (Pt2 (λ_ _=>[isv r.1]) λu1 u2=>[boxE zW (GParO r.2 u1 u2 zT),tokE u1,tokE u2,vecE zT r.2.m.nodes]):=by
 unfold zaw at h
 exact zh Tryz.func47 e λw0 S0 hT=>ws (oT (zU _ ze80 λb4=>rn (zE (zez 0 (.there .here) e (λo5 hn6=>zG (.v 0 (.v 1 (.v 2 (.v 3 (.v 4 (.v 5 (.v 6 (.v 7 (.v 8 (.v 9 (.t 10 .nil))))))))))) moOrd (by kernel_rfl) (rm e e (zj e (zcq e) (zj e (zif e zkm zmS) (zj e (vP ty69 e m0 a_x.l) (rm e e (zj e (zcq e) (zj e (zif e zik zlJ) (zj e (vP ty3 e m0 a_x.at_) (zb h λy7 hy7 h=>zj e (vX e e sl69 hy7) (zj e (za ty80 e) (rT e (tS ty80 e e p0 y7 (zah (zbn 0 hn6 e (zp (zbz (ze (.cell e (.there .here) ty80 .nil) (a0 (a1 (a1 (a1 k0)))) (iS h ▸ ⟨t_a_x1,t_a_x2,e,e⟩)))))))))))))))))))))))


theorem zbM {a_x a_e a_t zW t_a_x1 t_a_x2 zT r} (h:zaK a_x a_e a_t=some r):Ctr Tryz.prog 48 [ptrv zW (Fld.id GParOT),isv a_e,isv a_t] [boxE zW (GParO a_x t_a_x1 t_a_x2 zT),tokE t_a_x1,tokE t_a_x2,vecE zT a_x.m.nodes] (Pt2 (λ_ _=>[]) λu1 u2=>[boxE zW (GParO r u1 u2 zT),tokE u1,tokE u2,vecE zT r.m.nodes]):=by
 unfold zaK at h
 refine zh Tryz.func48 e λw0 S0 hT=>ws (oT (tB e (rn (ws (om e (oV (zn e) (oV (zV e zb8 zdt) (oT (tL ty38 e p0 a_x.e (oV (zC e e) (rn (zd h e (λ_ h=>?_) (λ_ h=>zJ (zaD .nil k4 (iS h ▸ ⟨t_a_x1,t_a_x2,e,e⟩)))))))))))))))
 exact zG (.v 0 (.v 1 (.v 2 (.v 3 (.v 4 (.v 5 (.v 6 (.t 7 (.v 8 (.v 9 (.t 10 .nil))))))))))) moOrd (by kernel_rfl) (rm e e (rm e e (rm e e (zj e (vI e GTok.f2 zra a_t.at_) (zj e (za ty3 e) (zj e (zn e) (zj e (zV e zb8 zdt) (rT e (tS ty38 e e p0 (GParO {a_x with e:=a_e} t_a_x1 t_a_x2 zT) (zj e (zn e) (zj e (zV e zoe zr2) (rT e (tS ty3 e e p0 (GParO {a_x with e:=a_e,p:=a_t.at_} t_a_x1 t_a_x2 zT) (zah (zaD .nil k4 (iS h ▸ ⟨t_a_x1,t_a_x2,e,e⟩))))))))))))))))


theorem zct {a_x zW t_a_x1 t_a_x2 zT r} (h:za9 a_x=some r):Ctr Tryz.prog 92 [ptrv zW (Fld.id GParOT)] [boxE zW (GParO a_x t_a_x1 t_a_x2 zT),tokE t_a_x1,tokE t_a_x2,vecE zT a_x.m.nodes] (Pt2 (λ_ _=>[isv r.1]) λu1 u2=>[boxE zW (GParO r.2 u1 u2 zT),tokE u1,tokE u2,vecE zT r.2.m.nodes]):=by
 unfold za9 at h
 refine zh Tryz.func92 e λw0 S0 hT=>ws (oT (zU _ ze80 λb4=>rn (zE (zez 0 (.there .here) e (λo5 hn6=>zG (.v 0 (.v 1 (.v 2 (.v 3 (.v 4 (.v 5 (.v 6 (.v 7 (.v 8 (.v 9 (.t 10 (.t 11 .nil)))))))))))) moOrd (by kernel_rfl) (rm e e (zj e (zcq e) (zj e (zif e zkm zmS) (zj e (vP ty69 e m0 a_x.l) (rm e e (zj e (zcq e) (zj e (zif e zik zlJ) (zj e (vP ty3 e m0 a_x.at_) (zb h λy7 hy7 h=>zj e (vX e e sl69 hy7) (zj e (za ty80 e) (rT e (zU _ ze80 λb8=>rT e (tS ty80 e e p0 y7 (zhT (zaz 3 .here e) (zah (zbn 0 hn6 e (zp (zE (zE (zez 0 .here e (λo9 hn10=>zG (.v 0 (.v 1 (.v 2 (.v 3 (.v 4 (.v 5 (.v 6 (.v 7 (.v 8 (.v 9 (.v 10 .nil))))))))))) moOrd (by kernel_rfl) (rm e e (zj e (zcq e) ?_))))))))))))))))))))))))))))
 refine zj e (zif e zik zlJ) (zj e (vP ty3 e m0 a_x.at_) (zt h λq11 h=>zj e (zX e e q11) (rm e e (zj e (zcq e) (zj e (zif e zkm zmS) (zj e (vP ty69 e m0 a_x.l) (zj e (vN e sl69) (zj e (zac e e) (zah (zbn 0 hn10 e (zp (jw h (Tok × Tok) (λq12 g12=>[]) (λq12 g12=>[boxE zW (GParO q12 g12.1 g12.2 zT),tokE g12.1,tokE g12.2,vecE zT q12.m.nodes]) (a0 (a1 (a1 (a1 k0)))) (λq12 g12 h=>?_) λJ13 h hJ13=>zd h e (λ_ h=>?_) (λ_ h=>zJ (hJ13 h (t_a_x1,t_a_x2) 0))))))))))))))
 ·exact ws (oV (za ty80 e) (oT (tS ty80 e e p4 y7 (rn (zbz (ze (.cell e .here ty80 .nil) (a1 (a1 (a1 (a1 k0)))) (iS h ▸ ⟨g12.1,g12.2,e,e⟩)))))))
 exact zi (om e (oV (zn e) (oV (zV e zik zlJ) (oT (tL ty3 e p0 a_x.at_ (zt h λq14 h=>oV (zX e e q14) (oV (zn e) (oV (zV e zik zlJ) (oT (tS ty3 e e p0 (GParO {a_x with at_:=(a_x.at_ + 1)} t_a_x1 t_a_x2 zT) (zF (hJ13 h (t_a_x1,t_a_x2) 7))))))))))))


theorem zdD {a_x a_k zW t_a_x1 t_a_x2 zT r} (h:za7 a_x a_k=some r):Ctr Tryz.prog 44 [ptrv zW (Fld.id GParOT),isv a_k] [boxE zW (GParO a_x t_a_x1 t_a_x2 zT),tokE t_a_x1,tokE t_a_x2,vecE zT a_x.m.nodes] (Pt2 (λ_ _=>[isv r.1]) λu1 u2=>[boxE zW (GParO r.2 u1 u2 zT),tokE u1,tokE u2,vecE zT r.2.m.nodes]):=by
 unfold za7 at h
 refine zh Tryz.func44 e λw0 S0 hT=>ws (an e (ws (om e (zb h λy4 hy4 h=>oT (tC2 (za8 hy4) hT (s1 e) k4 (λt5 t6=>oT (zU _ ze80 λb7=>oT (tS ty80 e e p0 y4.1 (zO (zaz 5 .here e) (rn (ss (om e (oV (zn e) (oV (zV e zb8 zdt) (oT (tL ty38 e p0 y4.2.e (oV (zaQ e e) (om e (jO 5 18 h (λq8 h=>?_) λJ9 h hJ9=>oI h (λg10 h=>?_) λg10 h=>oG g10 (vI e GTok.f0 zd0 y4.1.kind) (oG g10 (za ty3 e) (oG g10 (zm e) (oG g10 (zaQ e e) (oV (zf e g10 e) (hJ9 h 5))))))))))))))))))))))))
 ·refine rn (zd h e (λ_ h=>?_) (λ_ h=>wk (ws (om e (zb h λy14 hy14 h=>oT (tC2 (zct hy14) hT (s1 e) k4 (λt15 t16=>oV (zkc GTok.f1 e zfB e) (ar e (ze (r1 e) k4 (iS h ▸ ⟨t15,t16,e,e⟩))))))))))
  exact ws (om e (oV (za ty80 e) (zb h λy11 hy11 h=>oT (tC2 (zbM hy11) hT (s3 e e e) k4 (λt12 t13=>rn (ws (ar e (zx (ze (r1 e) k4 (iS h ▸ ⟨t12,t13,e,e⟩))))))))))
 exact oN g10 (oN g10 (oN g10 (oN g10 (oV (zg e g10 e) (hJ9 h 5)))))


theorem zN {a_x a_s zW t_a_x1 t_a_x2 zT r} (h:zH a_x a_s=some r):Ctr Tryz.prog 46 [ptrv zW (Fld.id GParOT),isv a_s] [boxE zW (GParO a_x t_a_x1 t_a_x2 zT),tokE t_a_x1,tokE t_a_x2,vecE zT a_x.m.nodes] (Pt2 (λ_ _=>[isv r.1]) λu1 u2=>[boxE zW (GParO r.2 u1 u2 zT),tokE u1,tokE u2,vecE zT r.2.m.nodes]):=by
 unfold zH at h
 refine zh Tryz.func46 e λw0 S0 hT=>ws (an e (ws (om e (zb h λy4 hy4 h=>oT (tC2 (za8 hy4) hT (s1 e) k4 (λt5 t6=>oT (zU _ ze80 λb7=>oT (tS ty80 e e p0 y4.1 (zO (zaz 5 .here e) (rn (ss (om e (oV (zn e) (oV (zV e zb8 zdt) (oT (tL ty38 e p0 y4.2.e (oV (zC e e) (om e (jO 9 22 h (λq8 h=>?_) λJ9 h hJ9=>oI h (λg10 h=>?_) λg10 h=>oN g10 (oN g10 (oN g10 (oN g10 (oU (oU (oU (oN g10 (oV (zf e g10 e) (hJ9 h 9))))))))))))))))))))))))))))
 ·refine om e (jO 5 28 h (λq14 h=>?_) λJ15 h hJ15=>oI h (λg16 h=>?_) λg16 h=>oN g16 (oN g16 (oN g16 (oN g16 (oV (zf e g16 e) (hJ15 h 5))))))
  ·refine rn (zd h e (λ_ h=>?_) (λ_ h=>wk (ws (ar e (ze (r1 e) k4 (iS h ▸ ⟨t5,t6,e,e⟩))))))
   exact ws (om e (zb h λy17 hy17 h=>oT (tC2 (zct hy17) hT (s1 e) k4 (λt18 t19=>rn (ws (ar e (zx (ze (r1 e) k4 (iS h ▸ ⟨t18,t19,e,e⟩)))))))))
  exact oG g16 (vI e GTok.f1 zfB y4.1.text) (oG g16 (za ty9 e) (oG g16 (zm e) (oG g16 (zcL eq9 e e) (oV (zg e g16 e) (hJ15 h 5)))))
 refine oG g10 (vI e GTok.f0 zd0 y4.1.kind) (oG g10 (za ty3 e) (oG g10 (zC e e) (oG g10 (zm e) (jO 4 21 h (λq11 h=>?_) λJ12 h hJ12=>oI h (λg13 h=>?_) λg13 h=>oG g13 (vI e GTok.f0 zd0 y4.1.kind) (oG g13 (za ty3 e) (oG g13 (zC e e) (oG g10 (zf e g13 e) (hJ12 h 4))))))))
 ·exact oV (zg e g10 e) (hJ9 h 6)
 exact oN g13 (oN g13 (oN g13 (oG g10 (zg e g13 e) (hJ12 h 4))))


theorem zae {a_x a_s zW t_a_x1 t_a_x2 zT r} (h:zP a_x a_s=some r):Ctr Tryz.prog 45 [ptrv zW (Fld.id GParOT),isv a_s] [boxE zW (GParO a_x t_a_x1 t_a_x2 zT),tokE t_a_x1,tokE t_a_x2,vecE zT a_x.m.nodes] (Pt2 (λ_ _=>[]) λu1 u2=>[boxE zW (GParO r u1 u2 zT),tokE u1,tokE u2,vecE zT r.m.nodes]):=by
 unfold zP at h
 refine zh Tryz.func45 e λw0 S0 hT=>ws (om e (oV (zn e) (oV (zV e zb8 zdt) (oT (tL ty38 e p0 a_x.e (oV (zC e e) (om e (jo 5 h (Tok × Tok) (λq4 g4=>[(14,isv q4.1)]) (λq4 g4=>[boxE zW (GParO q4.2 g4.1 g4.2 zT),tokE g4.1,tokE g4.2,vecE zT q4.2.m.nodes]) k4 (λq4 g4 h=>?_) λJ5 h hJ5=>oI h (λg6 h=>?_) λg6 h=>oN g6 (oN g6 (oN g6 (oN g6 (oV (zf e g6 e) (hJ5 h (t_a_x1,t_a_x2) 5)))))))))))))
 ·refine rn (zd h e (λ_ h=>?_) (λ_ h=>zJ (zaD .nil k4 (iS h ▸ ⟨g4.1,g4.2,e,e⟩))))
  exact zi (om e (om e (zb h λy10 hy10 h=>oT (tC2 (za8 hy10) hT (s1 e) k4 (λt11 t12=>zb h λy13 hy13 h=>oT (tC2 (zbM hy13) hT (s3 e e e) k4 (λt14 t15=>zF (zaD .nil k4 (iS h ▸ ⟨t14,t15,e,e⟩)))))))))
 exact oG g6 (zm e) (oG g6 (zm e) (zb h λy7 hy7 h=>oH g6 (tC2 (zN hy7) hT (s2 e e) k4 (λt8 t9=>oG g6 (zaA e) (oV (zg e g6 e) (hJ5 h (t8,t9) 5))))))


theorem zpl {a_t r} (h:zhy a_t=some r):Ctr Tryz.prog 93 [isv a_t] [] (Pt [isv r] []):=by
 unfold zhy at h
 refine zh Tryz.func93 e λw0 S0 hT=>ws (oT (tB e (an e (ws (oT (zB (l:=([(Str.mk [91]),(Str.mk [66,79,79,76,69,65,78]),(Str.mk [78,85,76,76]),(Str.mk [85,84,70,56,83,116,114,105,110,103]),(Str.mk [73,78,84,69,71,69,82]),(Str.mk [79,67,84,69,84]),(Str.mk [69,78,85,77,69,82,65,84,69,68]),(Str.mk [83,69,84]),(Str.mk [67,72,79,73,67,69]),(Str.mk [83,69,81,85,69,78,67,69])]:(List Str))) el27 (.cons e hI (.cons e hI (.cons e hI (.cons e hI (.cons e hI (.cons e hI (.cons e hI (.cons e hI (.cons e hI (.cons e hI .nil)))))))))) e e (an e (ss (an e (zo (lO 4 h e λL3 q2 Q20 h hL3 eL3 rL3=>ss (om e (om e (oV (zl2 (l:=([(Str.mk [91]),(Str.mk [66,79,79,76,69,65,78]),(Str.mk [78,85,76,76]),(Str.mk [85,84,70,56,83,116,114,105,110,103]),(Str.mk [73,78,84,69,71,69,82]),(Str.mk [79,67,84,69,84]),(Str.mk [69,78,85,77,69,82,65,84,69,68]),(Str.mk [83,69,84]),(Str.mk [67,72,79,73,67,69]),(Str.mk [83,69,81,85,69,78,67,69])]:(List Str))) e zz sl27) (oV (zac e e) (rn (zd h e (λ_ h=>?_) (λ_ h=>xn (eL3 _ _ (zs (zp (ws (oV (vI e GTok.f0 zd0 a_t.kind) (oV (za ty3 e) (oV (zC e e) (ar e (ze (r1 e) k0 (iS h ▸ ⟨e,e⟩))))))))))))))))))))))))))))
 refine wk (zE (zo (zE (zG (.v 0 (.v 1 (.v 2 (.v 3 (.v 4 (.v 5 (.v 6 (.v 7 (.v 8 (.v 9 (.v 10 (.v 11 (.v 12 (.v 13 (.v 14 (.v 15 (.v 16 .nil))))))))))))))))) moOrd (by kernel_rfl) (rm e e (rm e e (zb h λy12 hy12 h=>zj e (zlL (l:=([(Str.mk [91]),(Str.mk [66,79,79,76,69,65,78]),(Str.mk [78,85,76,76]),(Str.mk [85,84,70,56,83,116,114,105,110,103]),(Str.mk [73,78,84,69,71,69,82]),(Str.mk [79,67,84,69,84]),(Str.mk [69,78,85,77,69,82,65,84,69,68]),(Str.mk [83,69,84]),(Str.mk [67,72,79,73,67,69]),(Str.mk [83,69,81,85,69,78,67,69])]:(List Str))) e zz e sl27 hy12) (zj e (za ty9 e) (zj e (vI e GTok.f1 zfB a_t.text) (zj e (za ty9 e) (zj e (zcL eq9 e e) (rm e e (jD 9 28 h (λq13 h=>?_) λJ14 h hJ14=>rJ h (λg15 h=>?_) λg15 h=>rP e g15 (rP e g15 (rP e g15 (rP e g15 (rU e (rU e (rU e (rP e g15 (zj e (zf e g15 e) (hJ14 h 9))))))))))))))))))))))
 ·refine zah (zp (zd h e (λ_ h=>?_) (λ_ h=>zJ (zw (zp (zi (om e (zt h λq19 h=>oV (zX e e q19) (oa e (zF (hL3 h 17)))))))))))
  exact ws (ar e (bn (rL3 _ (bn (ze (r1 e) k0 (iS h ▸ ⟨e,e⟩))))))
 refine rG e g15 (vI e GTok.f0 zd0 a_t.kind) (rG e g15 (za ty3 e) (rG e g15 (zC e e) (rG e g15 (zm e) (jD 4 27 h (λq16 h=>?_) λJ17 h hJ17=>rJ h (λg18 h=>?_) λg18 h=>rG e g18 (vI e GTok.f0 zd0 a_t.kind) (rG e g18 (za ty3 e) (rG e g18 (zC e e) (rG e g15 (zf e g18 e) (hJ17 h 4))))))))
 ·exact zj e (zg e g15 e) (hJ14 h 6)
 exact rP e g18 (rP e g18 (rP e g18 (rG e g15 (zg e g18 e) (hJ17 h 4))))


theorem zmy {a_s r} (h:zg1 a_s=some r):Ctr Tryz.prog 82 [isv a_s] [] (Pt [isv r] []):=by
 unfold zg1 at h
 refine zh Tryz.func82 e λw0 S0 hT=>ws (an e (ws (om e (zb h λy1 hy1 h=>oV (zcR y1 st9 e e hy1) (oV (zcL eq5 e e) (an e (ss (om e (rn (jW 0 h (λq2 h=>?_) λJ3 h hJ3=>zd h e (λ_ h=>?_) (λ_ h=>zJ (hJ3 h 0))))))))))))
 ·refine ws (an e (ss (an e (zo (lP h Unit () (λq5 g5=>[(4,isv q5.1),(5,isv q5.2)]) (λq5 g5=>[]) (zu (j:=4) e hI (zu (j:=5) e hI zal)) k0 λL6 q5 g5 Q19 h hL6 eL6 rL6=>ss (om e (om e (oV (zeO st9 e) (oV (zac e e) (rn (zd h e (λ_ h=>?_) (λ_ h=>xn (eL6 _ _ (zs (zp (ss (om e (rn (zd h e (λ_ h=>?_) (λ_ h=>wk (ws (om e (zt h λq18 h=>oV (zkZ Tryz.underlying102 Tryz.underlying2 e q18) (ar e (ze (r1 e) k0 (iS h ▸ ⟨e,e⟩))))))))))))))))))))))))))
  ·exact wk (zE (zo (zi (om e (oV (zrC e e) (om e (om e (zb h λy13 hy13 h=>oV (zcR y13 st9 e e hy13) (oV (zo5 e e) (oV (zel Tryz.underlying5 Tryz.underlying102 e) (oV (zlg e e) (oa e (rb (zp (zi (om e (zt h λq14 h=>oV (zX e e q14) (oa e (zF (hL6 h () 18))))))))))))))))))))
  exact ws (om e (oV (zvc e e) (zt h λq15 h=>oV (zkZ Tryz.underlying102 Tryz.underlying2 e q15) (zt h λq16 h=>oV (zvz e q16) (zt h λq17 h=>oV (zdR e e q17) (ar e (zx (ze (r1 e) k0 (iS h ▸ ⟨e,e⟩)))))))))
 exact zi (om e (zad h λq4 h=>oV (zmv st9 e (.inr ⟨_,e,e⟩) (.inl ⟨e,e⟩) q4.1 q4.2.1 q4.2.2) (oa e (zF (hJ3 h 3)))))


theorem zdI {a_x zW t_a_x1 t_a_x2 zT r} (h:zbs a_x=some r):Ctr Tryz.prog 94 [ptrv zW (Fld.id GParOT)] [boxE zW (GParO a_x t_a_x1 t_a_x2 zT),tokE t_a_x1,tokE t_a_x2,vecE zT a_x.m.nodes] (Pt2 (λ_ _=>[isv r.1]) λu1 u2=>[boxE zW (GParO r.2 u1 u2 zT),tokE u1,tokE u2,vecE zT r.2.m.nodes]):=by
 unfold zbs at h
 refine zh Tryz.func94 e λw0 S0 hT=>ws (an e (ws (om e (zb h λy4 hy4 h=>oT (tC2 (zdD hy4) hT (s2 e e) k4 (λt5 t6=>an e (ss (om e (oV (zcL eq9 e e) (rn (zd h e (λ_ h=>?_) (λ_ h=>wk (ws (om e (zb h λy7 hy7 h=>oT (tC (zmy hy7) hT (s1 e) k0 (ar e (ze (r1 e) k4 (iS h ▸ ⟨t5,t6,e,e⟩)))))))))))))))))))
 exact ws (ar e (zx (ze (r1 e) k4 (iS h ▸ ⟨t5,t6,e,e⟩))))


theorem zgK {a_x zW t_a_x1 t_a_x2 zT r} (h:zb3 a_x=some r):Ctr Tryz.prog 146 [ptrv zW (Fld.id GParOT)] [boxE zW (GParO a_x t_a_x1 t_a_x2 zT),tokE t_a_x1,tokE t_a_x2,vecE zT a_x.m.nodes] (Pt2 (λ_ _=>[isv r.1]) λu1 u2=>[boxE zW (GParO r.2 u1 u2 zT),tokE u1,tokE u2,vecE zT r.2.m.nodes]):=by
 unfold zb3 at h
 refine zh Tryz.func146 e λw0 S0 hT=>ws (oT (zU _ ze125 λb4=>rn (ws (oV (zak (z:=(GCon.mk true false false false (0:Int) (0:Int))) e bu125 ze125 (.cons GCon.f0 zmK e hI .nil)) (oT (zU _ ze125 λb5=>oT (tS ty125 e e p0 ⟨true,false,false,false,0,0⟩ (rn (ss (om e (zb h λy6 hy6 h=>oT (tC2 (zN hy6) hT (s2 e e) (a2 (a2 (a2 (a2 k0)))) (λt7 t8=>oV (zaA e) (rn (jw h (Tok × Tok) (λq9 g9=>[]) (λq9 g9=>[boxE zW (GParO q9.1 g9.1 g9.2 zT),tokE g9.1,tokE g9.2,vecE zT q9.1.m.nodes,boxE b5 (q9.2:GCon)]) (a0 (a3 k3)) (λq9 g9 h=>?_) λJ10 h hJ10=>zd h e (λ_ h=>?_) (λ_ h=>zJ (hJ10 h (t7,t8) 0)))))))))))))))))
 ·refine zE (jw h (Tok × Tok) (λq14 g14=>[]) (λq14 g14=>[boxE zW (GParO q14.1 g14.1 g14.2 zT),tokE g14.1,tokE g14.2,vecE zT q14.1.m.nodes,boxE b5 (q14.2:GCon)]) (a0 (a3 k3)) (λq14 g14 h=>?_) λJ15 h hJ15=>zo (ws (om e (zb h λy16 hy16 h=>oT (tC2 (zN hy16) hT (s2 e e) k4 (λt17 t18=>an e (zd h e (λ_ h=>?_) (λ_ h=>ws (oV (zV e GCon.f1 zj7) (oT (tL ty4 e p4 q9.2.hasLow (an e (zd h e (λ_ h=>?_) (λ_ h=>zJ (zw (hJ15 h (t17,t18) 6))))))))))))))))
  ·refine ss (om e (zb h λy25 hy25 h=>oT (tC2 (zN hy25) hT (s2 e e) k4 (λt26 t27=>rn (jw h (Tok × Tok) (λq28 g28=>[]) (λq28 g28=>[boxE zW (GParO q28.1 g28.1 g28.2 zT),tokE g28.1,tokE g28.2,vecE zT q28.1.m.nodes,boxE b5 (q28.2:GCon)]) (a0 (a3 k3)) (λq28 g28 h=>?_) λJ29 h hJ29=>zd h e (λ_ h=>?_) (λ_ h=>zJ (hJ29 h (t26,t27) 0)))))))
   ·exact ws (oT (tL ty125 e p4 q28.2 (oT (tS ty125 e e (.there p4) q28.2 (rn (zbz (ze (.cell e .here ty125 .nil) (a1 (a1 (a1 (a1 k0)))) (iS h ▸ ⟨g28.1,g28.2,e,e⟩))))))))
   exact ws (om e (zb h λy30 hy30 h=>oT (tC2 (zae hy30) hT (s2 e e) k4 (λt31 t32=>rn (zi (oV (zV e GCon.f3 zi3) (oT (tS ty4 e e p4 ({ q14.2 with more:=true }) (zF (hJ29 h (t31,t32) 3))))))))))
  ·refine ws (om e (zb h λy19 hy19 h=>oT (tC2 (zN hy19) hT (s2 e e) k4 (λt20 t21=>oV (zaA e) (rn (zd h e (λ_ h=>?_) (λ_ h=>zJ (zw (hJ15 h (t20,t21) 6)))))))))
   exact zi (om e (zb h λy22 hy22 h=>oT (tC2 (zdI hy22) hT (s1 e) k4 (λt23 t24=>oV (zV e GCon.f2 zj9) (oT (tS ty4 e e p4 ({ q9.2 with hasHigh:=true }) (oV (zV e GCon.f5 zi5) (oT (tS ty2 e e p0 ({ { q9.2 with hasHigh:=true } with high:=y22.1 }) (rb (hJ15 h (t23,t24) 10)))))))))))
  exact zi (oV (zV e GCon.f4 ziI) (oT (tL ty2 e p4 q9.2.low (oV (zV e GCon.f2 zj9) (oT (tS ty4 e e p4 ({ q9.2 with hasHigh:=true }) (oV (zV e GCon.f5 zi5) (oT (tS ty2 e e p0 ({ { q9.2 with hasHigh:=true } with high:=q9.2.low }) (rb (hJ15 h (t17,t18) 10)))))))))))
 exact zi (om e (zb h λy11 hy11 h=>oT (tC2 (zdI hy11) hT (s1 e) k4 (λt12 t13=>oV (zV e GCon.f1 zj7) (oT (tS ty4 e e p4 ⟨true,true,false,false,0,0⟩ (oV (zV e GCon.f4 ziI) (oT (tS ty2 e e p0 ⟨true,true,false,false,y11.1,0⟩ (zF (hJ10 h (t12,t13) 4)))))))))))


theorem zfO {a_x zW t_a_x1 t_a_x2 zT r} (h:zcc a_x=some r):Ctr Tryz.prog 145 [ptrv zW (Fld.id GParOT)] [boxE zW (GParO a_x t_a_x1 t_a_x2 zT),tokE t_a_x1,tokE t_a_x2,vecE zT a_x.m.nodes] (Pt2 (λ_ _=>[isv r.1]) λu1 u2=>[boxE zW (GParO r.2 u1 u2 zT),tokE u1,tokE u2,vecE zT r.2.m.nodes]):=by
 unfold zcc at h
 refine zh Tryz.func145 e λw0 S0 hT=>ws (oT (zU _ ze125 λb4=>rn (ss (om e (zb h λy5 hy5 h=>oT (tC2 (zN hy5) hT (s2 e e) (a1 (a1 (a1 (a1 k0)))) (λt6 t7=>oV (zaA e) (rn (zd h e (λ_ h=>?_) (λ_ h=>wk (ws (om e (zb h λy8 hy8 h=>oT (tC2 (zae hy8) hT (s2 e e) k4 (λt9 t10=>rn (ws (om e (zb h λy11 hy11 h=>oT (tC2 (zae hy11) hT (s2 e e) k4 (λt12 t13=>rn (ws (om e (zb h λy14 hy14 h=>oT (tC2 (zgK hy14) hT (s1 e) k4 (λt15 t16=>oT (zU _ ze125 λb17=>oT (tS ty125 e e p0 y14.1 (zO (zaz 3 .here e) (rn ?_)))))))))))))))))))))))))))))
 ·exact ws (oV (zak (z:=(GCon.mk false false false false (0:Int) (0:Int))) e bu125 ze125 .nil) (oT (tS ty125 e e p4 ⟨false,false,false,false,0,0⟩ (rn (zbz (zx (ze (.cell e .here ty125 .nil) (a1 (a1 (a1 (a1 k0)))) (iS h ▸ ⟨t6,t7,e,e⟩))))))))
 exact ws (om e (zb h λy18 hy18 h=>oT (tC2 (zae hy18) hT (s2 e e) k4 (λt19 t20=>rn (ws (om e (zb h λy21 hy21 h=>oT (tC2 (zae hy21) hT (s2 e e) k4 (λt22 t23=>rn (ws (oV (za ty125 e) (oT (tS ty125 e e p4 y14.1 (rn (zbz (ze (.cell e .here ty125 .nil) (a1 (a1 (a1 (a1 k0)))) (iS h ▸ ⟨t22,t23,e,e⟩)))))))))))))))))


theorem zkX {a_x a_n_ zW t_a_x1 t_a_x2 zT zc7 t_a_n_4 t_a_n_5 r} (h:zcQ a_x a_n_=some r):Ctr Tryz.prog 147 [ptrv zW (Fld.id GParOT),ptrv zc7 (Fld.id GNodeOT)] [boxE zW (GParO a_x t_a_x1 t_a_x2 zT),tokE t_a_x1,tokE t_a_x2,vecE zT a_x.m.nodes,boxE zc7 (GNodeO a_n_ t_a_n_4 t_a_n_5),tokE t_a_n_4,tokE t_a_n_5] (Pt4 (λ_ _ _ _=>[]) λu1 u2 u3 u4=>[boxE zW (GParO r.1 u1 u2 zT),tokE u1,tokE u2,vecE zT r.1.m.nodes,boxE zc7 (GNodeO r.2 u3 u4),tokE u3,tokE u4]):=by
 unfold zcQ at h
 refine zh Tryz.func147 e λw0 S0 hT=>zE (jw h (Tok × Tok × Tok × Tok) (λq6 g6=>[]) (λq6 g6=>[boxE zW (GParO q6.1 g6.1 g6.2.1 zT),tokE g6.1,tokE g6.2.1,vecE zT q6.1.m.nodes,boxE zc7 (GNodeO q6.2 g6.2.2.1 g6.2.2.2),tokE g6.2.2.1,tokE g6.2.2.2]) (a0 (a3 k5)) (λq6 g6 h=>?_) λJ7 h hJ7=>zo (lP h (Tok × Tok × Tok × Tok) (t_a_x1,t_a_x2,t_a_n_4,t_a_n_5) (λq8 g8=>[]) (λq8 g8=>[boxE zW (GParO q8.1 g8.1 g8.2.1 zT),tokE g8.1,tokE g8.2.1,vecE zT q8.1.m.nodes,boxE zc7 (GNodeO q8.2 g8.2.2.1 g8.2.2.2),tokE g8.2.2.1,tokE g8.2.2.2]) zal k7 λL9 q8 g8 Q82 h hL9 eL9 rL9=>ss (om e (oV (zn e) (oV (zV e zb8 zdt) (oT (tL ty38 e p0 q8.1.e (oV (zC e e) (rn (zd h e (λ_ h=>?_) (λ_ h=>xn (eL9 _ _ (zs (hJ7 h (g8.1,g8.2.1,g8.2.2.1,g8.2.2.2) 5))))))))))))))
 ·refine ws (om e (oV (zn e) (oV (zV e zgl zgO) (oT (tL ty4 e p4 q6.2.more (oV (zaA e) (rn (zd h e (λ_ h=>?_) (λ_ h=>zJ (zaD .nil k7 (iS h ▸ ⟨g6.1,g6.2.1,g6.2.2.1,g6.2.2.2,e,e⟩)))))))))))
  exact zi (om e (om e (oV (zn e) (oV (zV e zg0 zgs) (oT (zaL (R:=appv g6.2.2.1 q6.2.items) ty126 e p4 isvT1 (oV (zl2 (l:=q6.2.items) e zz sl126) (oV (zn e) (oV (zV e zkt zhJ) (oT (tS ty3 e e p4 (GNodeO {q6.2 with root:=(q6.2.items.length:Int)} g6.2.2.1 g6.2.2.2) (zF (zaD .nil (a1 (a1 (a1 (a1 k3)))) (iS h ▸ ⟨g6.1,g6.2.1,g6.2.2.1,g6.2.2.2,e,e⟩))))))))))))))
 refine wk (zo (ss (om e (oV (zn e) (oV (zV e zg0 zgs) (oT (zaL (R:=appv g8.2.2.1 q8.2.items) ty126 e p4 isvT1 (oV (zl2 (l:=q8.2.items) e zz sl126) (oV (zbw e e) (om e (jO 6 22 h (λq46 h=>?_) λJ47 h hJ47=>oI h (λg48 h=>?_) λg48 h=>oN g48 (oN g48 (oN g48 (oN g48 (oN g48 (oV (zf e g48 e) (hJ47 h 6)))))))))))))))))
 ·refine om e (jo 3 h (Tok × Tok) (λq49 g49=>[(26,isv q49.1)]) (λq49 g49=>[boxE zW (GParO q49.2 g49.1 g49.2 zT),tokE g49.1,tokE g49.2,vecE zT q49.2.m.nodes]) k4 (λq49 g49 h=>?_) λJ50 h hJ50=>oI h (λg51 h=>?_) λg51 h=>oN g51 (oN g51 (oV (zf e g51 e) (hJ50 h (g8.1,g8.2.1) 3))))
  ·refine rn (jw h (Tok × Tok × Tok × Tok) (λq55 g55=>[]) (λq55 g55=>[boxE zW (GParO q55.1 g55.1 g55.2.1 zT),tokE g55.1,tokE g55.2.1,vecE zT q55.1.m.nodes,boxE zc7 (GNodeO q55.2 g55.2.2.1 g55.2.2.2),tokE g55.2.2.1,tokE g55.2.2.2]) (a0 (a3 k5)) (λq55 g55 h=>?_) λJ56 h hJ56=>zd h e (λ_ h=>?_) (λ_ h=>ws (om e (zb h λy57 hy57 h=>oT (tC2 (zdD hy57) hT (s2 e e) k4 (λt58 t59=>oV (zak (z:=(GItem.mk y57.1 (0:Int) false)) e bu132 ze132 (.cons GItem.f0 zkd e hI .nil)) (oT (zU _ ze132 λb60=>oT (tS ty132 e e p0 ⟨y57.1,0,false⟩ (rn (ss (om e (zb h λy61 hy61 h=>oT (tC2 (zN hy61) hT (s2 e e) (a1 (a1 (a1 (a1 k0)))) (λt62 t63=>rn (jw h (Tok × Tok) (λq64 g64=>[]) (λq64 g64=>[boxE zW (GParO q64.1 g64.1 g64.2 zT),tokE g64.1,tokE g64.2,vecE zT q64.1.m.nodes,boxE b60 (q64.2:GItem)]) (a0 (a3 k3)) (λq64 g64 h=>?_) λJ65 h hJ65=>zd h e (λ_ h=>?_) (λ_ h=>zJ (hJ65 h (t62,t63) 0))))))))))))))))))
   ·refine ws (om e (zb h λy79 hy79 h=>oT (tC2 (zN hy79) hT (s2 e e) k4 (λt80 t81=>oV (zaA e) (rn (zd h e (λ_ h=>?_) (λ_ h=>zJ (zw (hL9 h (t80,t81,g55.2.2.1,g55.2.2.2) 18)))))))))
    exact znp (zjH e (eL9 _ _ (zs (hJ7 h (t80,t81,g55.2.2.1,g55.2.2.2) 18))))
   ·exact zi (om e (om e (om e (oV (zn e) (oV (zV e zg0 zgs) (oT (zaL (R:=appv g8.2.2.1 q8.2.items) ty126 e p4 isvT1 (oV (zl2 (l:=q8.2.items) e zz sl126) (oV (zn e) (oV (zV e zgl zgO) (oT (tS ty4 e e p4 (GNodeO {q8.2 with more:=true} g8.2.2.1 g8.2.2.2) (oV (zn e) (oV (zV e zkt zhJ) (oT (tS ty3 e e p0 (GNodeO {q8.2 with root:=(q8.2.items.length:Int),more:=true} g8.2.2.1 g8.2.2.2) (zF (hJ56 h (g49.1,g49.2,g8.2.2.1,g8.2.2.2) 11))))))))))))))))))
   ·refine zez 4 (.there (.there (.there (.there .here)))) e (λo72 hn73=>zG (.v 0 (.v 1 (.v 2 (.v 3 (.v 5 (.alt 4 (.t 6 (.t 7 (.v 8 (.v 9 (.t 10 .nil))))) (.t 6 (.t 4 (.t 7 (.v 8 (.v 9 (.t 10 .nil)))))))))))) moOrd (by kernel_rfl) (rm e e (rm e e (zj e (zn e) (zj e (zV e zg0 zgs) (zj e (vP ty132 e m0 q64.2) (zR h λq76 h=>zhi ?_ (rT e (zB (l:=([q64.2]:(List GItem))) el126 (.cons e hI .nil) e e (rT e (zaL (R:=appv g8.2.2.1 q8.2.items) ty126 e p4 isvT1 (rT e (zbY (l:=q8.2.items) (m:=([q64.2]:(List GItem))) zkv e hI e zz (.there (.there (.there (.there (.there .here))))) q76 λt78=>zj e (zn e) (zj e (zV e zg0 zgs) (rT e (tR ty126 e e isvT2 (.there p4) (GNodeO {q8.2 with items:=(q8.2.items ++ ([q64.2]:(List GItem)))} t78 g8.2.2.2) e (zah (zbn 4 hn73 e (hJ56 h (g64.1,g64.2,t78,g8.2.2.2) 18)))))))))))))))))))
    exact rT e (zaL (R:=appv g8.2.2.1 q8.2.items) ty126 e p4 isvT1 (rT e (zB (l:=([q64.2]:(List GItem))) el126 (.cons e hI .nil) e e (rT e (zbY (l:=q8.2.items) (m:=([q64.2]:(List GItem))) zkv e hI e zz (.there (.there (.there (.there (.there .here))))) q76 λt75=>zj e (zn e) (zj e (zV e zg0 zgs) (rT e (tR ty126 e e isvT2 (.there p4) (GNodeO {q8.2 with items:=(q8.2.items ++ ([q64.2]:(List GItem)))} t75 g8.2.2.2) e (zah (zbn 4 hn73 e (hJ56 h (g64.1,g64.2,t75,g8.2.2.2) 18)))))))))))
   exact ws (om e (zb h λy66 hy66 h=>oT (tC2 (zdI hy66) hT (s1 e) k4 (λt67 t68=>oV (zV e GItem.f2 zks) (oT (tS ty4 e e p4 ⟨y57.1,0,true⟩ (oV (zV e GItem.f1 zdL) (oT (tS ty2 e e p0 ⟨y57.1,y66.1,true⟩ (rn (zi (om e (zb h λy69 hy69 h=>oT (tC2 (zae hy69) hT (s2 e e) (a1 (a1 (a1 (a1 k0)))) (λt70 t71=>zF (hJ65 h (t70,t71) 6))))))))))))))))
  exact oG g51 (zm e) (zb h λy52 hy52 h=>oH g51 (tC2 (zN hy52) hT (s2 e e) k4 (λt53 t54=>oV (zg e g51 e) (hJ50 h (t53,t54) 3))))
 exact oG g48 (zm e) (oG g48 (zn e) (oG g48 (zV e zgl zgO) (oH g48 (tL ty4 e p4 q8.2.more (oG g48 (zaA e) (oV (zg e g48 e) (hJ47 h 6)))))))


theorem zsF {a_s r} (h:zlQ a_s=some r):Ctr Tryz.prog 84 [isv a_s] [] (Pt [isv r] []):=by
 unfold zlQ at h
 refine zh Tryz.func84 e λw0 S0 hT=>ws (an e (ws (an e (ss (an e (zo (zhE (zaW) (lP h Tok none (λq1 g1=>[(3,appv g1 q1.1),(4,isv q1.2)]) (λq1 g1=>[tokE g1]) (zu (j:=3) e zcC (zu (j:=4) e hI zal)) k1 λL2 q1 g1 Q60 h hL2 eL2 rL2=>ss (om e (zt h λq31 h=>oV (zX e e q31) (om e (oV (zeO st9 e) (oV (zac e e) (rn (zd h e (λ_ h=>?_) (λ_ h=>xn (eL2 _ _ (zs (zp (ws (om e (ar e (ze (.as e zz .nil) k0 (iS h ▸ ⟨e,e⟩))))))))))))))))))))))))
 refine wk (zE (zo (ws (an e (ss (om e (an e (zo (lP h Unit () (λq32 g32=>[(5,isv q32.1),(6,isv q32.2)]) (λq32 g32=>[]) (zu (j:=5) e hI (zu (j:=6) e hI zal)) k0 λL33 q32 g32 Q58 h hL33 eL33 rL33=>ss (om e (om e (zt h λq46 h=>oV (zX e e q46) (oV (zac e e) (rn (zd h e (λ_ h=>?_) (λ_ h=>xn (eL33 _ _ (zs (zp (zi (om e (om e (oT (zB (l:=([q32.1]:(List UInt8))) el22 (.cons e hI .nil) e e (zR h λq56 h=>oT (zbY (l:=q1.1) (m:=([q32.1]:(List UInt8))) zkq e hI e zz .here q56 λt55=>oa e (rb ?_)))))))))))))))))))))))))))
 ·refine wk (zE (zo (ws (om e (om e (zb h λy47 hy47 h=>oV (zcR y47 st9 e e hy47) (oV (zo5 e e) (an e (ss (om e (om e (zb h λy48 hy48 h=>oV (zcR y48 st9 e e hy48) (oV (znF e e) (rn (jW 7 h (λq49 h=>?_) λJ50 h hJ50=>zd h e (λ_ h=>?_) (λ_ h=>zJ (hJ50 h 0)))))))))))))))))
  ·exact zi (om e (zR h λq52 h=>oV (zvZ e e q52) (om e (oV (zv6 e e) (oa e (rb (zp (zi (om e (zt h λq53 h=>oV (zX e e q53) (oa e (zF (hL33 h () 24)))))))))))))
  exact zi (om e (om e (zb h λy51 hy51 h=>oV (zcR y51 st9 e e hy51) (oV (zo5 e e) (oV (zqN e e) (oa e (zF (hJ50 h 6))))))))
 exact zp (zi (om e (zt h λq57 h=>oV (zX e e q57) (oa e (zF (hL2 h t55 24))))))


theorem zkQ {a_x zW t_a_x1 t_a_x2 zT r} (h:zcV a_x=some r):Ctr Tryz.prog 213 [ptrv zW (Fld.id GParOT)] [boxE zW (GParO a_x t_a_x1 t_a_x2 zT),tokE t_a_x1,tokE t_a_x2,vecE zT a_x.m.nodes] (Pt2 (λ_ _=>[isv r.1]) λu1 u2=>[boxE zW (GParO r.2 u1 u2 zT),tokE u1,tokE u2,vecE zT r.2.m.nodes]):=by
 unfold zcV at h
 refine zh Tryz.func213 e λw0 S0 hT=>ws (oT (zU _ ze26 λb4=>rn (ws (om e (zb h λy5 hy5 h=>oT (tC2 (za8 hy5) hT (s1 e) (a1 (a1 (a1 (a1 k0)))) (λt6 t7=>oT (zU _ ze80 λb8=>oT (tS ty80 e e p0 y5.1 (zO (zaz 3 .here e) (rn (zE (jw h (Tok × Tok) (λq9 g9=>[]) (λq9 g9=>[boxE zW (GParO q9 g9.1 g9.2 zT),tokE g9.1,tokE g9.2,vecE zT q9.m.nodes]) k4 (λq9 g9 h=>?_) λJ10 h hJ10=>zo (ws (om e (oV (zn e) (oV (zV e zb8 zdt) (oT (tL ty38 e p0 y5.2.e (oV (zaQ e e) (an e (zd h e (λ_ h=>?_) (λ_ h=>ws (om e (zb h λy11 hy11 h=>oT (tC2 (zN hy11) hT (s2 e e) k4 (λt12 t13=>an e (zd h e (λ_ h=>?_) (λ_ h=>ws ?_)))))))))))))))))))))))))))))
 ·exact ws (oV (zak (z:=(Val.mk (0:Int) (0:Int) ([]:(List UInt8)) ([]:(List Val)) (0:Int) ([]:(List Raw)))) e bu26 ze26 .nil) (oT (tS ty26 e e p4 ⟨0,0,[],[],0,[]⟩ (rn (zbz (ze (.cell e .here ty26 .nil) (a1 (a1 (a1 (a1 k0)))) (iS h ▸ ⟨g9.1,g9.2,e,e⟩)))))))
 ·exact zJ (zw (hJ10 h (t6,t7) 6))
 ·exact ws (oV (zak (z:=(Val.mk (1:Int) (1:Int) ([]:(List UInt8)) ([]:(List Val)) (0:Int) ([]:(List Raw)))) e bu26 ze26 (.cons Val.f0 zcw e hI (.cons Val.f1 zbd e hI .nil))) (oT (tS ty26 e e p4 ⟨1,1,[],[],0,[]⟩ (rn (zbz (bn (ze (.cell e .here ty26 .nil) (a1 (a1 (a1 (a1 k0)))) (iS h ▸ ⟨t12,t13,e,e⟩))))))))
 refine om e (zb h λy14 hy14 h=>oT (tC2 (zN hy14) hT (s2 e e) k4 (λt15 t16=>an e (zd h e (λ_ h=>?_) (λ_ h=>ws (om e (zb h λy17 hy17 h=>oT (tC2 (zN hy17) hT (s2 e e) k4 (λt18 t19=>an e (zd h e (λ_ h=>?_) (λ_ h=>ws (oV (vI e GTok.f0 zd0 y5.1.kind) (oV (za ty3 e) (oV (zC e e) (an e (zd h e (λ_ h=>?_) (λ_ h=>ws (oV (vI e GTok.f0 zd0 y5.1.kind) (oV (za ty3 e) (oV (zC e e) (an e (zd h e (λ_ h=>?_) (λ_ h=>ws (oV (vI e GTok.f0 zd0 y5.1.kind) (oV (za ty3 e) (oV (zC e e) (an e (zd h e (λ_ h=>?_) (λ_ h=>ws ?_)))))))))))))))))))))))))))))
 ·exact ws (oV (zak (z:=(Val.mk (1:Int) (0:Int) ([]:(List UInt8)) ([]:(List Val)) (0:Int) ([]:(List Raw)))) e bu26 ze26 (.cons Val.f0 zcw e hI .nil)) (oT (tS ty26 e e p4 ⟨1,0,[],[],0,[]⟩ (rn (zbz (bn (ze (.cell e .here ty26 .nil) (a1 (a1 (a1 (a1 k0)))) (iS h ▸ ⟨t15,t16,e,e⟩))))))))
 ·exact ws (oV (zak (z:=(Val.mk (4:Int) (0:Int) ([]:(List UInt8)) ([]:(List Val)) (0:Int) ([]:(List Raw)))) e bu26 ze26 (.cons Val.f0 zcw e hI .nil)) (oT (tS ty26 e e p4 ⟨4,0,[],[],0,[]⟩ (rn (zbz (bn (ze (.cell e .here ty26 .nil) (a1 (a1 (a1 (a1 k0)))) (iS h ▸ ⟨t18,t19,e,e⟩))))))))
 ·exact ws (om e (zb h λy20 hy20 h=>oT (tC2 (zct hy20) hT (s1 e) k4 (λt21 t22=>oV (zkc GTok.f1 e zfB e) (zb h λy23 hy23 h=>oT (tC (zmy hy23) hT (s1 e) k0 (oV (zak (z:=(Val.mk (2:Int) y23 ([]:(List UInt8)) ([]:(List Val)) (0:Int) ([]:(List Raw)))) e bu26 ze26 (.cons Val.f0 zcw e hI (.cons Val.f1 zbd e hI .nil))) (oT (tS ty26 e e p4 ⟨2,y23,[],[],0,[]⟩ (rn (zbz (bn (ze (.cell e .here ty26 .nil) (a1 (a1 (a1 (a1 k0)))) (iS h ▸ ⟨t21,t22,e,e⟩))))))))))))))
 ·exact ws (om e (zb h λy24 hy24 h=>oT (tC2 (zct hy24) hT (s1 e) k4 (λt25 t26=>oV (zkc GTok.f1 e zfB e) (zR h λq27 h=>oT (zwc Tryz.underlying9 Tryz.underlying22 Tryz.underlying5 e q27 (oV (zak (z:=(Val.mk (3:Int) (0:Int) y24.1.text.b ([]:(List Val)) (0:Int) ([]:(List Raw)))) e bu26 ze26 (.cons Val.f0 zcw e hI (.cons Val.f2 zbN e hI .nil))) (oT (tS ty26 e e p4 ⟨3,0,y24.1.text.b,[],0,[]⟩ (rn (zbz (bn (ze (.cell e .here ty26 .nil) (a1 (a1 (a1 (a1 k0)))) (iS h ▸ ⟨t25,t26,e,e⟩))))))))))))))
 ·exact ws (om e (zb h λy28 hy28 h=>oT (tC2 (zct hy28) hT (s1 e) k4 (λt29 t30=>oV (zkc GTok.f1 e zfB e) (zb h λy31 hy31 h=>oT (tC (zsF hy31) hT (s1 e) k0 (oV (zak (z:=(Val.mk (5:Int) (0:Int) y31 ([]:(List Val)) (0:Int) ([]:(List Raw)))) e bu26 ze26 (.cons Val.f0 zcw e hI (.cons Val.f2 zbN e hI .nil))) (oT (tS ty26 e e p4 ⟨5,0,y31,[],0,[]⟩ (rn (zbz (bn (ze (.cell e .here ty26 .nil) (a1 (a1 (a1 (a1 k0)))) (iS h ▸ ⟨t29,t30,e,e⟩))))))))))))))
 refine oV (vI e GTok.f0 zd0 y5.1.kind) (oV (za ty3 e) (oV (zC e e) (an e (zd h e (λ_ h=>?_) (λ_ h=>zi (om e (oV (za ty80 e) (zb h λy36 hy36 h=>oT (tC2 (zbM hy36) hT (s3 e e e) k4 (λt37 t38=>rb (hJ10 h (t37,t38) 34)))))))))))
 exact ws (om e (zb h λy32 hy32 h=>oT (tC2 (zct hy32) hT (s1 e) k4 (λt33 t34=>oV (zkc GTok.f1 e zfB e) (zR h λq35 h=>oT (zwc Tryz.underlying9 Tryz.underlying22 Tryz.underlying5 e q35 (oV (zak (z:=(Val.mk (6:Int) (0:Int) y32.1.text.b ([]:(List Val)) (0:Int) ([]:(List Raw)))) e bu26 ze26 (.cons Val.f0 zcw e hI (.cons Val.f2 zbN e hI .nil))) (oT (tS ty26 e e p4 ⟨6,0,y32.1.text.b,[],0,[]⟩ (rn (zbz (bn (ze (.cell e .here ty26 .nil) (a1 (a1 (a1 (a1 k0)))) (iS h ▸ ⟨t33,t34,e,e⟩))))))))))))))

end Go.Proofs.Q


namespace Go.Proofs.Q
open Go.Sy
set_option maxRecDepth 4000
def zcT (f':GPar->GNode->Int->Int->Option (GPar × GNode)):Prop :=
 ∀ {a_x a_n_ zI zeh zW t_a_x1 t_a_x2 zT zc7 t_a_n_4 t_a_n_5 r},f' a_x a_n_ zI zeh=some r->Ctr Tryz.prog 181 [ptrv zW (Fld.id GParOT),ptrv zc7 (Fld.id GNodeOT),isv zI,isv zeh] [boxE zW (GParO a_x t_a_x1 t_a_x2 zT),tokE t_a_x1,tokE t_a_x2,vecE zT a_x.m.nodes,boxE zc7 (GNodeO a_n_ t_a_n_4 t_a_n_5),tokE t_a_n_4,tokE t_a_n_5] (Pt5 (λ_ _ _ _ _=>[]) λu1 u2 u3 u4 u5=>[boxE zW (GParO r.1 u1 u2 u3),tokE u1,tokE u2,vecE u3 r.1.m.nodes,boxE zc7 (GNodeO r.2 u4 u5),tokE u4,tokE u5])
def zcU (f':GPar->Int->Option (Int × GPar)):Prop :=
 ∀ {a_x zI zW t_a_x1 t_a_x2 zT r},f' a_x zI=some r->Ctr Tryz.prog 49 [ptrv zW (Fld.id GParOT),isv zI] [boxE zW (GParO a_x t_a_x1 t_a_x2 zT),tokE t_a_x1,tokE t_a_x2,vecE zT a_x.m.nodes] (Pt3 (λ_ _ _=>[isv r.1]) λu1 u2 u3=>[boxE zW (GParO r.2 u1 u2 u3),tokE u1,tokE u2,vecE u3 r.2.m.nodes])
def zda (f':GPar->GNode->Int->Option (GPar × GNode)):Prop :=
 ∀ {a_x a_n_ zI zW t_a_x1 t_a_x2 zT zc7 t_a_n_4 t_a_n_5 r},f' a_x a_n_ zI=some r->Ctr Tryz.prog 95 [ptrv zW (Fld.id GParOT),ptrv zc7 (Fld.id GNodeOT),isv zI] [boxE zW (GParO a_x t_a_x1 t_a_x2 zT),tokE t_a_x1,tokE t_a_x2,vecE zT a_x.m.nodes,boxE zc7 (GNodeO a_n_ t_a_n_4 t_a_n_5),tokE t_a_n_4,tokE t_a_n_5] (Pt5 (λ_ _ _ _ _=>[]) λu1 u2 u3 u4 u5=>[boxE zW (GParO r.1 u1 u2 u3),tokE u1,tokE u2,vecE u3 r.1.m.nodes,boxE zc7 (GNodeO r.2 u4 u5),tokE u4,tokE u5])
def zcB (f':GPar->GNode->Int->Option (GPar × GNode)):Prop :=
 ∀ {a_x a_n_ zI zW t_a_x1 t_a_x2 zT zc7 t_a_n_4 t_a_n_5 r},f' a_x a_n_ zI=some r->Ctr Tryz.prog 148 [ptrv zW (Fld.id GParOT),ptrv zc7 (Fld.id GNodeOT),isv zI] [boxE zW (GParO a_x t_a_x1 t_a_x2 zT),tokE t_a_x1,tokE t_a_x2,vecE zT a_x.m.nodes,boxE zc7 (GNodeO a_n_ t_a_n_4 t_a_n_5),tokE t_a_n_4,tokE t_a_n_5] (Pt5 (λ_ _ _ _ _=>[]) λu1 u2 u3 u4 u5=>[boxE zW (GParO r.1 u1 u2 u3),tokE u1,tokE u2,vecE u3 r.1.m.nodes,boxE zc7 (GNodeO r.2 u4 u5),tokE u4,tokE u5])
theorem zkG {zay zaI zaH zan} (zdq:zcT zay) (zdN:zcU zaI) (zek:zda zaH) (zcA:zcB zan):zcT (zcf zay zaI zaH zan):=by
 intro a_x a_n_ zI zeh zW t_a_x1 t_a_x2 zT zc7 t_a_n_4 t_a_n_5 r h
 unfold zcf at h
 refine zh Tryz.func181 e λw0 S0 hT=>ws (om e (zb h λy6 hy6 h=>oT (tC2 (zdD hy6) hT (s2 e e) k4 (λt7 t8=>om e (oV (zak (z:=(GFld.mk y6.1 (0:Int) false false (Val.mk (0:Int) (0:Int) ([]:(List UInt8)) ([]:(List Val)) (0:Int) ([]:(List Raw))) zeh)) e bu137 ze137 (.cons GFld.f0 ziY e hI (.cons GFld.f5 ziR e hI .nil))) (oT (zU _ ze137 λb9=>oT (tS ty137 e e p0 ⟨y6.1,0,false,false,⟨0,0,[],[],0,[]⟩,zeh⟩ (rn (ws (om e (om e (zt h λq10 h=>oV (zX e e q10) (zb h λy11 hy11 h=>oT (tC3 (zdN hy11) hT (s2 e e) (a1 (a1 (a1 (a1 k0)))) (λt12 t13 v14=>oV (zV e GFld.f1 zcr) (oT (tS ty3 e e p4 ⟨y6.1,y11.1,false,false,⟨0,0,[],[],0,[]⟩,zeh⟩ (rn (zE (jw h (Tok × Tok) (λq15 g15=>[]) (λq15 g15=>[boxE b9 (q15.1:GFld),boxE zW (GParO q15.2 g15.1 g15.2 v14),tokE g15.1,tokE g15.2,vecE v14 q15.2.m.nodes]) k5 (λq15 g15 h=>?_) λJ16 h hJ16=>zo (ws (om e (oV (zn e) (oV (zV e zdu zcF) (oT (tL ty3 e (.there p4) a_n_.kind (oV (zC e e) (an e ?_)))))))))))))))))))))))))))))
 ·refine zez 8 .here e (λo26 hn27=>zG (.v 0 (.v 1 (.v 2 (.v 3 (.v 5 (.alt 4 (.t 6 (.t 7 (.v 8 (.v 9 (.t 10 .nil))))) (.t 6 (.t 4 (.t 7 (.v 8 (.v 9 (.t 10 .nil)))))))))))) moOrd (by kernel_rfl) (rm e e (rm e e (zj e (zn e) (zj e (zV e zig zeL) (zj e (vP ty137 e m0 q15.1) (zR h λq30 h=>zhi ?_ (rT e (zB (l:=([q15.1]:(List GFld))) el127 (.cons e hI .nil) e e (rT e (zaL (R:=appv t_a_n_5 a_n_.fields) ty127 e p4 isvT1 (rT e (zbY (l:=a_n_.fields) (m:=([q15.1]:(List GFld))) zme e hI e zz (.there (.there (.there (.there (.there (.there .here)))))) q30 λt32=>zj e (zn e) (zj e (zV e zig zeL) (rT e (tR ty127 e e isvT2 (.there p4) (GNodeO {a_n_ with fields:=(a_n_.fields ++ ([q15.1]:(List GFld)))} t_a_n_4 t32) e (zah (zbn 8 hn27 e (zaD .nil (a3 (a3 (a3 (a3 (a1 (a2 (a1 k0))))))) (iS h ▸ ⟨g15.1,g15.2,v14,t_a_n_4,t32,e,e⟩))))))))))))))))))))
  exact rT e (zaL (R:=appv t_a_n_5 a_n_.fields) ty127 e p4 isvT1 (rT e (zB (l:=([q15.1]:(List GFld))) el127 (.cons e hI .nil) e e (rT e (zbY (l:=a_n_.fields) (m:=([q15.1]:(List GFld))) zme e hI e zz (.there (.there (.there (.there (.there (.there .here)))))) q30 λt29=>zj e (zn e) (zj e (zV e zig zeL) (rT e (tR ty127 e e isvT2 (.there p4) (GNodeO {a_n_ with fields:=(a_n_.fields ++ ([q15.1]:(List GFld)))} t_a_n_4 t29) e (zah (zbn 8 hn27 e (zaD .nil (a3 (a3 (a3 (a3 (a1 (a2 (a1 k0))))))) (iS h ▸ ⟨g15.1,g15.2,v14,t_a_n_4,t29,e,e⟩))))))))))))
 refine zd h e (λ_ h=>?_) (λ_ h=>ws (om e (zb h λy17 hy17 h=>oT (tC2 (zN hy17) hT (s2 e e) (a1 (a1 (a1 (a1 k0)))) (λt18 t19=>an e (zd h e (λ_ h=>?_) (λ_ h=>ws (om e (zb h λy20 hy20 h=>oT (tC2 (zN hy20) hT (s2 e e) k4 (λt21 t22=>an e (zd h e (λ_ h=>?_) (λ_ h=>zJ (zw (hJ16 h (t21,t22) 12)))))))))))))))
 ·exact zJ (zw (hJ16 h (t12,t13) 6))
 ·exact zi (oV (zV e GFld.f2 zj6) (oT (tS ty4 e e p4 ⟨y6.1,y11.1,true,false,⟨0,0,[],[],0,[]⟩,zeh⟩ (rb (hJ16 h (t18,t19) 10)))))
 exact zi (om e (zb h λy23 hy23 h=>oT (tC2 (zkQ hy23) hT (s1 e) k4 (λt24 t25=>oV (zV e GFld.f3 zgT) (oT (tS ty4 e e p4 ⟨y6.1,y11.1,false,true,⟨0,0,[],[],0,[]⟩,zeh⟩ (oV (zV e GFld.f4 zly) (oT (tS ty26 e e p0 ⟨y6.1,y11.1,false,true,y23.1,zeh⟩ (rb (hJ16 h (t24,t25) 16)))))))))))

theorem zlP {zay zaI zaH zan} (zdq:zcT zay) (zdN:zcU zaI) (zek:zda zaH) (zcA:zcB zan):zcU (zcS zay zaI zaH zan):=by
 intro a_x zI zW t_a_x1 t_a_x2 zT r h
 unfold zcS at h
 refine zh Tryz.func49 e λw0 S0 hT=>ws (an e (ss (om e (oV (zn e) (oV (zV e zb8 zdt) (oT (tL ty38 e p0 a_x.e (oV (zaQ e e) (rn (zd h e (λ_ h=>?_) (λ_ h=>wk (ss (om e (zb h λy4 hy4 h=>oT (tC2 (za8 hy4) hT (s1 e) k4 (λt5 t6=>zb h λy7 hy7 h=>oT (tC (zpl hy7) hT (s1 e) k0 (oV (zaA e) (rn (zd h e (λ_ h=>?_) (λ_ h=>wk (ss (om e (oV (zbw e e) (om e (jO 8 32 h (λq14 h=>?_) λJ15 h hJ15=>oI h (λg16 h=>?_) λg16 h=>oG g16 (zm e) (oG g16 (zn e) ?_)))))))))))))))))))))))))))
 ·exact ws (ar e (zx (ze (r1 e) k4 (iS h ▸ ⟨t_a_x1,t_a_x2,zT,e,e⟩))))
 ·exact ws (om e (om e (zb h λy8 hy8 h=>oT (tC2 (za8 hy8) hT (s1 e) k4 (λt9 t10=>zb h λy11 hy11 h=>oT (tC2 (zbM hy11) hT (s3 e e e) k4 (λt12 t13=>rn (ws (ar e (zx (ze (r1 e) k4 (iS h ▸ ⟨t12,t13,zT,e,e⟩))))))))))))
 ·refine rn (zd h e (λ_ h=>?_) (λ_ h=>wk (ws (om e (oV (zn e) (oV (zV e zdb zem) (oV (zV e zju ziK) (oT (zaL (R:=vecv zT (y4.2.m.nodes.length)) ty55 e p0 isvV1 (oV (zhg sl55 e) (an e (ws (om e (om e (oV (zn e) (oV (zV e zdb zem) (oV (zV e zju ziK) (oT (zaL (R:=vecv zT (y4.2.m.nodes.length)) ty55 e p0 isvV1 (oV (zak (z:=(GNode.mk (0:Int) (Str.mk []) (GMark.mk false (0:Int) (0:Int)) (GCon.mk false false false false (0:Int) (0:Int)) ([]:(List GItem)) ([]:(List GFld)) (0:Int) false (0:Int))) e bu174 ze174 .nil) (oT (zB (l:=([(GNode.mk (0:Int) (Str.mk []) (GMark.mk false (0:Int) (0:Int)) (GCon.mk false false false false (0:Int) (0:Int)) ([]:(List GItem)) ([]:(List GFld)) (0:Int) false (0:Int))]:(List GNode))) el55 (.cons e hI .nil) e e (zR h λq25 h=>oT (zkk (m:=([(GNode.mk (0:Int) (Str.mk []) (GMark.mk false (0:Int) (0:Int)) (GCon.mk false false false false (0:Int) (0:Int)) ([]:(List GItem)) ([]:(List GFld)) (0:Int) false (0:Int))]:(List GNode))) zuP e e zz (.there (.there (.there .here))) (by first | rfl | simp) q25 λv24=>oV (zn e) (oV (zV e zdb zem) (oV (zV e zju ziK) (oT (tR ty55 e e isvV2 p1 (GParO {y4.2 with m:={y4.2.m with nodes:=(y4.2.m.nodes ++ ([⟨0,⟨[]⟩,⟨false,0,0⟩,⟨false,false,false,false,0,0⟩,[],[],0,false,0⟩]:(List GNode)))}} t5 t6 v24) e (rn (ws (oV (zak (z:=(((0:Int),(Str.mk []),(GMark.mk false (0:Int) (0:Int)),(GCon.mk false false false false (0:Int) (0:Int)),(TList.mk none ([]:(List GItem))),(TList.mk none ([]:(List GFld))),(0:Int),false,(0:Int)):GNodeOT)) e bu174 zrK .nil) (oT (zU _ zrK λb26=>?_)))))))))))))))))))))))))))))))))
  ·exact ws (om e (om e (zb h λy17 hy17 h=>oT (tC2 (za8 hy17) hT (s1 e) k4 (λt18 t19=>zb h λy20 hy20 h=>oT (tC2 (zbM hy20) hT (s3 e e e) k4 (λt21 t22=>rn (ws (ar e (zx (ze (r1 e) k4 (iS h ▸ ⟨t21,t22,zT,e,e⟩))))))))))))
  refine zO (zaW) (zO (zaW) (zO (zaW) (zO (zaW) (oT (tS ty174 e e p4 (0,⟨[]⟩,⟨false,0,0⟩,⟨false,false,false,false,0,0⟩,⟨none,[]⟩,⟨none,[]⟩,0,false,0) (rn (ss (om e (zb h λy31 hy31 h=>oT (tC2 (zN hy31) hT (s2 e e) (.cons (.there p4) (.cons (.there (.there p4)) (.cons (.there (.there p4)) (.cons (.there p4) k0)))) (λt32 t33=>rn (jw h (Tok × Tok × Tok × Tok) (λq34 g34=>[]) (λq34 g34=>[boxE zW (GParO q34.1 g34.1 g34.2.1 v24),tokE g34.1,tokE g34.2.1,vecE v24 q34.1.m.nodes,boxE b26 (GNodeO q34.2 g34.2.2.1 g34.2.2.2),tokE g34.2.2.1,tokE g34.2.2.2]) (a0 (a3 k5)) (λq34 g34 h=>?_) λJ35 h hJ35=>zd h e (λ_ h=>?_) (λ_ h=>zJ (hJ35 h (t32,t33,none,none) 0))))))))))))))
  ·refine ws (om e (om e (zb h λy63 hy63 h=>oT (tC5 (zek hy63) hT (s3 e e e) k7 (λt64 t65 v66 t67 t68=>rn (ss (om e (oV (zn e) (oV (zV e zb8 zdt) (oT (tL ty38 e p0 y63.1.e (oV (zaQ e e) (rn (zd h e (λ_ h=>?_) (λ_ h=>wk (zE (zez 6 (.there (.there (.there (.there .here)))) e (λo69 hn70=>zez 0 .here e (λo71 hn72=>zG (.v 0 (.v 1 (.v 2 (.v 3 (.v 4 (.v 5 (.v 6 (.v 7 (.t 8 .nil))))))))) moOrd (by kernel_rfl) (rm e e (zj e (zcq e) (zj e (zif e zdb zem) (zj e (zif e zju ziK) (zj e (zrE (R:=vecv v66 (y63.1.m.nodes.length)) ty55 e m0 isvV1) (rm e e (zj e (vP ty174 e m1 (GNodeO y63.2 t67 t68)) (zhT (zaS (R':=isv y63.2) 105 e (Cv.isv e λS=>(λcs h=>GNode.cv (x:=y63.2) cs (((Cv.pair Cv.id (Cv.pair Cv.id (Cv.pair Cv.id (Cv.pair Cv.id (Cv.pair Cv.tl (Cv.pair Cv.tl (Cv.pair Cv.id (Cv.pair Cv.id Cv.id)))))))):Cv S (GNodeO y63.2 t67 t68) (GNode.to y63.2)) cs h)))) (zad h λq73 h=>zj e (zdi (α:=GNode) sl55 e e q73.1 q73.2) (zb h λy74 hy74 h=>?_)))))))))))))))))))))))))))))
   ·exact ws (ar e (zx (ze (r1 e) k4 (iS h ▸ ⟨t64,t65,v66,e,e⟩))))
   exact rT e (zgC ty174 e e (.there (.there .here)) hy74 (zah (zbn 0 hn72 e (zuJ (zkn (y:=(GParO {y63.1 with m:={y63.1.m with nodes:=(y63.1.m.nodes.set (((y4.2.m.nodes.length:Nat):Int).toNat) y63.2)}} t64 t65 v66)) .here (λS=>(Cv.pair Cv.id (Cv.pair Cv.id (Cv.pair (Cv.pair Cv.id (Cv.pair Cv.id (Cv.pair Cv.id (Cv.pair Cv.id (Cv.vhe (by first | rfl | simp)))))) (Cv.pair Cv.id Cv.id)))))) (zbn 6 hn70 e (zp (ws (om e (ar e (ze (r1 e) (a1 (a2 (a2 (a1 k0)))) (iS h ▸ ⟨t64,t65,v66,e,e⟩)))))))))))
  refine ws (om e (zb h λy36 hy36 h=>oT (tC2 (za8 hy36) hT (s1 e) k4 (λt37 t38=>oT (zU _ ze80 λb39=>oT (tS ty80 e e p0 y36.1 (zO (zaz 7 .here e) (rn (ws (om e (zb h λy40 hy40 h=>oT (tC2 (zdI hy40) hT (s1 e) k4 (λt41 t42=>an e (ss (om e (oV (zn e) (oV (zV e zb8 zdt) (oT (tL ty38 e p0 y40.2.e (oV (zC e e) (om e (jO 7 74 h (λq43 h=>?_) λJ44 h hJ44=>oI h (λg45 h=>?_) λg45 h=>oN g45 (oN g45 (oN g45 (oU (oU (oN g45 (oV (zf e g45 e) (hJ44 h 7)))))))))))))))))))))))))))))
  ·refine rn (jw h (Tok × Tok) (λq49 g49=>[]) (λq49 g49=>[boxE zW (GParO q49 g49.1 g49.2 v24),tokE g49.1,tokE g49.2,vecE v24 q49.m.nodes]) k4 (λq49 g49 h=>?_) λJ50 h hJ50=>zd h e (λ_ h=>?_) (λ_ h=>zJ (hJ50 h (t41,t42) 0)))
   ·refine ws (om e (zb h λy54 hy54 h=>oT (tC2 (zae hy54) hT (s2 e e) k4 (λt55 t56=>rn (ws (om e (oV (zak (z:=(GMark.mk true y40.1 (0:Int))) e bu172 ze172 (.cons GMark.f0 zpc e hI (.cons GMark.f1 zrF e hI .nil))) (oV (zV e zmp zhC) (oT (tS ty172 e e p4 (0,⟨[]⟩,⟨true,y40.1,0⟩,⟨false,false,false,false,0,0⟩,⟨none,[]⟩,⟨none,[]⟩,0,false,0) (rn (ws (om e (zb h λy57 hy57 h=>oT (tC2 (zN hy57) hT (s2 e e) (a1 (a1 (a1 (a1 k0)))) (λt58 t59=>rn (zd h e (λ_ h=>?_) (λ_ h=>ws (om e (zb h λy60 hy60 h=>oT (tC2 (zN hy60) hT (s2 e e) k4 (λt61 t62=>rn (zd h e (λ_ h=>?_) (λ_ h=>zJ (hJ35 h (t61,t62,none,none) 23)))))))))))))))))))))))))
    ·exact zi (oV (zV e zmp zhC) (oV (zV e GMark.f2 zmJ) (oT (tS ty3 e e p4 (0,⟨[]⟩,⟨true,y40.1,1⟩,⟨false,false,false,false,0,0⟩,⟨none,[]⟩,⟨none,[]⟩,0,false,0) (zF (hJ35 h (t58,t59,none,none) 23))))))
    exact zi (oV (zV e zmp zhC) (oV (zV e GMark.f2 zmJ) (oT (tS ty3 e e p4 (0,⟨[]⟩,⟨true,y40.1,2⟩,⟨false,false,false,false,0,0⟩,⟨none,[]⟩,⟨none,[]⟩,0,false,0) (zF (hJ35 h (t61,t62,none,none) 25))))))
   exact zi (om e (oV (za ty80 e) (zb h λy51 hy51 h=>oT (tC2 (zbM hy51) hT (s3 e e e) k4 (λt52 t53=>zF (hJ50 h (t52,t53) 3))))))
  refine oG g45 (zm e) (oG g45 (zac e e) (oG g45 (zm e) (jO 3 73 h (λq46 h=>?_) λJ47 h hJ47=>oI h (λg48 h=>?_) λg48 h=>oG g48 (zm e) (oG g48 (zbw e e) (oG g45 (zf e g48 e) (hJ47 h 3))))))
  ·exact oV (zg e g45 e) (hJ44 h 5)
  exact oN g48 (oN g48 (oG g45 (zg e g48 e) (hJ47 h 3)))
 ·exact oN g16 (oN g16 (oN g16 (oN g16 (oN g16 (oN g16 (oN g16 (oV (zg e g16 e) (hJ15 h 8))))))))
 exact oG g16 (zV e zdb zem) (oG g16 (zV e zju ziK) (oH g16 (zaL (R:=vecv zT (y4.2.m.nodes.length)) ty55 e p0 isvV1 (oG g16 (zhg sl55 e) (oG g16 (zcY e e) (oV (zf e g16 e) (hJ15 h 8)))))))

theorem zkS {zay zaI zaH zan} (zdq:zcT zay) (zdN:zcU zaI) (zek:zda zaH) (zcA:zcB zan):zda (zcv zay zaI zaH zan):=by
 intro a_x a_n_ zI zW t_a_x1 t_a_x2 zT zc7 t_a_n_4 t_a_n_5 r h
 unfold zcv at h
 refine zh Tryz.func95 e λw0 S0 hT=>ws (om e (zb h λy6 hy6 h=>oT (tC2 (za8 hy6) hT (s1 e) k4 (λt7 t8=>oT (zU _ ze80 λb9=>oT (tS ty80 e e p0 y6.1 (zO (zaz 6 .here e) (rn (zo (ws (om e (oV (zn e) (oV (zV e zb8 zdt) (oT (tL ty38 e p0 y6.2.e (oV (zaQ e e) (an e (zd h e (λ_ h=>?_) (λ_ h=>ws (om e (zb h λy10 hy10 h=>oT (tC2 (zN hy10) hT (s2 e e) k4 (λt11 t12=>an e (zd h e (λ_ h=>?_) (λ_ h=>ws (om e (zb h λy13 hy13 h=>oT (tC2 (zN hy13) hT (s2 e e) k4 (λt14 t15=>an e (zd h e (λ_ h=>?_) (λ_ h=>?_)))))))))))))))))))))))))))))))
 ·exact zJ (zw (zaD .nil k7 (iS h ▸ ⟨t7,t8,zT,t_a_n_4,t_a_n_5,e,e⟩)))
 ·exact zi (om e (oV (zn e) (oV (zV e zdu zcF) (oT (tS ty3 e e p4 (GNodeO {a_n_ with kind:=1} t_a_n_4 t_a_n_5) (rb (zaD .nil (a1 (a1 (a1 (a1 k3)))) (iS h ▸ ⟨t11,t12,zT,t_a_n_4,t_a_n_5,e,e⟩))))))))
 ·exact zi (om e (oV (zn e) (oV (zV e zdu zcF) (oT (tS ty3 e e p4 (GNodeO {a_n_ with kind:=4} t_a_n_4 t_a_n_5) (rb (zaD .nil (a1 (a1 (a1 (a1 k3)))) (iS h ▸ ⟨t14,t15,zT,t_a_n_4,t_a_n_5,e,e⟩))))))))
 refine ws (om e (zb h λy16 hy16 h=>oT (tC2 (zN hy16) hT (s2 e e) k4 (λt17 t18=>an e (zd h e (λ_ h=>?_) (λ_ h=>ws (om e (zb h λy22 hy22 h=>oT (tC2 (zN hy22) hT (s2 e e) k4 (λt23 t24=>an e (zd h e (λ_ h=>?_) (λ_ h=>ws (om e (zb h λy34 hy34 h=>oT (tC2 (zN hy34) hT (s2 e e) k4 (λt35 t36=>an e (zd h e (λ_ h=>?_) (λ_ h=>ws (om e (zb h λy43 hy43 h=>oT (tC2 (zN hy43) hT (s2 e e) k4 (λt44 t45=>an e (zd h e (λ_ h=>?_) (λ_ h=>ws (om e (zb h λy57 hy57 h=>oT (tC2 (zN hy57) hT (s2 e e) k4 (λt58 t59=>an e (zd h e (λ_ h=>?_) (λ_ h=>?_))))))))))))))))))))))))))))))
 ·exact ws (om e (oV (zn e) (oV (zV e zdu zcF) (oT (tS ty3 e e p4 (GNodeO {a_n_ with kind:=6} t_a_n_4 t_a_n_5) (rn (zi (om e (om e (zb h λy19 hy19 h=>oT (tC2 (zfO hy19) hT (s1 e) (a1 (a1 (a1 (a1 k0)))) (λt20 t21=>oV (zn e) (oV (zV e zkh zj2) (oT (tS ty125 e e p4 (GNodeO {a_n_ with kind:=6,con:=y19.1} t_a_n_4 t_a_n_5) (rb (zaD .nil (a1 (a1 (a1 (a1 k3)))) (iS h ▸ ⟨t20,t21,zT,t_a_n_4,t_a_n_5,e,e⟩))))))))))))))))))
 ·refine ws (om e (oV (zn e) (oV (zV e zdu zcF) (oT (tS ty3 e e p4 (GNodeO {a_n_ with kind:=2} t_a_n_4 t_a_n_5) (rn (ws (om e (zb h λy25 hy25 h=>oT (tC2 (zN hy25) hT (s2 e e) (a1 (a1 (a1 (a1 k0)))) (λt26 t27=>rn (zd h e (λ_ h=>?_) (λ_ h=>zJ (zw (zaD .nil k7 (iS h ▸ ⟨t26,t27,zT,t_a_n_4,t_a_n_5,e,e⟩))))))))))))))))
  exact ws (om e (om e (zb h λy28 hy28 h=>oT (tC2 (zgK hy28) hT (s1 e) k4 (λt29 t30=>oV (zn e) (oV (zV e zkh zj2) (oT (tS ty125 e e p4 (GNodeO {a_n_ with kind:=2,con:=y28.1} t_a_n_4 t_a_n_5) (rn (zi (om e (zb h λy31 hy31 h=>oT (tC2 (zae hy31) hT (s2 e e) (a1 (a1 (a1 (a1 k0)))) (λt32 t33=>rb (zaD .nil k7 (iS h ▸ ⟨t32,t33,zT,t_a_n_4,t_a_n_5,e,e⟩))))))))))))))))
 ·exact ws (om e (zb h λy37 hy37 h=>oT (tC2 (zae hy37) hT (s2 e e) k4 (λt38 t39=>rn (ws (om e (oV (zn e) (oV (zV e zdu zcF) (oT (tS ty3 e e p4 (GNodeO {a_n_ with kind:=5} t_a_n_4 t_a_n_5) (rn (zi (om e (om e (zb h λy40 hy40 h=>oT (tC2 (zfO hy40) hT (s1 e) (a1 (a1 (a1 (a1 k0)))) (λt41 t42=>oV (zn e) (oV (zV e zkh zj2) (oT (tS ty125 e e p4 (GNodeO {a_n_ with kind:=5,con:=y40.1} t_a_n_4 t_a_n_5) (rb (zaD .nil (a1 (a1 (a1 (a1 k3)))) (iS h ▸ ⟨t41,t42,zT,t_a_n_4,t_a_n_5,e,e⟩)))))))))))))))))))))))
 ·exact ws (om e (oV (zn e) (oV (zV e zdu zcF) (oT (tS ty3 e e p4 (GNodeO {a_n_ with kind:=3} t_a_n_4 t_a_n_5) (rn (ws (om e (zb h λy46 hy46 h=>oT (tC2 (zae hy46) hT (s2 e e) (a1 (a1 (a1 (a1 k0)))) (λt47 t48=>rn (ws (om e (om e (zb h λy49 hy49 h=>oT (tC4 (zkX hy49) hT (s2 e e) k7 (λt50 t51 t52 t53=>rn (zi (om e (zb h λy54 hy54 h=>oT (tC2 (zae hy54) hT (s2 e e) k4 (λt55 t56=>rb (zaD .nil k7 (iS h ▸ ⟨t55,t56,zT,t52,t53,e,e⟩))))))))))))))))))))))))
 ·exact ws (om e (oV (zn e) (oV (zV e zdu zcF) (oT (tS ty3 e e p4 (GNodeO {a_n_ with kind:=8} t_a_n_4 t_a_n_5) (rn (ws (om e (zb h λy60 hy60 h=>oT (tC2 (zae hy60) hT (s2 e e) (a1 (a1 (a1 (a1 k0)))) (λt61 t62=>rn (zi (om e (om e (om e (zb h λy63 hy63 h=>oT (tC5 (zcA hy63) hT (s3 e e e) k7 (λt64 t65 v66 t67 t68=>rb (zaD .nil k7 (iS h ▸ ⟨t64,t65,v66,t67,t68,e,e⟩))))))))))))))))))))
 refine ws (om e (zb h λy69 hy69 h=>oT (tC2 (zN hy69) hT (s2 e e) k4 (λt70 t71=>an e (zd h e (λ_ h=>?_) (λ_ h=>ws (om e (zb h λy81 hy81 h=>oT (tC2 (zN hy81) hT (s2 e e) k4 (λt82 t83=>an e (zd h e (λ_ h=>?_) (λ_ h=>ws (oV (vI e GTok.f0 zd0 y6.1.kind) (oV (za ty3 e) (oV (zC e e) (an e (zd h e (λ_ h=>?_) (λ_ h=>zi (om e (oV (za ty80 e) (zb h λy107 hy107 h=>oT (tC2 (zbM hy107) hT (s3 e e e) k4 (λt108 t109=>rb (zaD .nil k7 (iS h ▸ ⟨t108,t109,zT,t_a_n_4,t_a_n_5,e,e⟩)))))))))))))))))))))))))
 ·exact ws (om e (oV (zn e) (oV (zV e zdu zcF) (oT (tS ty3 e e p4 (GNodeO {a_n_ with kind:=9} t_a_n_4 t_a_n_5) (rn (ws (om e (zb h λy72 hy72 h=>oT (tC2 (zae hy72) hT (s2 e e) (a1 (a1 (a1 (a1 k0)))) (λt73 t74=>rn (zi (om e (om e (om e (zb h λy75 hy75 h=>oT (tC5 (zcA hy75) hT (s3 e e e) k7 (λt76 t77 v78 t79 t80=>rb (zaD .nil k7 (iS h ▸ ⟨t76,t77,v78,t79,t80,e,e⟩))))))))))))))))))))
 ·refine ss (om e (zb h λy84 hy84 h=>oT (tC2 (zN hy84) hT (s2 e e) k4 (λt85 t86=>rn (zd h e (λ_ h=>?_) (λ_ h=>wk (ws (om e (oV (zn e) (oV (zV e zdu zcF) (oT (tS ty3 e e p4 (GNodeO {a_n_ with kind:=10} t_a_n_4 t_a_n_5) (rn (ws (om e (om e (zb h λy93 hy93 h=>oT (tC2 (zfO hy93) hT (s1 e) (a1 (a1 (a1 (a1 k0)))) (λt94 t95=>oV (zn e) (oV (zV e zkh zj2) (oT (tS ty125 e e p4 (GNodeO {a_n_ with kind:=10,con:=y93.1} t_a_n_4 t_a_n_5) (rn (ws (om e (zb h λy96 hy96 h=>oT (tC2 (zae hy96) hT (s2 e e) (a1 (a1 (a1 (a1 k0)))) (λt97 t98=>rn (zi (om e (om e ?_)))))))))))))))))))))))))))))))
  ·exact ws (om e (oV (zn e) (oV (zV e zdu zcF) (oT (tS ty3 e e p4 (GNodeO {a_n_ with kind:=7} t_a_n_4 t_a_n_5) (rn (ws (om e (om e (om e (zb h λy87 hy87 h=>oT (tC5 (zcA hy87) hT (s3 e e e) (a1 (a1 (a1 (a1 k3)))) (λt88 t89 v90 t91 t92=>rn (zbz (zx (zbP (ze .nil k7 (iS h ▸ ⟨t88,t89,v90,t91,t92,e,e⟩))))))))))))))))))
  exact om e (zt h λq99 h=>oV (zX e e q99) (zb h λy100 hy100 h=>oT (tC3 (zdN hy100) hT (s2 e e) k4 (λt101 t102 v103=>oV (zn e) (oV (zV e zsy zpe) (oT (tS ty3 e e p4 (GNodeO {a_n_ with kind:=10,con:=y93.1,of:=y100.1} t_a_n_4 t_a_n_5) (rb (zaD .nil (a1 (a1 (a1 (a1 k3)))) (iS h ▸ ⟨t101,t102,v103,t_a_n_4,t_a_n_5,e,e⟩))))))))))
 exact zE (zG (.v 0 (.v 1 (.v 2 (.v 3 (.v 4 (.v 5 (.t 6 (.v 7 (.v 8 (.t 9 .nil)))))))))) moOrd (by kernel_rfl) (rm e e (rm e e (zj e (vI e GTok.f1 zfB y6.1.text) (zj e (za ty9 e) (zj e (zn e) (zj e (zV e zdu zcF) (rT e (tS ty3 e e p4 (GNodeO {a_n_ with kind:=11} t_a_n_4 t_a_n_5) (zj e (zn e) (zj e (zV e zsE zoX) (rT e (tS ty9 e e p0 (GNodeO {a_n_ with kind:=11,name:=y6.1.text} t_a_n_4 t_a_n_5) (zah (zp (zi (om e (zb h λy104 hy104 h=>oT (tC2 (zct hy104) hT (s1 e) (a1 (a1 (a1 (a1 k0)))) (λt105 t106=>rb (zaD .nil k7 (iS h ▸ ⟨t105,t106,zT,t_a_n_4,t_a_n_5,e,e⟩))))))))))))))))))))))

theorem zjG {zay zaI zaH zan} (zdq:zcT zay) (zdN:zcU zaI) (zek:zda zaH) (zcA:zcB zan):zcB (zb0 zay zaI zaH zan):=by
 intro a_x a_n_ zI zW t_a_x1 t_a_x2 zT zc7 t_a_n_4 t_a_n_5 r h
 unfold zb0 at h
 refine zh Tryz.func148 e λw0 S0 hT=>ss (om e (zb h λy6 hy6 h=>oT (tC2 (zN hy6) hT (s2 e e) k4 (λt7 t8=>rn (zd h e (λ_ h=>?_) (λ_ h=>wk (ws (an e (zE (jw h (Tok × Tok × Vt × Tok × Tok) (λq9 g9=>[(6,anyv)]) (λq9 g9=>[boxE zW (GParO q9.1 g9.1 g9.2.1 g9.2.2.1),tokE g9.1,tokE g9.2.1,vecE g9.2.2.1 (q9.1.m.nodes:List GNode),boxE zc7 (GNodeO q9.2 g9.2.2.2.1 g9.2.2.2.2),tokE g9.2.2.2.1,tokE g9.2.2.2.2]) (a0 (a3 k5)) (λq9 g9 h=>?_) λJ10 h hJ10=>zo (lP h (Tok × Tok × Vt × Tok × Tok) (t7,t8,zT,t_a_n_4,t_a_n_5) (λq11 g11=>[(6,isv q11.1)]) (λq11 g11=>[boxE zW (GParO q11.2.1 g11.1 g11.2.1 g11.2.2.1),tokE g11.1,tokE g11.2.1,vecE g11.2.2.1 (q11.2.1.m.nodes:List GNode),boxE zc7 (GNodeO q11.2.2 g11.2.2.2.1 g11.2.2.2.2),tokE g11.2.2.2.1,tokE g11.2.2.2.2]) (zu (j:=6) e hI zal) k7 λL12 q11 g11 Q113 h hL12 eL12 rL12=>ss (om e (oV (zn e) (oV (zV e zb8 zdt) (oT (tL ty38 e p0 q11.2.1.e (oV (zC e e) (rn (zd h e (λ_ h=>?_) (λ_ h=>xn (eL12 _ _ (zs (hJ10 h (g11.1,g11.2.1,g11.2.2.1,g11.2.2.2.1,g11.2.2.2.2) 6)))))))))))))))))))))))
 ·exact zbz (zx (ze .nil k7 (iS h ▸ ⟨t7,t8,zT,t_a_n_4,t_a_n_5,e,e⟩)))
 ·refine ws (om e (zb h λy114 hy114 h=>oT (tC2 (zae hy114) hT (s2 e e) k4 (λt115 t116=>rn (ws (om e (oV (zn e) (oV (zV e zgl zgO) (oT (tL ty4 e p4 q9.2.more (oV (zaA e) (rn (zd h e (λ_ h=>?_) (λ_ h=>zJ (zaD .nil k7 (iS h ▸ ⟨t115,t116,g9.2.2.1,g9.2.2.2.1,g9.2.2.2.2,e,e⟩))))))))))))))))
  exact zi (om e (om e (oV (zn e) (oV (zV e zig zeL) (oT (zaL (R:=appv g9.2.2.2.2 q9.2.fields) ty127 e p4 isvT1 (oV (zl2 (l:=q9.2.fields) e zz sl127) (oV (zn e) (oV (zV e zkt zhJ) (oT (tS ty3 e e p4 (GNodeO {q9.2 with root:=(q9.2.fields.length:Int)} g9.2.2.2.1 g9.2.2.2.2) (zF (zaD .nil (a1 (a1 (a1 (a1 k3)))) (iS h ▸ ⟨t115,t116,g9.2.2.1,g9.2.2.2.1,g9.2.2.2.2,e,e⟩))))))))))))))
 refine wk (zo (zE (jw h (Tok × Tok × Vt × Tok × Tok) (λq63 g63=>[(6,isv q63.1)]) (λq63 g63=>[boxE zW (GParO q63.2.1 g63.1 g63.2.1 g63.2.2.1),tokE g63.1,tokE g63.2.1,vecE g63.2.2.1 (q63.2.1.m.nodes:List GNode),boxE zc7 (GNodeO q63.2.2 g63.2.2.2.1 g63.2.2.2.2),tokE g63.2.2.2.1,tokE g63.2.2.2.2]) (a0 (a3 k5)) (λq63 g63 h=>?_) λJ64 h hJ64=>zo (ws (om e (oV (zn e) (oV (zV e zgl zgO) (oT (tL ty4 e p4 q11.2.2.more (oV (zaA e) (om e (jo 3 h (Tok × Tok) (λq65 g65=>[(27,isv q65.1)]) (λq65 g65=>[boxE zW (GParO q65.2 g65.1 g65.2 g11.2.2.1),tokE g65.1,tokE g65.2,vecE g11.2.2.1 (q65.2.m.nodes:List GNode)]) k4 (λq65 g65 h=>?_) λJ66 h hJ66=>oI h (λg67 h=>?_) λg67 h=>oN g67 (oN g67 (oV (zf e g67 e) (hJ66 h (g11.1,g11.2.1) 3)))))))))))))))
 ·refine ws (om e (zb h λy110 hy110 h=>oT (tC2 (zN hy110) hT (s2 e e) k4 (λt111 t112=>oV (zaA e) (rn (zd h e (λ_ h=>?_) (λ_ h=>zJ (zw (hL12 h (t111,t112,g63.2.2.1,g63.2.2.2.1,g63.2.2.2.2) 10)))))))))
  exact znp (zjH e (eL12 _ _ (zs (hJ10 h (t111,t112,g63.2.2.1,g63.2.2.2.1,g63.2.2.2.2) 10))))
 ·refine an e (zd h e (λ_ h=>?_) (λ_ h=>ws (om e (oV (zn e) (oV (zV e zgl zgO) (oT (tL ty4 e p4 q11.2.2.more (om e (jo 3 h (Tok × Tok) (λq71 g71=>[(47,isv q71.1)]) (λq71 g71=>[boxE zW (GParO q71.2 g71.1 g71.2 g11.2.2.1),tokE g71.1,tokE g71.2,vecE g11.2.2.1 (q71.2.m.nodes:List GNode)]) k4 (λq71 g71 h=>?_) λJ72 h hJ72=>oI h (λg73 h=>?_) λg73 h=>oN g73 (oN g73 (oV (zf e g73 e) (hJ72 h (g65.1,g65.2) 3))))))))))))
  ·exact zi (om e (om e (om e (oV (zn e) (oV (zV e zig zeL) (oT (zaL (R:=appv g11.2.2.2.2 q11.2.2.fields) ty127 e p4 isvT1 (oV (zl2 (l:=q11.2.2.fields) e zz sl127) (oV (zn e) (oV (zV e zgl zgO) (oT (tS ty4 e e p4 (GNodeO {q11.2.2 with more:=true} g11.2.2.2.1 g11.2.2.2.2) (oV (zn e) (oV (zV e zkt zhJ) (oT (tS ty3 e e p0 (GNodeO {q11.2.2 with root:=(q11.2.2.fields.length:Int),more:=true} g11.2.2.2.1 g11.2.2.2.2) (rb (hJ64 h (g65.1,g65.2,g11.2.2.1,g11.2.2.2.1,g11.2.2.2.2) 19))))))))))))))))))
  ·refine an e (zd h e (λ_ h=>?_) (λ_ h=>zi (om e (om e (om e (zb h λy104 hy104 h=>oT (tC5 (zdq hy104) hT (s4 e e e e) k7 (λt105 t106 v107 t108 t109=>rb (hJ64 h (t105,t106,v107,t108,t109) 19)))))))))
   refine ws (om e (zt h λq77 h=>oV (zX e e q77) (an e (zE (jw h (Tok × Tok × Vt × Tok × Tok) (λq78 g78=>[]) (λq78 g78=>[boxE zW (GParO q78.1 g78.1 g78.2.1 g78.2.2.1),tokE g78.1,tokE g78.2.1,vecE g78.2.2.1 (q78.1.m.nodes:List GNode),boxE zc7 (GNodeO q78.2 g78.2.2.2.1 g78.2.2.2.2),tokE g78.2.2.2.1,tokE g78.2.2.2.2]) (a0 (a3 k5)) (λq78 g78 h=>?_) λJ79 h hJ79=>zo (lP h (Tok × Tok × Vt × Tok × Tok) (g71.1,g71.2,g11.2.2.1,g11.2.2.2.1,g11.2.2.2.2) (λq80 g80=>[]) (λq80 g80=>[boxE zW (GParO q80.1 g80.1 g80.2.1 g80.2.2.1),tokE g80.1,tokE g80.2.1,vecE g80.2.2.1 (q80.1.m.nodes:List GNode),boxE zc7 (GNodeO q80.2 g80.2.2.2.1 g80.2.2.2.2),tokE g80.2.2.2.1,tokE g80.2.2.2.2]) zal k7 λL81 q80 g80 Q100 h hL81 eL81 rL81=>ss (om e (oV (zn e) (oV (zV e zb8 zdt) (oT (tL ty38 e p0 q80.1.e (oV (zC e e) (rn (zd h e (λ_ h=>?_) (λ_ h=>xn (eL81 _ _ (zs (hJ79 h (g80.1,g80.2.1,g80.2.2.1,g80.2.2.2.1,g80.2.2.2.2) 5))))))))))))))))))
   ·exact zi (om e (zb h λy101 hy101 h=>oT (tC2 (zae hy101) hT (s2 e e) k4 (λt102 t103=>rb (hJ64 h (t102,t103,g78.2.2.1,g78.2.2.2.1,g78.2.2.2.2) 20)))))
   refine wk (zo (ws (om e (om e (om e (om e (zb h λy91 hy91 h=>oT (tC5 (zdq hy91) hT (s4 e e e e) k7 (λt92 t93 v94 t95 t96=>rn (ws (om e (zb h λy97 hy97 h=>oT (tC2 (zN hy97) hT (s2 e e) k4 (λt98 t99=>oV (zaA e) (rn (zd h e (λ_ h=>?_) (λ_ h=>zJ (zw (hL81 h (t98,t99,v94,t95,t96) 13)))))))))))))))))))
   exact znp (zjH e (eL81 _ _ (zs (hJ79 h (t98,t99,v94,t95,t96) 13))))
  exact oG g73 (zm e) (zb h λy74 hy74 h=>oH g73 (tC2 (zN hy74) hT (s2 e e) k4 (λt75 t76=>oV (zg e g73 e) (hJ72 h (t75,t76) 3))))
 exact oG g67 (zm e) (zb h λy68 hy68 h=>oH g67 (tC2 (zN hy68) hT (s2 e e) k4 (λt69 t70=>oV (zg e g67 e) (hJ66 h (t69,t70) 3))))

theorem zfF:∀ n,zcT (zbo n)/\zcU (za2 n)/\zda (zbC n)/\zcB (zba n)
  | 0=>⟨λh=>(by cases h),λh=>(by cases h),λh=>(by cases h),λh=>(by cases h)⟩
  | n + 1=>by
    obtain ⟨h0,h1,h2,h3⟩:=zfF n
    exact ⟨zkG h0 h1 h2 h3,zlP h0 h1 h2 h3,zkS h0 h1 h2 h3,zjG h0 h1 h2 h3⟩
theorem zmi (n:Nat):zcU (za2 n):=(zfF n).2.1
theorem zqq {zbV r} (h:zeJ zbV=some r):Ctr Tryz.prog 22 [isv zbV] [] (Pt [isv r.1,isv r.2.1,isv r.2.2] []):=by
 unfold zeJ at h
 refine zh Tryz.func22 e λw0 S0 hT=>ws (oT (zU _ ze57 λb1=>oa e (an e (ws (om e (zb h λy2 hy2 h=>oT (tC (zoV hy2) hT (s1 e) k0 (om e (oV (zD e e) (oV (zD e e) (oV (zD e e) (oa e (oa e (an e (ss (om e (oV (zaQ e e) (rn (zd h e (λ_ h=>?_) (λ_ h=>wk (ws (om e (oV (zak (z:=((y2.1,(0:Int),((Str.mk []),(0:Int),(TList.mk none ([]:(List Str))),(TList.mk none ([]:(List Int))),(Vh.mk none 0)),(0:Int),(0:Int)):GParOT)) e bu105 zu0 (.cons zkm zmS e hI .nil)) (oT (zma (y:=((y2.1,(0:Int),((Str.mk []),(0:Int),(TList.mk none ([]:(List Str))),(TList.mk none ([]:(List Int))),(Vh.mk none 0)),(0:Int),(0:Int)):GParOT)) e hI λb3=>zO (zaW) (zO (zaW) (zO (ze2 (α:=GNode)) (an e ?_))))))))))))))))))))))))))))
 ·exact ws (oV (zak (z:=(GMod.mk (Str.mk []) (0:Int) ([]:(List Str)) ([]:(List Int)) ([]:(List GNode)))) e bu57 ze57 .nil) (om e (om e (oT (tS ty57 e e p0 ⟨⟨[]⟩,0,[],[],[]⟩ (oa e (ar e (zx (ze (.cell e .here ty57 (.tmp e (.tmp e .nil))) k0 (iS h ▸ ⟨e,e⟩))))))))))
 refine ws (om e (om e (zb h λy7 hy7 h=>oT (tC2 (zdD hy7) hT (s2 e e) (a3 (a2 (a1 k1))) (λt8 t9=>oV (zn e) (oV (zV e zdb zem) (oV (zV e zut ztN) (oT (tS ty9 e e p0 (GParO {y7.2 with m:={y7.2.m with name:=y7.1}} t8 t9 none) (rn (ws (om e (zb h λy10 hy10 h=>oT (tC2 (zae hy10) hT (s2 e e) k4 (λt11 t12=>rn (zE (jw h (Tok × Tok) (λq13 g13=>[]) (λq13 g13=>[boxE b3 (GParO q13 g13.1 g13.2 none),tokE g13.1,tokE g13.2,vecE none q13.m.nodes]) k4 (λq13 g13 h=>?_) λJ14 h hJ14=>zo (ws (om e (zb h λy15 hy15 h=>oT (tC2 (zN hy15) hT (s2 e e) k4 (λt16 t17=>an e (zd h e (λ_ h=>?_) (λ_ h=>ws (om e (zb h λy21 hy21 h=>oT (tC2 (zN hy21) hT (s2 e e) k4 (λt22 t23=>an e (zd h e (λ_ h=>?_) (λ_ h=>?_))))))))))))))))))))))))))))))
 ·refine ws (om e (zb h λy33 hy33 h=>oT (tC2 (zae hy33) hT (s2 e e) k4 (λt34 t35=>rn (ws (om e (zb h λy36 hy36 h=>oT (tC2 (zae hy36) hT (s2 e e) k4 (λt37 t38=>rn (zE (zo (lP h (Tok × Tok × Vt) (t37,t38,none) (λq39 g39=>[]) (λq39 g39=>[boxE b3 (GParO q39 g39.1 g39.2.1 g39.2.2),tokE g39.1,tokE g39.2.1,vecE g39.2.2 (q39.m.nodes:List GNode)]) zal k4 λL40 q39 g39 Q141 h hL40 eL40 rL40=>ss (om e (oV (zn e) (oV (zV e zb8 zdt) (oT (tL ty38 e p0 q39.e (oV (zC e e) (om e (jo 4 h (Tok × Tok) (λq91 g91=>[(70,isv q91.1)]) (λq91 g91=>[boxE b3 (GParO q91.2 g91.1 g91.2 g39.2.2),tokE g91.1,tokE g91.2,vecE g39.2.2 (q91.2.m.nodes:List GNode)]) k4 (λq91 g91 h=>?_) λJ92 h hJ92=>oI h (λg93 h=>?_) λg93 h=>oN g93 (oN g93 (oN g93 (oV (zf e g93 e) (hJ92 h (g39.1,g39.2.1) 4))))))))))))))))))))))))
  ·refine rn (zd h e (λ_ h=>?_) (λ_ h=>xn (eL40 _ _ (zs (zp (ss (om e (oV (zn e) (oV (zV e zb8 zdt) (oT (tL ty38 e p0 q91.2.e (oV (zC e e) (om e (jo 5 h (Tok × Tok) (λq125 g125=>[(130,isv q125.1)]) (λq125 g125=>[boxE b3 (GParO q125.2 g125.1 g125.2 g39.2.2),tokE g125.1,tokE g125.2,vecE g39.2.2 (q125.2.m.nodes:List GNode)]) k4 (λq125 g125 h=>?_) λJ126 h hJ126=>oI h (λg127 h=>?_) λg127 h=>oN g127 (oN g127 (oN g127 (oN g127 (oV (zf e g127 e) (hJ126 h (g91.1,g91.2) 5)))))))))))))))))))
   ·refine wk (zo (ws (om e (zb h λy97 hy97 h=>oT (tC2 (za8 hy97) hT (s1 e) k4 (λt98 t99=>oT (zU _ ze80 λb100=>oT (tS ty80 e e p0 y97.1 (zO (zaz 9 .here e) (rn (ws (om e (zb h λy101 hy101 h=>oT (tC2 (zdD hy101) hT (s2 e e) k4 (λt102 t103=>an e (ss (om e (oV (zn e) (oV (zV e zb8 zdt) (oT (tL ty38 e p0 y101.2.e (oV (zC e e) (om e (jO 8 88 h (λq104 h=>?_) λJ105 h hJ105=>oI h (λg106 h=>?_) λg106 h=>oN g106 (oN g106 (oN g106 (oN g106 (oN g106 (oN g106 ?_)))))))))))))))))))))))))))))
    ·refine rn (jw h (Tok × Tok) (λq107 g107=>[]) (λq107 g107=>[boxE b3 (GParO q107 g107.1 g107.2 g39.2.2),tokE g107.1,tokE g107.2,vecE g39.2.2 (q107.m.nodes:List GNode)]) k4 (λq107 g107 h=>?_) λJ108 h hJ108=>zd h e (λ_ h=>?_) (λ_ h=>zJ (hJ108 h (t102,t103) 0)))
     ·refine ws (om e (zb h λy112 hy112 h=>oT (tC2 (zae hy112) hT (s2 e e) k4 (λt113 t114=>rn (ws (om e (zb h λy115 hy115 h=>oT (tC3 (zmi fuel hy115) hT (s2 e e) k4 (λt116 t117 v118=>an e (ws (om e (om e (oV (zn e) (oV (zV e zdb zem) (oV (zV e znH zfY) (oT (zaL (R:=appv t116 y115.2.m.names) ty27 e p0 isvT1 (om e (oT (zB (l:=([y101.1]:(List Str))) el27 (.cons e hI .nil) e e (zR h λq121 h=>oT (zbY (l:=y115.2.m.names) (m:=([y101.1]:(List Str))) zpg e hI e zz (.there .here) q121 λt120=>oV (zn e) (oV (zV e zdb zem) (oV (zV e znH zfY) (oT (tR ty27 e e isvT2 p1 (GParO {y115.2 with m:={y115.2.m with names:=(y115.2.m.names ++ ([y101.1]:(List Str)))}} t120 t117 v118) e (rn (zi (om e (om e (oV (zn e) ?_)))))))))))))))))))))))))))))))
      exact oV (zV e zdb zem) (oV (zV e zqr znN) (oT (zaL (R:=appv t117 y115.2.m.types) ty28 e p0 isvT1 (om e (oT (zB (l:=([y115.1]:(List Int))) el28 (.cons e hI .nil) e e (zR h λq124 h=>oT (zbY (l:=y115.2.m.types) (m:=([y115.1]:(List Int))) zeY e hI e zz (.there (.there .here)) q124 λt123=>oV (zn e) (oV (zV e zdb zem) (oV (zV e zqr znN) (oT (tR ty28 e e isvT2 p1 (GParO {y115.2 with m:={y115.2.m with names:=(y115.2.m.names ++ ([y101.1]:(List Str))),types:=(y115.2.m.types ++ ([y115.1]:(List Int)))}} t120 t123 v118) e (rb (hL40 h (t120,t123,v118) 50))))))))))))))
     exact zi (om e (oV (za ty80 e) (zb h λy109 hy109 h=>oT (tC2 (zbM hy109) hT (s3 e e e) k4 (λt110 t111=>zF (hJ108 h (t110,t111) 3))))))
    ·exact oG g106 (zm e) (oG g106 (zn e) (oG g106 (zV e zdb zem) (oG g106 (zV e znH zfY) (oH g106 (zaL (R:=appv t102 y101.2.m.names) ty27 e p0 isvT1 (oG g106 (zl2 (l:=y101.2.m.names) e zz sl27) (oG g106 (zcY e e) (oV (zg e g106 e) (hJ105 h 8)))))))))
    exact oN g106 (oV (zf e g106 e) (hJ105 h 8))
   ·refine rn (jw h (Tok × Tok) (λq131 g131=>[]) (λq131 g131=>[boxE b3 (GParO q131 g131.1 g131.2 g39.2.2),tokE g131.1,tokE g131.2,vecE g39.2.2 (q131.m.nodes:List GNode)]) k4 (λq131 g131 h=>?_) λJ132 h hJ132=>zd h e (λ_ h=>?_) (λ_ h=>zJ (hJ132 h (g125.1,g125.2) 0)))
    ·refine ss (om e (oV (zn e) (oV (zV e zb8 zdt) (oT (tL ty38 e p0 q131.e (oV (zaQ e e) (rn (zd h e (λ_ h=>?_) (λ_ h=>wk (ws (om e (oV (zn e) (oV (zV e zdb zem) (zO (ztf (y:=((q131.l,q131.at_,(q131.m.name,q131.m.tagging,(TList.mk g131.1 q131.m.names),(TList.mk g131.2 q131.m.types),q131.m.nodes),q131.e,q131.p):((List GTok) × Int × (Str × Int × (TList Str) × (TList Int) × (List GNode)) × Int × Int))) (.there (.there (.there .here))) .here (λS hv=>(Cv.pair Cv.id (Cv.pair Cv.id (Cv.pair (Cv.pair Cv.id (Cv.pair Cv.id (Cv.pair Cv.id (Cv.pair Cv.id (Cv.vh hv (by first | rfl | simp)))))) (Cv.pair Cv.id Cv.id)))))) (zO (zaS (R':=ptrv b3 ((Fld.id (((List GTok) × Int × (Str × Int × (TList Str) × (TList Int) × (List GNode)) × Int × Int))).comp zsH)) 151 e hI) (oT (zaL (y:=((q131.l,q131.at_,(q131.m.name,q131.m.tagging,(TList.mk g131.1 q131.m.names),(TList.mk g131.2 q131.m.types),q131.m.nodes),q131.e,q131.p):((List GTok) × Int × (Str × Int × (TList Str) × (TList Int) × (List GNode)) × Int × Int))) (R:=isv (((q131.m.name,q131.m.tagging,(TList.mk g131.1 q131.m.names),(TList.mk g131.2 q131.m.types),q131.m.nodes)):((Str × Int × (TList Str) × (TList Int) × (List GNode))))) ty57 e .here (by exact hI) (zO (zaS (R':=isv q131.m) 152 e (Cv.isv e λS=>(λcs h=>GMod.cv (x:=q131.m) cs (((Cv.pair Cv.id (Cv.pair Cv.id (Cv.pair Cv.tl (Cv.pair Cv.tl Cv.id)))):Cv S ((q131.m.name,q131.m.tagging,(TList.mk g131.1 q131.m.names),(TList.mk g131.2 q131.m.types),q131.m.nodes):(Str × Int × (TList Str) × (TList Int) × (List GNode))) (GMod.to q131.m)) cs h)))) (oT (tS ty57 e e p3 q131.m (oa e (ar e (ze (.cell e .here ty57 (.tmp e (.tmp e .nil))) k0 (iS h ▸ ⟨e,e⟩))))))))))))))))))))))))
     exact zE (zez 8 .here e (λo139 hn140=>zG (.v 0 (.v 1 (.v 2 (.v 3 (.v 4 (.v 5 (.v 6 (.v 7 (.v 8 (.t 9 (.v 10 (.v 11 .nil)))))))))))) moOrd (by kernel_rfl) (zj e (zak (z:=(GMod.mk (Str.mk []) (0:Int) ([]:(List Str)) ([]:(List Int)) ([]:(List GNode)))) e bu57 ze57 .nil) (rm e e (zj e (zcq e) (zj e (zif e zoe zr2) (zj e (vP ty3 e m0 q131.p) (rm e e (zj e (zcq e) (zj e (zif e zb8 zdt) (zj e (vP ty38 e m0 q131.e) (rT e (tS ty57 e e p3 ⟨⟨[]⟩,0,[],[],[]⟩ (zj e (zar e) (zj e (zar e) (zah (zbn 8 hn140 e (zp (zbz (zx (ze (.cell e (.there .here) ty57 (.tmp e (.tmp e .nil))) k0 (iS h ▸ ⟨e,e⟩))))))))))))))))))))))
    exact zi (om e (om e (zb h λy133 hy133 h=>oT (tC2 (za8 hy133) hT (s1 e) k4 (λt134 t135=>zb h λy136 hy136 h=>oT (tC2 (zbM hy136) hT (s3 e e e) k4 (λt137 t138=>zF (hJ132 h (t137,t138) 4))))))))
   exact oG g127 (zm e) (zb h λy128 hy128 h=>oH g127 (tC2 (za8 hy128) hT (s1 e) k4 (λt129 t130=>oG g127 (zkc GTok.f0 e zd0 e) (oG g127 (zaQ e e) (oV (zg e g127 e) (hJ126 h (t129,t130) 5))))))
  exact oG g93 (zm e) (zb h λy94 hy94 h=>oH g93 (tC2 (zN hy94) hT (s2 e e) k4 (λt95 t96=>oG g93 (zaA e) (oV (zg e g93 e) (hJ92 h (t95,t96) 4)))))
 ·exact zi (om e (zb h λy18 hy18 h=>oT (tC2 (zae hy18) hT (s2 e e) k4 (λt19 t20=>rb (hJ14 h (t19,t20) 5)))))
 ·exact ws (om e (oV (zn e) (oV (zV e zdb zem) (oV (zV e zqk zpp) (oT (tS ty3 e e p0 (GParO {y21.2 with m:={y21.2.m with tagging:=1}} t22 t23 none) (rn (zi (om e (zb h λy24 hy24 h=>oT (tC2 (zae hy24) hT (s2 e e) k4 (λt25 t26=>rb (hJ14 h (t25,t26) 12)))))))))))))
 refine ws (om e (zb h λy27 hy27 h=>oT (tC2 (zN hy27) hT (s2 e e) k4 (λt28 t29=>an e (zd h e (λ_ h=>?_) (λ_ h=>zJ (zw (hJ14 h (t28,t29) 9))))))))
 exact ws (om e (oV (zn e) (oV (zV e zdb zem) (oV (zV e zqk zpp) (oT (tS ty3 e e p0 (GParO {y27.2 with m:={y27.2.m with tagging:=2}} t28 t29 none) (rn (zi (om e (zb h λy30 hy30 h=>oT (tC2 (zae hy30) hT (s2 e e) k4 (λt31 t32=>rb (hJ14 h (t31,t32) 15)))))))))))))

end Go.Proofs.Q


namespace Go.Proofs.Q
open Go.Sy
set_option maxRecDepth 4000
theorem ziE {a_m zoP r} (h:ziw a_m zoP=some r):Ctr Tryz.prog 100 [isv a_m,isv zoP] [] (Pt [isv r] []):=by
 unfold ziw at h
 refine zh Tryz.func100 e λw0 S0 hT=>ws (oT (tB e (an e (ss (an e (zo (lO 5 h e λL2 q1 Q7 h hL2 eL2 rL2=>ss (om e (oV (vI e GMod.f2 zfY a_m.names) (oV (za ty27 e) (oV (vN e sl27) (oV (zac e e) (rn (zd h e (λ_ h=>?_) (λ_ h=>xn (eL2 _ _ (zs (zp (ws (ar e (ze (r1 e) k0 (iS h ▸ ⟨e,e⟩))))))))))))))))))))))
 refine wk (zE (zo (ws (oV (vI e GMod.f2 zfY a_m.names) (oV (za ty27 e) (om e (zb h λy5 hy5 h=>oV (vX e e sl27 hy5) (oV (za ty9 e) (om e (oV (zcL eq9 e e) (rn (zd h e (λ_ h=>?_) (λ_ h=>zJ (zw (zp (zi (om e (zt h λq6 h=>oV (zX e e q6) (oa e (zF (hL2 h 16)))))))))))))))))))))
 exact ws (om e (ar e (bn (rL2 _ (bn (ze (r1 e) k0 (iS h ▸ ⟨e,e⟩)))))))


theorem ziX {a_l a_x r} (h:zgD a_l a_x=some r):Ctr Tryz.prog 99 [isv a_l,isv a_x] [] (Pt [isv r] []):=by
 unfold zgD at h
 refine zh Tryz.func99 e λw0 S0 hT=>ws (an e (ss (an e (zo (lO 5 h e λL2 q1 Q7 h hL2 eL2 rL2=>ss (om e (om e (oV (vN e sl28) (oV (zac e e) (rn (zd h e (λ_ h=>?_) (λ_ h=>xn (eL2 _ _ (zs (zp (ws (ar e (ze (r1 e) k0 (iS h ▸ ⟨e,e⟩)))))))))))))))))))
 refine wk (zE (zo (ws (om e (om e (zb h λy5 hy5 h=>oV (vX e e sl28 hy5) (oV (za ty3 e) (om e (oV (zC e e) (rn (zd h e (λ_ h=>?_) (λ_ h=>zJ (zw (zp (zi (om e (zt h λq6 h=>oV (zX e e q6) (oa e (zF (hL2 h 14))))))))))))))))))))
 exact ws (ar e (bn (rL2 _ (bn (ze (r1 e) k0 (iS h ▸ ⟨e,e⟩))))))


def zi2 (f':GMod->Int->Int->(List Int)->Option ((List Int) × Bool)):Prop :=
 ∀ {a_m zk6 zI a_l t_a_l r},f' a_m zk6 zI a_l=some r->Ctr Tryz.prog 97 [isv a_m,isv zk6,isv zI,appv t_a_l a_l] [tokE t_a_l] (Pt1 (λu1=>[appv u1 r.1,isv r.2]) λu1=>[tokE u1])
theorem zqg {zic} (znP:zi2 zic):zi2 (ze8 zic):=by
 intro a_m zk6 zI a_l t_a_l r h
 unfold ze8 at h
 refine zh Tryz.func97 e λw0 S0 hT=>ws (oT (tB e (oa e (an e (ss (om e (oV (zac e e) (om e (jO 6 24 h (λq1 h=>?_) λJ2 h hJ2=>oI h (λg3 h=>?_) λg3 h=>oG g3 (zm e) (oG g3 (vI e GMod.f4 ziK a_m.nodes) (oG g3 (za ty55 e) (oG g3 (vN e sl55) (oG g3 (zcY e e) (oV (zf e g3 e) (hJ2 h 6)))))))))))))))
 ·refine om e (jO 3 28 h (λq4 h=>?_) λJ5 h hJ5=>oI h (λg6 h=>?_) λg6 h=>oG g6 (zm e) (oG g6 (zbw e e) (oV (zf e g6 e) (hJ5 h 3))))
  ·refine rn (zd h e (λ_ h=>?_) (λ_ h=>wk (ws (oV (vI e GMod.f4 ziK a_m.nodes) (oV (za ty55 e) (om e (zb h λy7 hy7 h=>oV (vX e e sl55 hy7) (oV (za ty174 e) (oT (zU _ ze174 λb8=>oT (tS ty174 e e p0 y7 (zO (zaz 10 .here e) (rn (ss (oV (vI e GNode.f0 zcF y7.kind) (oV (za ty3 e) (oV (zC e e) (rn (zd h e (λ_ h=>?_) (λ_ h=>wk (ws (an e (ss (an e (zo (lP h Tok t_a_l (λq16 g16=>[(3,appv g16 q16.1),(12,isv q16.2.1),(13,isv q16.2.2)]) (λq16 g16=>[tokE g16]) (zu (j:=3) e hI (zu (j:=12) e hI (zu (j:=13) e hI zal))) k1 λL17 q16 g16 Q44 h hL17 eL17 rL17=>ss (om e (oV (vI e GNode.f5 zeL y7.fields) ?_))))))))))))))))))))))))))))
   ·exact ws (om e (oa e (ar e (zx (ze (r2 e e) k1 (iS h ▸ ⟨t_a_l,e,e⟩))))))
   ·refine ws (oV (za ty57 e) (oV (vI e GNode.f1 zoX y7.name) (oV (za ty9 e) (zb h λy9 hy9 h=>oT (tC (ziE hy9) hT (s2 e e) k0 (an e (ss (om e (oV (zac e e) (rn (zd h e (λ_ h=>?_) (λ_ h=>wk (ss (om e (om e (zb h λy10 hy10 h=>oT (tC (ziX hy10) hT (.cons e zz (.same e .nil)) k0 (oV (zaA e) (rn (jw h Tok (λq11 g11=>[(3,appv g11 q11)]) (λq11 g11=>[tokE g11]) k1 (λq11 g11 h=>?_) λJ12 h hJ12=>zd h e (λ_ h=>?_) (λ_ h=>zJ (hJ12 h t_a_l 0))))))))))))))))))))))
    ·exact ws (om e (oa e (ar e (zx (zx (ze (r2 e e) k1 (iS h ▸ ⟨t_a_l,e,e⟩)))))))
    ·exact ws (om e (oa e (ar e (zx (ze (r2 e e) k1 (iS h ▸ ⟨g11,e,e⟩))))))
    exact zi (om e (om e (oT (zB (l:=([y9]:(List Int))) el28 (.cons e hI .nil) e e (zR h λq15 h=>oT (zbY (l:=a_l) (m:=([y9]:(List Int))) zeY e hI e zz .here q15 λt14=>oa e (zF (hJ12 h t14 5))))))))
   refine oV (za ty127 e) (oV (vN e sl127) (oV (zac e e) (rn (zd h e (λ_ h=>?_) (λ_ h=>xn (eL17 _ _ (zs (zp (ss (oV (vI e GNode.f0 zcF y7.kind) (oV (za ty3 e) (oV (zC e e) (rn (jw h Tok (λq36 g36=>[(3,appv g36 q36.1),(12,isv q36.2)]) (λq36 g36=>[tokE g36]) k1 (λq36 g36 h=>?_) λJ37 h hJ37=>zd h e (λ_ h=>?_) (λ_ h=>zJ (hJ37 h g16 0))))))))))))))))
   ·refine wk (zE (zo (ws (an e (zE (zG (.v 0 (.v 1 (.v 2 (.v 3 (.v 4 (.v 5 (.v 6 (.v 7 (.v 8 (.v 9 (.t 10 (.v 11 (.v 12 (.v 13 (.v 14 (.v 15 .nil)))))))))))))))) moOrd (by kernel_rfl) (zj e (za ty57 e) (zj e (vI e GNode.f5 zeL y7.fields) (zj e (za ty127 e) (rm e e (zb h λy28 hy28 h=>zj e (vX e e sl127 hy28) (zj e (vI e GFld.f1 zcr y28.ty) (zj e (za ty3 e) (rm e e (zt h λq29 h=>zj e (zX e e q29) (rm e e (zb h λy30 hy30 h=>rT e (tC1 (znP hy30) hT (s4 e e e e) k1 (λt31=>rm e e (zj e (zD e e) (zj e (zD e e) (zj e (zar e) (zj e (zar e) (zah (zp (zi (om e ?_)))))))))))))))))))))))))))
    refine om e (jO 2 78 h (λq32 h=>?_) λJ33 h hJ33=>oI h (λg34 h=>?_) λg34 h=>oG g34 (zm e) (oV (zf e g34 e) (hJ33 h 2)))
    ·exact oa e (rb (zp (zi (om e (zt h λq35 h=>oV (zX e e q35) (oa e (zF (hL17 h t31 32))))))))
    exact oN g34 (oV (zg e g34 e) (hJ33 h 2))
   ·exact ws (om e (om e (oa e (ar e (ze (r2 e e) k1 (iS h ▸ ⟨g36,e,e⟩))))))
   refine ws (an e (ws (oV (za ty57 e) (oV (vI e GNode.f8 zpe y7.of) (oV (za ty3 e) (om e (zt h λq38 h=>oV (zX e e q38) (om e (zb h λy39 hy39 h=>oT (tC1 (znP hy39) hT (s4 e e e e) k1 (λt40=>om e (oV (zD e e) (oV (zD e e) (oa e (an e (zi (om e (om e (jO 2 95 h (λq41 h=>?_) λJ42 h hJ42=>oI h (λg43 h=>?_) λg43 h=>oG g43 (zm e) (oV (zf e g43 e) (hJ42 h 2)))))))))))))))))))))
   ·exact oa e (zF (hJ37 h t40 17))
   exact oN g43 (oV (zg e g43 e) (hJ42 h 2))
  exact oN g6 (oN g6 (oV (zg e g6 e) (hJ5 h 3)))
 exact oN g3 (oN g3 (oN g3 (oN g3 (oN g3 (oV (zg e g3 e) (hJ2 h 6))))))

theorem zjL:∀ n,zi2 (zhl n)
  | 0=>λh=>(by cases h)
  | n + 1=>zqg (zjL n)
theorem zqV (n:Nat):zi2 (zhl n):=(zjL n)

theorem zpE {zlY zgS a_to r} (h:zin zlY zgS a_to=some r):Ctr Tryz.prog 98 [isv zlY,isv zgS,isv a_to] [] (Pt [isv r] []):=by
 unfold zin at h
 refine zh Tryz.func98 e λw0 S0 hT=>ws (an e (ws (oT (zB (l:=([]:(List Int))) el28 .nil e e (an e (ws (om e (om e (zb h λy2 hy2 h=>oV (vX e e sl178 hy2) (oV (za ty28 e) (zR h λq4 h=>oT (zl5 (m:=y2) zeY e e hI q4 λt3=>an e (zE (zo (zhE (zaW) (lP h (Tok × Tok) (none,t3) (λq5 g5=>[(7,appv g5.1 q5.1),(8,appv g5.2 q5.2)]) (λq5 g5=>[tokE g5.1,tokE g5.2]) (zu (j:=7) e hI (zu (j:=8) e hI zal)) k2 λL6 q5 g5 Q27 h hL6 eL6 rL6=>ss (om e (oV (zl2 (l:=q5.2) e zz sl28) (oV (zbw e e) (rn (zd h e (λ_ h=>?_) (λ_ h=>xn (eL6 _ _ (zs (zp (ws ?_))))))))))))))))))))))))))
 ·refine wk (zo (ws (om e (zb h λy17 hy17 h=>oV (zlL (l:=q5.2) e zz e sl28 hy17) (oV (za ty3 e) (an e (ws (om e (zad h λq18 h=>oT (zv9 e sl28 e q18.1 q18.2 (.there .here) λt19=>an e (ss (om e (om e (oV (zC e e) (rn (zd h e (λ_ h=>?_) (λ_ h=>wk (ws (om e (om e (zb h λy20 hy20 h=>oT (tC (ziX hy20) hT (.cons e zz (.same e .nil)) k0 (oV (zaA e) (rn (zd h e (λ_ h=>?_) (λ_ h=>zJ (zw ?_)))))))))))))))))))))))))))
  ·exact ws (ar e (zx (zbP (rL6 _ (bn (ze (r1 e) k0 (iS h ▸ ⟨e,e⟩)))))))
  ·exact ws (om e (om e (oT (zB (l:=([y17]:(List Int))) el28 (.cons e hI .nil) e e (zR h λq23 h=>oT (zbY (l:=q5.1) (m:=([y17]:(List Int))) zeY e hI e zz (.there .here) q23 λt22=>an e (zi (om e (om e (om e (zb h λy24 hy24 h=>oV (vX e e sl178 hy24) (oV (za ty28 e) (zR h λq26 h=>oT (zbY (l:=(q5.2.drop ((1:Int)).toNat)) (m:=y24) zeY e hI e hI (.there .here) q26 λt25=>oa e (rb (hL6 h (t22,t25) 31))))))))))))))))
  exact hL6 h (g5.1,t19) 19
 exact ar e (ze (r1 e) k0 (iS h ▸ ⟨e,e⟩))


theorem zqo {a_m r} (h:ziq a_m=some r):Ctr Tryz.prog 50 [isv a_m] [] (Pt [isv r.1,isv r.2.1,isv r.2.2] []):=by
 unfold ziq at h
 refine zh Tryz.func50 e λw0 S0 hT=>ws (oT (tB e (oa e (oa e (an e (ws (an e (ws (an e (ss (an e (zo (lO 7 h e λL2 q1 Q1603 h hL2 eL2 rL2=>ss (om e (oV (vI e GMod.f2 zfY a_m.names) (oV (za ty27 e) (oV (vN e sl27) (oV (zac e e) (rn (zd h e (λ_ h=>?_) (λ_ h=>xn (eL2 _ _ (zs (zp (ss (an e (zo (zhE (zaW) ?_))))))))))))))))))))))))))))
 ·refine wk (zE (zo (zE (zG (.v 0 (.v 1 (.v 2 (.v 3 (.v 4 (.v 5 (.v 6 (.v 7 (.v 8 (.t 9 .nil)))))))))) moOrd (by kernel_rfl) (zj e (vI e GMod.f2 zfY a_m.names) (zj e (za ty27 e) (rm e e (zad h λq803 h=>zj e (zf1 (l:=a_m.names) e hI sl27 (.inl ⟨e,e⟩) (.inr ⟨_,e,e⟩) q803.1 q803.2.1 q803.2.2) (zj e (vI e GMod.f2 zfY a_m.names) (zj e (za ty27 e) (rm e e (zb h λy804 hy804 h=>zj e (vX e e sl27 hy804) (zj e (za ty9 e) (zb h λy805 hy805 h=>rT e (tC (zkI hy805) hT (s2 e e) k0 (zah (zp (zd h e (λ_ h=>?_) (λ_ h=>zJ (zw (zp (zi (om e (zt h λq806 h=>oV (zX e e q806) (oa e (zF ?_))))))))))))))))))))))))))
  ·exact ws (om e (oa e (oa e (ar e (bn (rL2 _ (bn (ze (.as e (zdQ (α:=Int)) (.tmp e (.tmp e .nil))) k0 (iS h ▸ ⟨e,e⟩)))))))))
  exact hL2 h 19
 refine lP h Tok none (λq807 g807=>[(5,appv g807 q807.1),(6,isv q807.2.1),(8,isv q807.2.2)]) (λq807 g807=>[tokE g807]) (zu (j:=5) e zcC (zu (j:=6) e hI (zu (j:=8) e hI zal))) k1 λL808 q807 g807 Q1602 h hL808 eL808 rL808=>ss (om e (oV (vI e GMod.f2 zfY a_m.names) (oV (za ty27 e) (oV (vN e sl27) (oV (zac e e) (rn (zd h e (λ_ h=>?_) (λ_ h=>xn (eL808 _ _ (zs (zp (ss (om e (oV (zcY e e) (rn (zd h e (λ_ h=>?_) (λ_ h=>wk (ss (an e (zo (lO 11 h e λL1351 q1350 Q1600 h hL1351 eL1351 rL1351=>ss (om e (oV (vI e GMod.f2 zfY a_m.names) (oV (za ty27 e) (oV (vN e sl27) (oV (zac e e) (rn ?_)))))))))))))))))))))))))))
 ·refine wk (zE (jw h Tok (λq1337 g1337=>[(5,appv g1337 q1337.1),(6,isv q1337.2)]) (λq1337 g1337=>[tokE g1337]) k1 (λq1337 g1337 h=>?_) λJ1338 h hJ1338=>zo (zE (zG (.v 0 (.v 1 (.v 2 (.v 3 (.v 4 (.v 5 (.t 6 (.v 7 (.v 8 (.v 9 (.v 10 (.v 11 .nil)))))))))))) moOrd (by kernel_rfl) (zj e (za ty57 e) (zj e (vI e GMod.f3 znN a_m.types) (zj e (za ty28 e) (rm e e (zb h λy1339 hy1339 h=>zj e (vX e e sl28 hy1339) (zj e (za ty3 e) (zhT (zaW) (zb h λy1341 hy1341 h=>rT e (tC1 (zqV fuel hy1341) hT (.same e (.same e (.same e (.cons e zcC .nil)))) k1 (λt1342=>rm e e (zj e (zD e e) (zj e (zD e e) (zj e (zar e) (zj e (zar e) (zah (zp (ws (om e (om e (oT (zB (l:=([y1341.1]:(List (List Int)))) el178 (.cons e zz .nil) e e (zR h λq1345 h=>oT (zbY (l:=q807.1) (m:=([y1341.1]:(List (List Int)))) zmc e hI e zz (.there .here) q1345 λt1344=>an e ?_)))))))))))))))))))))))))))
  ·exact zi (om e (zt h λq1349 h=>oV (zX e e q1349) (oa e (zF (hL808 h g1337 13)))))
  refine ws (om e (om e (jO 3 59 h (λq1346 h=>?_) λJ1347 h hJ1347=>oI h (λg1348 h=>?_) λg1348 h=>oN g1348 (oN g1348 (oV (zf e g1348 e) (hJ1347 h 3))))))
  ·refine rn (zd h e (λ_ h=>?_) (λ_ h=>zJ (zw (hJ1338 h t1344 20))))
   exact zi (om e (oa e (rb (hJ1338 h t1344 22))))
  exact oG g1348 (zm e) (oG g1348 (zac e e) (oV (zg e g1348 e) (hJ1347 h 3)))
 ·exact ws (om e (oa e (oa e (ar e (zx (ze (.as e (zdQ (α:=Int)) (.tmp e (.tmp e .nil))) k0 (iS h ▸ ⟨e,e⟩)))))))
 refine zd h e (λ_ h=>?_) (λ_ h=>xn (eL1351 _ _ (zs (zp (ws (an e (zE (zo (zhE (zaW) (lP h Tok none (λq1478 g1478=>[(12,appv g1478 q1478)]) (λq1478 g1478=>[tokE g1478]) (zu (j:=12) e zcC zal) k1 λL1479 q1478 g1478 Q1599 h hL1479 eL1479 rL1479=>ss (om e (oV (zl2 (l:=q1478) e zz sl28) (oV (vI e GMod.f2 zfY a_m.names) (oV (za ty27 e) (oV (vN e sl27) (oV (zac e e) (rn (zd h e (λ_ h=>?_) (λ_ h=>xn (eL1479 _ _ (zs (zp (ws (om e (oa e (oa e (ar e (ze (.as e zz (.tmp e (.tmp e .nil))) k0 (iS h ▸ ⟨e,e⟩)))))))))))))))))))))))))))))
 ·refine wk (zE (zo (ws (om e (om e (om e (zb h λy1476 hy1476 h=>oT (tC (zpE hy1476) hT (.cons e zz (.same e (.same e .nil))) k0 (rn (zd h e (λ_ h=>?_) (λ_ h=>zJ (zw (zp (zi (om e (zt h λq1477 h=>oV (zX e e q1477) (oa e (zF (hL1351 h 13)))))))))))))))))))
  exact ws (om e (oa e (oa e (ar e (bn (rL1351 _ (bn (ze (.as e (zdQ (α:=Int)) (.tmp e (.tmp e .nil))) k0 (iS h ▸ ⟨e,e⟩)))))))))
 refine wk (zo (ws (an e (zo (lO 13 h e λL1540 q1539 Q1597 h hL1540 eL1540 rL1540=>ss (om e (oV (vI e GMod.f2 zfY a_m.names) (oV (za ty27 e) (oV (vN e sl27) (oV (zac e e) (rn (zd h e (λ_ h=>?_) (λ_ h=>xn (eL1540 _ _ (zs (zw (hL1479 h g1478 14)))))))))))))))))
 refine wk (zE (zo (ws (om e (om e (zb h λy1569 hy1569 h=>oT (tC (ziX hy1569) hT (.cons e zz (.same e .nil)) k0 (oV (zaA e) (an e (ss (an e (zo (lP h Unit () (λq1570 g1570=>[(14,isv q1570.1),(15,isv q1570.2)]) (λq1570 g1570=>[]) (zu (j:=14) e hI (zu (j:=15) e hI zal)) k0 λL1571 q1570 g1570 Q1596 h hL1571 eL1571 rL1571=>ss (om e (om e (om e (zb h λy1584 hy1584 h=>oV (zlL (l:=q807.1) e zz e sl178 hy1584) (oV (za ty28 e) (oV (vN e sl28) (oV (zac e e) (rn (zd h e (λ_ h=>?_) (λ_ h=>xn (eL1571 _ _ (zs (zp (ws ?_)))))))))))))))))))))))))))
 ·refine wk (zE (zo (zi (om e (om e (jO 10 113 h (λq1585 h=>?_) λJ1586 h hJ1586=>oI h (λg1587 h=>?_) λg1587 h=>oN g1587 (oN g1587 (oN g1587 (oN g1587 (oN g1587 (oN g1587 (oN g1587 (oN g1587 (oN g1587 (oV (zf e g1587 e) (hJ1586 h 10))))))))))))))))
  ·exact oa e (rb (zp (zi (om e (zt h λq1591 h=>oV (zX e e q1591) (oa e (zF (hL1571 h () 16))))))))
  exact oG g1587 (zm e) (oG g1587 (zm e) (oG g1587 (zm e) (zb h λy1588 hy1588 h=>oG g1587 (zlL (l:=q807.1) e zz e sl178 hy1588) (oG g1587 (za ty28 e) (oG g1587 (zm e) (zb h λy1589 hy1589 h=>oG g1587 (vX e e sl28 hy1589) (oG g1587 (za ty3 e) (zb h λy1590 hy1590 h=>oH g1587 (tC (ziX hy1590) hT (.cons e zz (.same e .nil)) k0 (oV (zg e g1587 e) (hJ1586 h 10)))))))))))
 refine om e (rn (zd h e (λ_ h=>?_) (λ_ h=>zJ (zw (zp (zi (om e (zt h λq1595 h=>oV (zX e e q1595) (oa e (zF (hL1540 h 25)))))))))))
 exact ws (om e (om e (oT (zB (l:=([q1539]:(List Int))) el28 (.cons e hI .nil) e e (zR h λq1594 h=>oT (zbY (l:=q1478) (m:=([q1539]:(List Int))) zeY e hI e zz .here q1594 λt1593=>an e (znp (zjH e (zrM (eL1540 _ _ (zs (zw (hL1479 h t1593 35)))))))))))))

end Go.Proofs.Q


namespace Go.Proofs.Q
open Go.Sy
set_option maxRecDepth 4000
theorem zbZ {a_x a_e zW zao r} (h:zaV a_x a_e=some r):Ctr Tryz.prog 149 [ptrv zW (Fld.id GMkOT),isv a_e] [boxE zW (GMkO a_x zao),vecE zao a_x.l] (Pt [] [boxE zW (GMkO r zao),vecE zao r.l]):=by
 unfold zaV at h
 refine zh Tryz.func149 e λw0 S0 hT=>ws (om e (oV (zn e) (oV (zV e zdx ze5) (oT (tL ty38 e p0 a_x.e (oV (zC e e) (rn (zd h e (λ_ h=>?_) (λ_ h=>zJ (zaD .nil k2 (iS h ▸ ⟨e,e⟩)))))))))))
 exact zi (om e (om e (oV (zn e) (oV (zV e zdx ze5) (oT (tS ty38 e e p0 (GMkO {a_x with e:=a_e} zao) (zF (zaD .nil k2 (iS h ▸ ⟨e,e⟩)))))))))


theorem zmF {zgi r} (h:zeQ zgi=some r):Ctr Tryz.prog 150 [isv zgi] [] (Pt [isv r] []):=by
 unfold zeQ at h
 refine zh Tryz.func150 e λw0 S0 hT=>ws (oT (zU _ ze206 λb1=>rn (ss (om e (rn (zo (ws (oV (zC e e) (an e (zd h e (λ_ h=>?_) (λ_ h=>ws (oV (zC e e) (an e (zd h e (λ_ h=>?_) (λ_ h=>ws (oV (zC e e) (an e (zd h e (λ_ h=>?_) (λ_ h=>ws (oV (zC e e) (an e (zd h e (λ_ h=>?_) (λ_ h=>ws (oV (zC e e) (an e (zd h e (λ_ h=>?_) (λ_ h=>ws (oV (zC e e) ?_))))))))))))))))))))))))))))
 ·exact ws (oV (zak (z:=(Tag.mk (0:Int) (1:Int))) e bu206 ze206 (.cons Tag.f1 zdz e hI .nil)) (oT (tS ty206 e e p0 ⟨0,1⟩ (rn (zbz (bn (ze (.cell e .here ty206 .nil) k0 (iS h ▸ ⟨e,e⟩))))))))
 ·exact ws (oV (zak (z:=(Tag.mk (0:Int) (2:Int))) e bu206 ze206 (.cons Tag.f1 zdz e hI .nil)) (oT (tS ty206 e e p0 ⟨0,2⟩ (rn (zbz (bn (ze (.cell e .here ty206 .nil) k0 (iS h ▸ ⟨e,e⟩))))))))
 ·exact ws (oV (zak (z:=(Tag.mk (0:Int) (4:Int))) e bu206 ze206 (.cons Tag.f1 zdz e hI .nil)) (oT (tS ty206 e e p0 ⟨0,4⟩ (rn (zbz (bn (ze (.cell e .here ty206 .nil) k0 (iS h ▸ ⟨e,e⟩))))))))
 ·exact ws (oV (zak (z:=(Tag.mk (0:Int) (5:Int))) e bu206 ze206 (.cons Tag.f1 zdz e hI .nil)) (oT (tS ty206 e e p0 ⟨0,5⟩ (rn (zbz (bn (ze (.cell e .here ty206 .nil) k0 (iS h ▸ ⟨e,e⟩))))))))
 ·exact ws (oV (zak (z:=(Tag.mk (0:Int) (10:Int))) e bu206 ze206 (.cons Tag.f1 zdz e hI .nil)) (oT (tS ty206 e e p0 ⟨0,10⟩ (rn (zbz (bn (ze (.cell e .here ty206 .nil) k0 (iS h ▸ ⟨e,e⟩))))))))
 refine an e (zd h e (λ_ h=>?_) (λ_ h=>ss (oV (zC e e) (an e (jW 22 h (λq2 h=>?_) λJ3 h hJ3=>zd h e (λ_ h=>?_) (λ_ h=>zi (oV (zC e e) (oa e (zF (hJ3 h 2))))))))))
 ·exact ws (oV (zak (z:=(Tag.mk (0:Int) (12:Int))) e bu206 ze206 (.cons Tag.f1 zdz e hI .nil)) (oT (tS ty206 e e p0 ⟨0,12⟩ (rn (zbz (bn (ze (.cell e .here ty206 .nil) k0 (iS h ▸ ⟨e,e⟩))))))))
 ·refine zd h e (λ_ h=>?_) (λ_ h=>ws (oV (zC e e) (an e (zd h e (λ_ h=>?_) (λ_ h=>zJ (zw (zp (ws (oV (zak (z:=(Tag.mk (0:Int) (0:Int))) e bu206 ze206 .nil) (oT (tS ty206 e e p0 ⟨0,0⟩ (rn (zbz (ze (.cell e .here ty206 .nil) k0 (iS h ▸ ⟨e,e⟩)))))))))))))))
  ·exact ws (oV (zak (z:=(Tag.mk (0:Int) (16:Int))) e bu206 ze206 (.cons Tag.f1 zdz e hI .nil)) (oT (tS ty206 e e p0 ⟨0,16⟩ (rn (zbz (bn (ze (.cell e .here ty206 .nil) k0 (iS h ▸ ⟨e,e⟩))))))))
  exact ws (oV (zak (z:=(Tag.mk (0:Int) (17:Int))) e bu206 ze206 (.cons Tag.f1 zdz e hI .nil)) (oT (tS ty206 e e p0 ⟨0,17⟩ (rn (zbz (bn (ze (.cell e .here ty206 .nil) k0 (iS h ▸ ⟨e,e⟩))))))))
 exact zJ (hJ3 h 0)


theorem zpT {a_c zpn r} (h:zh6 a_c zpn=some r):Ctr Tryz.prog 151 [isv a_c,isv zpn] [] (Pt [isv r] []):=by
 unfold zh6 at h
 refine zh Tryz.func151 e λw0 S0 hT=>ws (oT (tB e (an e (ss (oV (vI e GCon.f0 zmK a_c.has) (oV (za ty4 e) (oV (zaA e) (rn (zd h e (λ_ h=>?_) (λ_ h=>wk (ss (oV (vI e GCon.f1 zj7 a_c.hasLow) (oV (za ty4 e) (om e (jO 3 13 h (λq1 h=>?_) λJ2 h hJ2=>oI h (λg3 h=>?_) λg3 h=>oN g3 (oN g3 (oV (zf e g3 e) (hJ2 h 3))))))))))))))))))
 ·exact ws (ar e (zx (ze (r1 e) k0 (iS h ▸ ⟨e,e⟩))))
 ·refine om e (jO 6 20 h (λq4 h=>?_) λJ5 h hJ5=>oI h (λg6 h=>?_) λg6 h=>oN g6 (oN g6 (oN g6 (oN g6 (oN g6 (oV (zf e g6 e) (hJ5 h 6)))))))
  ·refine rn (zd h e (λ_ h=>?_) (λ_ h=>wk (ss (om e (om e (jO 28 50 h (λq7 h=>?_) λJ8 h hJ8=>oI h (λg9 h=>?_) λg9 h=>oN g9 (oN g9 (oN g9 (oN g9 (oU (oU (oU (oN g9 (oN g9 (oU (oU (oU (oN g9 (oN g9 (oU (oU (oU (oU (oU (oU (oU (oU ?_)))))))))))))))))))))))))))
   ·exact ws (ar e (zx (ze (r1 e) k0 (iS h ▸ ⟨e,e⟩))))
   ·refine rn (zd h e (λ_ h=>?_) (λ_ h=>wk (ws (ar e (ze (r1 e) k0 (iS h ▸ ⟨e,e⟩))))))
    exact ws (ar e (zx (ze (r1 e) k0 (iS h ▸ ⟨e,e⟩))))
   ·refine oG g9 (vI e GCon.f1 zj7 a_c.hasLow) (oG g9 (za ty4 e) (oG g9 (zaA e) (oG g9 (zm e) (jO 4 30 h (λq10 h=>?_) λJ11 h hJ11=>oI h (λg12 h=>?_) λg12 h=>oG g12 (vI e GCon.f4 ziI a_c.low) (oG g12 (za ty2 e) (oG g12 (zac e e) (oG g9 (zf e g12 e) (hJ11 h 4))))))))
    ·refine oG g9 (zm e) (jO 4 35 h (λq13 h=>?_) λJ14 h hJ14=>oI h (λg15 h=>?_) λg15 h=>oG g15 (vI e GCon.f4 ziI a_c.low) (oG g15 (za ty2 e) (oG g15 (zbw e e) (oG g9 (zf e g15 e) (hJ14 h 4)))))
     ·refine oG g9 (zm e) (jO 13 49 h (λq16 h=>?_) λJ17 h hJ17=>oI h (λg18 h=>?_) λg18 h=>oG g18 (vI e GCon.f2 zj9 a_c.hasHigh) (oG g18 (za ty4 e) (oG g18 (zm e) (jO 9 48 h (λq19 h=>?_) λJ20 h hJ20=>oI h (λg21 h=>?_) λg21 h=>oN g21 (oN g21 (oN g21 (oN g21 (oU (oU (oU (oN g21 (oG g18 (zf e g21 e) (hJ20 h 9)))))))))))))
      ·exact oV (zg e g9 e) (hJ8 h 10)
      ·exact oN g18 (oN g18 (oN g18 (oU (oU (oU (oU (oU (oU (oU (oU (oN g18 (oG g9 (zg e g18 e) (hJ17 h 13)))))))))))))
      ·exact oG g9 (zf e g18 e) (hJ17 h 5)
      refine oG g21 (vI e GCon.f5 zi5 a_c.high) (oG g21 (za ty2 e) (oG g21 (zac e e) (oG g21 (zm e) (jO 4 47 h (λq22 h=>?_) λJ23 h hJ23=>oI h (λg24 h=>?_) λg24 h=>oG g24 (vI e GCon.f5 zi5 a_c.high) (oG g24 (za ty2 e) (oG g24 (zbw e e) (oG g21 (zf e g24 e) (hJ23 h 4))))))))
      ·exact oG g18 (zg e g21 e) (hJ20 h 6)
      exact oN g24 (oN g24 (oN g24 (oG g21 (zg e g24 e) (hJ23 h 4))))
     exact oN g15 (oN g15 (oN g15 (oG g9 (zg e g15 e) (hJ14 h 4))))
    exact oN g12 (oN g12 (oN g12 (oG g9 (zg e g12 e) (hJ11 h 4))))
   exact oU (oU (oU (oU (oN g9 (oV (zf e g9 e) (hJ8 h 28))))))
  exact oG g6 (vI e GCon.f4 ziI a_c.low) (oG g6 (za ty2 e) (oG g6 (vI e GCon.f5 zi5 a_c.high) (oG g6 (za ty2 e) (oG g6 (zbw e e) (oV (zg e g6 e) (hJ5 h 6))))))
 exact oG g3 (vI e GCon.f2 zj9 a_c.hasHigh) (oG g3 (za ty4 e) (oV (zg e g3 e) (hJ2 h 3)))


theorem zqs {a_l a_v r} (h:zit a_l a_v=some r):Ctr Tryz.prog 182 [isv a_l,isv a_v] [] (Pt [isv r] []):=by
 unfold zit at h
 refine zh Tryz.func182 e λw0 S0 hT=>ws (an e (ss (an e (zo (lO 5 h e λL2 q1 Q15 h hL2 eL2 rL2=>ss (om e (om e (oV (vN e sl126) (oV (zac e e) (rn (zd h e (λ_ h=>?_) (λ_ h=>xn (eL2 _ _ (zs (zp (ws (ar e (ze (r1 e) k0 (iS h ▸ ⟨e,e⟩)))))))))))))))))))
 refine wk (zE (zo (ws (om e (om e (zb h λy9 hy9 h=>oV (vX e e sl126 hy9) (oV (vI e GItem.f2 zks y9.has) (oV (za ty4 e) (om e (jO 8 25 h (λq10 h=>?_) λJ11 h hJ11=>oI h (λg12 h=>?_) λg12 h=>oN g12 (oN g12 (oN g12 (oN g12 (oN g12 (oN g12 (oN g12 (oV (zf e g12 e) (hJ11 h 8))))))))))))))))))
 ·refine rn (zd h e (λ_ h=>?_) (λ_ h=>zJ (zw (zp (zi (om e (zt h λq14 h=>oV (zX e e q14) (oa e (zF (hL2 h 15))))))))))
  exact ws (ar e (bn (rL2 _ (bn (ze (r1 e) k0 (iS h ▸ ⟨e,e⟩))))))
 exact oG g12 (zm e) (oG g12 (zm e) (zb h λy13 hy13 h=>oG g12 (vX e e sl126 hy13) (oG g12 (vI e GItem.f1 zdL y13.number) (oG g12 (za ty2 e) (oG g12 (zm e) (oG g12 (zC e e) (oV (zg e g12 e) (hJ11 h 8))))))))


theorem zhB {a_x a_n_ zW zao r} (h:zde a_x a_n_=some r):Ctr Tryz.prog 152 [ptrv zW (Fld.id GMkOT),isv a_n_] [boxE zW (GMkO a_x zao),vecE zao a_x.l] (Pt [isv r.1] [boxE zW (GMkO r.2 zao),vecE zao r.2.l]):=by
 unfold zde at h
 refine zh Tryz.func152 e λw0 S0 hT=>ws (oT (tB e (an e (ws (an e (ws (an e (ss (an e (zo (zhE (zaW) (lP h Tok none (λq2 g2=>[(5,appv g2 q2.1),(6,isv q2.2.1),(7,isv q2.2.2)]) (λq2 g2=>[tokE g2]) (zu (j:=5) e zcC (zu (j:=6) e hI (zu (j:=7) e hI zal))) k1 λL3 q2 g2 Q666 h hL3 eL3 rL3=>ss (om e (oV (vI e GNode.f6 zhJ a_n_.root) (oV (za ty3 e) (oV (zac e e) (rn (zd h e (λ_ h=>?_) (λ_ h=>xn (eL3 _ _ (zs (zp (ws (an e (ws (oa e (an e (ss ?_))))))))))))))))))))))))))))
 ·refine wk (zE (zo (ws (oV (vI e GNode.f4 zgs a_n_.items) (oV (za ty126 e) (om e (zb h λy335 hy335 h=>oV (vX e e sl126 hy335) (oV (za ty132 e) (oT (zU _ ze132 λb336=>oT (tS ty132 e e p0 y335 (rn (ss (oV (zV e GItem.f2 zks) (oT (tL ty4 e p0 y335.has (oV (zaA e) (rn (jw h Unit (λq337 g337=>[(6,isv q337.1)]) (λq337 g337=>[boxE b336 (q337.2:GItem)]) k1 (λq337 g337 h=>?_) λJ338 h hJ338=>zd h e (λ_ h=>?_) (λ_ h=>zJ (hJ338 h () 0)))))))))))))))))))))
  ·exact ws (oV (zV e GItem.f2 zks) (oT (tS ty4 e e p0 ({ q337.2 with has:=false }) (rn (zi (om e (oT (tL ty132 e p0 ({ q337.2 with has:=false }) (oT (zB (l:=([{ q337.2 with has:=false }]:(List GItem))) el126 (.cons e hI .nil) e e (zR h λq352 h=>oT (zbY (l:=q2.1) (m:=([{ q337.2 with has:=false }]:(List GItem))) zkv e hI e zz (.there .here) q352 λt351=>oa e (rb (zp (zi (om e (zt h λq353 h=>oV (zX e e q353) (oa e (zF (hL3 h t351 26))))))))))))))))))))
  refine zE (zo (lO 6 h e λL340 q339 Q349 h hL340 eL340 rL340=>ss (oV (vI e GNode.f4 zgs a_n_.items) (oV (za ty126 e) (oV (vI e GNode.f6 zhJ a_n_.root) (oV (za ty3 e) (zad h λq345 h=>oV (zf1 (l:=a_n_.items) e hI sl126 (.inl ⟨e,e⟩) (.inr ⟨_,e,e⟩) q345.1 q345.2.1 q345.2.2) (om e (zb h λy346 hy346 h=>oT (tC (zqs hy346) hT (s2 e e) k0 (rn (zd h e (λ_ h=>?_) (λ_ h=>xn (eL340 _ _ (zs (zp (ws (om e (oV (zV e GItem.f1 zdL) (oT (tS ty2 e e p0 ({ y335 with number:=q339 }) (rn (zi (om e (zt h λq348 h=>oV (zX e e q348) (oa e (zF ?_)))))))))))))))))))))))))))
  ·exact wk (zo (zi (om e (zt h λq347 h=>oV (zX e e q347) (oa e (rb (hL340 h 11)))))))
  exact hJ338 h () 13
 refine oV (vI e GNode.f6 zhJ a_n_.root) (oV (za ty3 e) (an e (zo (lP h Tok g2 (λq354 g354=>[(5,appv g354 q354.1),(9,isv q354.2.1),(10,isv q354.2.2.1),(11,isv q354.2.2.2.1),(12,isv q354.2.2.2.2)]) (λq354 g354=>[tokE g354]) (zu (j:=5) e hI (zu (j:=9) e hI (zu (j:=10) e hI (zu (j:=11) e hI (zu (j:=12) e hI zal))))) k1 λL355 q354 g354 Q664 h hL355 eL355 rL355=>ss (om e (oV (vI e GNode.f4 zgs a_n_.items) (oV (za ty126 e) (oV (vN e sl126) (oV (zac e e) (rn (zd h e (λ_ h=>?_) (λ_ h=>xn (eL355 _ _ (zs (zp (ss (an e (zo (lP h Unit () (λq601 g601=>[(11,isv q601.1),(15,isv q601.2)]) (λq601 g601=>[]) (zu (j:=11) e hI (zu (j:=15) e hI zal)) k0 λL602 q601 g601 Q663 h hL602 eL602 rL602=>ss (om e (om e (oV (zl2 (l:=q354.1) e zz sl126) (oV (zac e e) (rn (zd h e (λ_ h=>?_) (λ_ h=>xn (eL602 _ _ ?_)))))))))))))))))))))))))))
 ·refine wk (zE (zo (ws (oV (vI e GNode.f4 zgs a_n_.items) (oV (za ty126 e) (om e (zb h λy558 hy558 h=>oV (vX e e sl126 hy558) (oV (za ty132 e) (oT (zU _ ze132 λb559=>oT (tS ty132 e e p0 y558 (rn (ss (oV (zV e GItem.f2 zks) (oT (tL ty4 e p0 y558.has (oV (zaA e) (rn (jw h Unit (λq560 g560=>[(13,ptrv b559 (Fld.id GItem))]) (λq560 g560=>[boxE b559 (q560:GItem)]) k1 (λq560 g560 h=>?_) λJ561 h hJ561=>zd h e (λ_ h=>?_) (λ_ h=>zJ (hJ561 h () 0)))))))))))))))))))))
  ·refine ws (om e (om e (jO 8 109 h (λq591 h=>?_) λJ592 h hJ592=>oI h (λg593 h=>?_) λg593 h=>oG g593 (zm e) (oG g593 (zm e) (jO 5 108 h (λq594 h=>?_) λJ595 h hJ595=>oI h (λg596 h=>?_) λg596 h=>oN g596 (oN g596 (oN g596 (oN g596 (oG g593 (zf e g596 e) (hJ595 h 5))))))))))
   ·exact an e (ws (oV (zV e GItem.f2 zks) (oT (tS ty4 e e p0 ({ q560 with has:=false }) (rn (ws (oV (zV e GItem.f1 zdL) (oT (tL ty2 e p0 q560.number (oa e (an e (zi (om e (oT (tL ty132 e p0 ({ q560 with has:=false }) (oT (zB (l:=([{ q560 with has:=false }]:(List GItem))) el126 (.cons e hI .nil) e e (zR h λq599 h=>oT (zbY (l:=q354.1) (m:=([{ q560 with has:=false }]:(List GItem))) zkv e hI e zz (.there .here) q599 λt598=>oa e (rb (zp (zi (om e (zt h λq600 h=>oV (zX e e q600) (oa e (zF (hL355 h t598 37)))))))))))))))))))))))))))
   ·exact oN g593 (oN g593 (oU (oU (oU (oU (oN g593 (oV (zg e g593 e) (hJ592 h 8))))))))
   ·exact oV (zf e g593 e) (hJ592 h 4)
   exact oG g596 (zV e GItem.f1 zdL) (oH g596 (tL ty2 e p0 q560.number (oG g596 (zm e) (oG g596 (zjA e e) (oG g593 (zg e g596 e) (hJ595 h 5))))))
  refine ws (oV (zV e GItem.f1 zdL) (oT (tS ty2 e e p0 ({ y558 with number:=0 }) (rn (ws (an e (zo (lP h Unit () (λq562 g562=>[(13,ptrv b559 (Fld.id GItem)),(14,isv q562.1)]) (λq562 g562=>[boxE b559 (q562.2:GItem)]) (zu (j:=13) e hI (zu (j:=14) e hI zal)) k1 λL563 q562 g562 Q590 h hL563 eL563 rL563=>ss (om e (om e (oV (zl2 (l:=q354.1) e zz sl126) (oV (zac e e) (rn (zd h e (λ_ h=>?_) (λ_ h=>xn (eL563 _ _ (zs (hJ561 h () 8))))))))))))))))))
  refine wk (zE (jw h Unit (λq577 g577=>[(13,ptrv b559 (Fld.id GItem))]) (λq577 g577=>[boxE b559 (q577:GItem)]) k1 (λq577 g577 h=>?_) λJ578 h hJ578=>zo (ss (om e (om e (zb h λy579 hy579 h=>oV (zlL (l:=q354.1) e zz e sl126 hy579) (oV (vI e GItem.f1 zdL y579.number) (oV (za ty2 e) (oV (zC e e) (rn (zd h e (λ_ h=>?_) (λ_ h=>wk (zE (zez 13 .here e (λo581 hn582=>zG (.v 0 (.v 1 (.v 2 (.v 3 (.v 4 (.v 5 (.v 6 (.v 7 (.v 8 (.v 9 (.v 10 (.v 11 .nil)))))))))))) moOrd (by kernel_rfl) (rm e e (zj e (zC e e) (rm e e (jD 9 92 h (λq583 h=>?_) λJ584 h hJ584=>rJ h (λg585 h=>?_) λg585 h=>rG e g585 (zm e) (rG e g585 (zm e) (zb h λy586 hy586 h=>rG e g585 (zlL (l:=q354.1) e zz e sl126 hy586) (rG e g585 (vI e GItem.f1 zdL y586.number) (rG e g585 (za ty2 e) (rG e g585 (zif e GItem.f1 zdL) ?_))))))))))))))))))))))))
  ·exact zi (om e (zt h λq589 h=>oV (zX e e q589) (oa e (zF (hL563 h () 10)))))
  ·exact ws (om e (zb h λy580 hy580 h=>oT (tC (zbZ hy580) hT (s2 e e) (a2 (a2 k0)) (rn (ws (ar e (zx (bn (rL563 _ (bn (bn (rL355 _ (bn (ze (.as e (zdQ (α:=GItem)) .nil) k2 (iS h ▸ ⟨e,e⟩)))))))))))))))
  ·refine zah (zbn 13 hn582 e (zp (zd h e (λ_ h=>?_) (λ_ h=>zJ (zw (hJ578 h () 12))))))
   exact zi (om e (om e (zb h λy587 hy587 h=>oV (zlL (l:=q354.1) e zz e sl126 hy587) (oV (vI e GItem.f1 zdL y587.number) (oV (za ty2 e) (zt h λq588 h=>oV (zX e e q588) (oV (zV e GItem.f1 zdL) (oT (tS ty2 e e p0 ({ q562.2 with number:=(y587.number + 1) }) (rb (hJ578 h () 19)))))))))))
  ·exact rP e g585 (rP e g585 (rP e g585 (rP e g585 (rP e g585 (rP e g585 (rP e g585 (rP e g585 (zj e (zg e g585 e) (hJ584 h 9)))))))))
  exact rG e g585 (vP ty2 e m0 q562.2.number) (rG e g585 (zcY e e) (zj e (zf e g585 e) (hJ584 h 9)))
 ·refine wk (zE (zo (ws (an e (zo (lP h Unit () (λq633 g633=>[(11,isv q633.1),(16,isv q633.2)]) (λq633 g633=>[]) (zu (j:=11) e hI (zu (j:=16) e hI zal)) k0 λL634 q633 g633 Q659 h hL634 eL634 rL634=>ss (om e (om e (oV (zac e e) (rn (zd h e (λ_ h=>?_) (λ_ h=>xn (eL634 _ _ (zs (zw (zp (zi (om e (zt h λq658 h=>oV (zX e e q658) (oa e (zF (hL602 h () 15))))))))))))))))))))))
  refine wk (zE (zo (zG (.v 0 (.v 1 (.v 2 (.v 3 (.v 4 (.v 5 (.v 6 (.v 7 (.v 8 (.v 9 (.v 10 (.v 11 (.v 12 (.v 13 (.v 14 (.v 15 (.v 16 (.v 17 (.v 18 (.v 19 (.v 20 (.v 21 (.v 22 (.v 23 (.v 24 (.v 25 (.v 26 (.v 27 .nil)))))))))))))))))))))))))))) moOrd (by kernel_rfl) (rm e e (rm e e (jD 12 141 h (λq647 h=>?_) λJ648 h hJ648=>rJ h (λg649 h=>?_) λg649 h=>rG e g649 (zm e) (rG e g649 (zm e) (zb h λy650 hy650 h=>rG e g649 (zlL (l:=q354.1) e zz e sl126 hy650) (rG e g649 (vI e GItem.f0 zkd y650.name) (rG e g649 (za ty9 e) (rG e g649 (zm e) (rG e g649 (zm e) (zb h λy651 hy651 h=>rG e g649 (zlL (l:=q354.1) e zz e sl126 hy651) (rG e g649 (vI e GItem.f0 zkd y651.name) (rG e g649 (za ty9 e) (rG e g649 (zcL eq9 e e) (zj e (zf e g649 e) (hJ648 h 12))))))))))))))))))
  ·refine rm e e (jD 12 154 h (λq652 h=>?_) λJ653 h hJ653=>rJ h (λg654 h=>?_) λg654 h=>rG e g654 (zm e) (rG e g654 (zm e) (zb h λy655 hy655 h=>rG e g654 (zlL (l:=q354.1) e zz e sl126 hy655) (rG e g654 (vI e GItem.f1 zdL y655.number) (rG e g654 (za ty2 e) (rG e g654 (zm e) (rG e g654 (zm e) (zb h λy656 hy656 h=>rG e g654 (zlL (l:=q354.1) e zz e sl126 hy656) (rG e g654 (vI e GItem.f1 zdL y656.number) (rG e g654 (za ty2 e) (rG e g654 (zC e e) (zj e (zf e g654 e) (hJ653 h 12)))))))))))))
   ·exact zj e (zar e) (zah (zw (zp (zi (om e (zt h λq657 h=>oV (zX e e q657) (oa e (zF (hL634 h () 14)))))))))
   exact rP e g654 (rP e g654 (rP e g654 (rP e g654 (rP e g654 (rP e g654 (rP e g654 (rP e g654 (rP e g654 (rP e g654 (rP e g654 (zj e (zg e g654 e) (hJ653 h 12))))))))))))
  exact rP e g649 (rP e g649 (rP e g649 (rP e g649 (rP e g649 (rP e g649 (rP e g649 (rP e g649 (rP e g649 (rP e g649 (rP e g649 (zj e (zg e g649 e) (hJ648 h 12))))))))))))
 refine zs (zp (ss (om e (rn (jw h Unit (λq660 g660=>[]) (λq660 g660=>[boxE zW (GMkO q660 zao),vecE zao q660.l]) (a1 (a1 k0)) (λq660 g660 h=>?_) λJ661 h hJ661=>zd h e (λ_ h=>?_) (λ_ h=>zJ (hJ661 h () 0)))))))
 ·exact ws (om e (ar e (ze (.as e zz .nil) k2 (iS h ▸ ⟨e,e⟩))))
 exact zi (om e (zb h λy662 hy662 h=>oT (tC (zbZ hy662) hT (s2 e e) (a1 (a1 k0)) (zF (hJ661 h () 2)))))


theorem zfL {a_c a_v r} (h:zdn a_c a_v=some r):Ctr Tryz.prog 89 [isv a_c,isv a_v] [] (Pt [isv r] []):=by
 unfold zdn at h
 refine zh Tryz.func89 e λw0 S0 hT=>ws (oT (tB e (an e (ws (oV (vI e GCon.f0 zmK a_c.has) (oV (za ty4 e) (oV (zaA e) (om e (jO 21 29 h (λq1 h=>?_) λJ2 h hJ2=>oI h (λg3 h=>?_) λg3 h=>oG g3 (vI e GCon.f1 zj7 a_c.hasLow) (oG g3 (za ty4 e) (oG g3 (zaA e) (oG g3 (zm e) (jO 5 17 h (λq4 h=>?_) λJ5 h hJ5=>oI h (λg6 h=>?_) λg6 h=>oG g6 (zm e) (oG g6 (vI e GCon.f4 ziI a_c.low) (oG g6 (za ty2 e) (oG g6 (zcY e e) (oG g3 (zf e g6 e) (hJ5 h 5))))))))))))))))))
 ·exact ar e (ze (r1 e) k0 (iS h ▸ ⟨e,e⟩))
 ·exact oN g3 (oN g3 (oN g3 (oN g3 (oU (oU (oU (oU (oN g3 (oN g3 (oU (oU (oU (oU (oU (oU (oU (oU (oU (oN g3 (oV (zg e g3 e) (hJ2 h 21)))))))))))))))))))))
 ·refine oG g3 (zm e) (jO 10 28 h (λq7 h=>?_) λJ8 h hJ8=>oI h (λg9 h=>?_) λg9 h=>oN g9 (oN g9 (oN g9 (oN g9 (oU (oU (oU (oU (oN g9 (oG g3 (zf e g9 e) (hJ8 h 10)))))))))))
  ·exact oV (zf e g3 e) (hJ2 h 8)
  refine oG g9 (vI e GCon.f2 zj9 a_c.hasHigh) (oG g9 (za ty4 e) (oG g9 (zaA e) (oG g9 (zm e) (jO 5 27 h (λq10 h=>?_) λJ11 h hJ11=>oI h (λg12 h=>?_) λg12 h=>oG g12 (zm e) (oG g12 (vI e GCon.f5 zi5 a_c.high) (oG g12 (za ty2 e) (oG g12 (zjA e e) (oG g9 (zf e g12 e) (hJ11 h 5)))))))))
  ·exact oG g3 (zg e g9 e) (hJ8 h 6)
  exact oN g12 (oN g12 (oN g12 (oN g12 (oG g9 (zg e g12 e) (hJ11 h 5)))))
 exact oN g6 (oN g6 (oN g6 (oN g6 (oG g3 (zg e g6 e) (hJ5 h 5)))))


theorem zcx {a_s r} (h:zbE a_s=some r):Ctr Tryz.prog 143 [isv a_s] [] (Pt [isv r] []):=by
 unfold zbE at h
 refine zh Tryz.func143 e λw0 S0 hT=>ws (an e (zE (ztS e e (wk (zE (zG (.v 0 (.v 1 (.v 2 (.v 3 (.v 4 (.v 5 (.v 6 (.v 7 (.v 8 (.v 9 (.v 10 (.v 11 (.v 12 (.v 13 (.v 14 (.v 15 (.v 16 (.v 17 (.v 18 (.v 19 (.v 20 (.v 21 (.v 22 (.v 23 (.v 24 (.v 25 (.v 26 (.v 27 (.v 28 (.v 29 (.v 30 (.v 31 (.v 32 (.v 33 (.v 34 (.v 35 (.v 36 (.v 37 (.v 38 (.v 39 (.v 40 (.v 41 (.v 42 (.v 43 (.v 44 (.v 45 (.v 46 .nil))))))))))))))))))))))))))))))))))))))))))))))) moOrd (by kernel_rfl) (rm e e (zb h λy1 hy1 h=>zj e (vX e e sl22 hy1) (zj e (za ty5 e) (zj e (zel Tryz.underlying5 Tryz.underlying102 e) (rm e e (zb h λy2 hy2 h=>zj e (vX e e sl22 hy2) (zj e (za ty5 e) (zj e (zel Tryz.underlying5 Tryz.underlying102 e) (zR h λq3 h=>zj e (zfS e e q3) (zj e (ze7 e e) (rm e e (zb h λy4 hy4 h=>zj e (vX e e sl22 hy4) (zj e (za ty5 e) (zj e (zel Tryz.underlying5 Tryz.underlying102 e) (zR h λq5 h=>zj e (zfS e e q5) (zj e (ze7 e e) (rm e e ?_)))))))))))))))))))))))
 refine zb h λy6 hy6 h=>zj e (vX e e sl22 hy6) (zj e (za ty5 e) (zj e (zel Tryz.underlying5 Tryz.underlying102 e) (zR h λq7 h=>zj e (zfS e e q7) (zj e (ze7 e e) (rm e e (zb h λy8 hy8 h=>zj e (vX e e sl22 hy8) (zj e (za ty5 e) (zj e (zel Tryz.underlying5 Tryz.underlying102 e) (zR h λq9 h=>zj e (zfS e e q9) (zj e (ze7 e e) (rm e e (zb h λy10 hy10 h=>zj e (vX e e sl22 hy10) (zj e (za ty5 e) (zj e (zel Tryz.underlying5 Tryz.underlying102 e) (zR h λq11 h=>zj e (zfS e e q11) (zj e (ze7 e e) (rm e e (zb h λy12 hy12 h=>zj e (vX e e sl22 hy12) (zj e (za ty5 e) (zj e (zel Tryz.underlying5 Tryz.underlying102 e) (zR h λq13 h=>zj e (zfS e e q13) ?_)))))))))))))))))))))
 exact zj e (ze7 e e) (rm e e (zb h λy14 hy14 h=>zj e (vX e e sl22 hy14) (zj e (za ty5 e) (zj e (zel Tryz.underlying5 Tryz.underlying102 e) (zR h λq15 h=>zj e (zfS e e q15) (zj e (ze7 e e) (zj e (zar e) (zah (zp (zbz (ze (r1 e) k0 (iS h ▸ ⟨e,e⟩))))))))))))


theorem ziO {a_p r} (h:zcs a_p=some r):Ctr Tryz.prog 90 [isv a_p] [] (Pt [isv r] []):=by
 unfold zcs at h
 refine zh Tryz.func90 e λw0 S0 hT=>ws (an e (ws (om e (om e (oV (vN e sl22) (om e (oV (vN e sl22) (zad h λq1 h=>oV (zwh (l:=a_p) e hI sl22 e e q1.1 q1.2) (an e (zE (zo (lO 0 h e λL3 q2 Q194 h hL3 eL3 rL3=>ss (om e (oV (vN e sl22) (oV (zbw e e) (rn (zd h e (λ_ h=>?_) (λ_ h=>xn (eL3 _ _ (zs (zp (ws (ar e (ze (r1 e) k0 (iS h ▸ ⟨e,e⟩)))))))))))))))))))))))))
 refine wk (zo (ws (om e (zb h λy99 hy99 h=>oV (vX e e sl22 hy99) (oV (za ty5 e) (an e (ss (om e (oV (zeN e e) (rn (zd h e (λ_ h=>?_) (λ_ h=>wk (ws (om e (oV (zwo zqh ar97 e) (oV (zwl hT ty5 e _ zje) (an e (ws (om e (oV (zhU e e) (oV (zmx Tryz.underlying5 Tryz.underlying3 e) (an e (ws (om e (zR h λq140 h=>oV (zmd e e q140) (zR h λq141 h=>oV (zwq zje ar100 e q141) ?_))))))))))))))))))))))))))
 ·refine ws (om e (zad h λq100 h=>oV (zf1 (l:=q2) e hI sl22 (.inr ⟨_,e,e⟩) (.inl ⟨e,e⟩) q100.1 q100.2.1 q100.2.2) (an e (ss (om e (oV (vN e sl22) (oV (zbw e e) (om e (jO 5 31 h (λq101 h=>?_) λJ102 h hJ102=>oI h (λg103 h=>?_) λg103 h=>oN g103 (oN g103 (oN g103 (oN g103 (oV (zf e g103 e) (hJ102 h 5))))))))))))))
  ·refine rn (jW 0 h (λq105 h=>?_) λJ106 h hJ106=>zd h e (λ_ h=>?_) (λ_ h=>zJ (hJ106 h 0)))
   ·exact xn (zs (hL3 h 19))
   refine ws (om e (zad h λq107 h=>oV (zf1 (l:=((q2.take ((q2.length:Int)).toNat).drop ((1:Int)).toNat)) e hI sl22 (.inr ⟨_,e,e⟩) (.inl ⟨e,e⟩) q107.1 q107.2.1 q107.2.2) (an e (zE (zG (.v 0 (.v 1 (.v 2 (.v 3 (.v 4 (.v 6 (.v 7 (.t 5 (.t 8 (.v 9 (.v 10 (.v 11 (.v 12 .nil))))))))))))) moOrd (by kernel_rfl) (rm e e (zj e (vN e sl22) (zj e (zbw e e) (rm e e (jD 9 46 h (λq108 h=>?_) λJ109 h hJ109=>rJ h (λg110 h=>?_) λg110 h=>rP e g110 (rP e g110 (rP e g110 (zet e e (dj:=37) e g110 (zet e e (dj:=37) e g110 (rP e g110 (rP e g110 (rP e g110 (zj e (zf e g110 e) (hJ109 h 9)))))))))))))))))))
   ·refine zah (zp (zd h e (λ_ h=>?_) (λ_ h=>zJ (hJ106 h 8))))
    refine ws (om e (zad h λq114 h=>oV (zf1 (l:=((((q2.take ((q2.length:Int)).toNat).drop ((1:Int)).toNat).take ((((q2.take ((q2.length:Int)).toNat).drop ((1:Int)).toNat).length:Int)).toNat).drop ((8:Int)).toNat)) e hI sl22 (.inr ⟨_,e,e⟩) (.inl ⟨e,e⟩) q114.1 q114.2.1 q114.2.2) (an e (zo (lO 0 h e λL116 q115 Q139 h hL116 eL116 rL116=>zE (zE (zG (.v 0 (.v 1 (.v 2 (.v 3 (.v 4 (.v 6 (.v 7 (.v 10 (.v 11 (.v 13 (.v 14 (.t 5 (.t 8 (.v 9 (.t 12 (.t 15 (.v 16 (.v 17 (.v 18 (.v 19 (.v 20 .nil))))))))))))))))))))) moOrd (by kernel_rfl) (rm e e (zj e (vN e sl22) (zj e (zbw e e) (rm e e (jD 17 69 h (λq128 h=>?_) λJ129 h hJ129=>rJ h (λg130 h=>?_) λg130 h=>rP e g130 (rP e g130 (rP e g130 (rP e g130 (rP e g130 (rP e g130 (rP e g130 (zet e e (dj:=52) e g130 (zet e e (dj:=52) e g130 (rP e g130 (zet e e (dj:=52) e g130 (zet e e (dj:=52) e g130 (rP e g130 (rP e g130 ?_)))))))))))))))))))))))))
    ·refine zah (zp (zd h e (λ_ h=>?_) (λ_ h=>xn (eL116 _ _ (zs (hJ106 h 17))))))
     exact wk (zo (zi (om e (zad h λq138 h=>oV (zf1 (l:=q115) e hI sl22 (.inr ⟨_,e,e⟩) (.inl ⟨e,e⟩) q138.1 q138.2.1 q138.2.2) (oa e (rb (hL116 h 9)))))))
    ·exact rG e g130 (zm e) (rG e g130 (zm e) (zad h λq131 h=>rG e g130 (zf1 (l:=q115) e hI sl22 (.inr ⟨_,e,e⟩) (.inl ⟨e,e⟩) q131.1 q131.2.1 q131.2.2) (rG e g130 (zm e) (zad h λq132 h=>rG e g130 (zf1 (l:=q115) e hI sl22 (.inr ⟨_,e,e⟩) (.inl ⟨e,e⟩) q132.1 q132.2.1 q132.2.2) (rG e g130 (zm e) (zad h λq133 h=>rG e g130 (zf1 (l:=q115) e hI sl22 (.inr ⟨_,e,e⟩) (.inl ⟨e,e⟩) q133.1 q133.2.1 q133.2.2) (zb h λy134 hy134 h=>rH e g130 (tC (zcx hy134) hT (s1 e) k0 (zb h λy135 hy135 h=>rH e g130 (tC (zcx hy135) hT (s1 e) k0 (rG e g130 (ze7 e e) (zb h λy136 hy136 h=>rH e g130 (tC (zcx hy136) hT (s1 e) k0 (zb h λy137 hy137 h=>rH e g130 (tC (zcx hy137) hT (s1 e) k0 (rG e g130 (ze7 e e) (rG e g130 (ze7 e e) (rG e g130 (zoW e e) (rG e g130 (zmQ e e) (zj e (zg e g130 e) (hJ129 h 17)))))))))))))))))))))
    exact rP e g130 (rP e g130 (zj e (zf e g130 e) (hJ129 h 17)))
   exact rG e g110 (zm e) (rG e g110 (zm e) (zad h λq111 h=>rG e g110 (zf1 (l:=((((q2.take ((q2.length:Int)).toNat).drop ((1:Int)).toNat).take ((((q2.take ((q2.length:Int)).toNat).drop ((1:Int)).toNat).length:Int)).toNat).drop ((8:Int)).toNat)) e hI sl22 (.inr ⟨_,e,e⟩) (.inl ⟨e,e⟩) q111.1 q111.2.1 q111.2.2) (zb h λy112 hy112 h=>rH e g110 (tC (zcx hy112) hT (s1 e) k0 (zb h λy113 hy113 h=>rH e g110 (tC (zcx hy113) hT (s1 e) k0 (rG e g110 (ze7 e e) (rG e g110 (zoW e e) (rG e g110 (zmQ e e) (zj e (zg e g110 e) (hJ109 h 9)))))))))))
  exact oG g103 (zm e) (zb h λy104 hy104 h=>oH g103 (tC (zcx hy104) hT (s1 e) k0 (oG g103 (zoW e e) (oG g103 (zmQ e e) (oV (zg e g103 e) (hJ102 h 5))))))
 refine oV (zv5 hT ty99 e q141 _ zqh) (oT (zU _ ze99 λb142=>oT (tS ty99 e e p0 (tab2 (shr8 (tab1 y99) (4:UInt64).toNat)) (zO (zaz 6 .here e) (rn (ws (om e (rn (zo (ws (oV (zC e e) (an e (zd h e (λ_ h=>?_) (λ_ h=>ws (oV (zC e e) (an e (zd h e (λ_ h=>?_) (λ_ h=>ws (oV (zC e e) (an e (zd h e (λ_ h=>?_) (λ_ h=>ws (ar e (zbP (zbP (rL3 _ (bn (ze (r1 e) k0 (iS h ▸ ⟨e,e⟩)))))))))))))))))))))))))))))
 ·refine zE (zE (zG (.v 0 (.v 1 (.v 2 (.v 3 (.v 4 (.v 5 (.v 6 (.v 7 (.v 8 (.v 9 (.v 10 (.v 11 (.v 12 (.v 13 (.v 14 (.v 15 (.v 16 (.v 17 (.v 18 .nil))))))))))))))))))) moOrd (by kernel_rfl) (rm e e (zj e (vN e sl22) (zj e (zac e e) (rm e e (jD 7 95 h (λq143 h=>?_) λJ144 h hJ144=>rJ h (λg145 h=>?_) λg145 h=>rG e g145 (zm e) (zb h λy146 hy146 h=>rG e g145 (vX e e sl22 hy146) (rG e g145 (za ty5 e) (rG e g145 (vI e GAcc.f0 zrb ((tab2 (shr8 (tab1 y99) (4:UInt64).toNat)).lo)) (rG e g145 (za ty5 e) (rG e g145 (zeN e e) (zj e (zf e g145 e) (hJ144 h 7))))))))))))))
  ·refine rm e e (jD 7 103 h (λq147 h=>?_) λJ148 h hJ148=>rJ h (λg149 h=>?_) λg149 h=>rG e g149 (vI e GAcc.f1 zrf ((tab2 (shr8 (tab1 y99) (4:UInt64).toNat)).hi)) (rG e g149 (za ty5 e) (rG e g149 (zm e) (zb h λy150 hy150 h=>rG e g149 (vX e e sl22 hy150) (rG e g149 (za ty5 e) (rG e g149 (zeN e e) (zj e (zf e g149 e) (hJ148 h 7))))))))
   ·refine zah (zp (zd h e (λ_ h=>?_) (λ_ h=>wk (zi (om e (zad h λq151 h=>oV (zf1 (l:=q2) e hI sl22 (.inr ⟨_,e,e⟩) (.inl ⟨e,e⟩) q151.1 q151.2.1 q151.2.2) (oa e (rb (zw (hL3 h 37))))))))))
    exact ws (ar e (zx (zbP (zbP (rL3 _ (bn (ze (r1 e) k0 (iS h ▸ ⟨e,e⟩))))))))
   exact rP e g149 (rP e g149 (rP e g149 (rP e g149 (rP e g149 (rP e g149 (zj e (zg e g149 e) (hJ148 h 7)))))))
  exact rP e g145 (rP e g145 (rP e g145 (rP e g145 (rP e g145 (rP e g145 (zj e (zg e g145 e) (hJ144 h 7)))))))
 ·refine zE (zE (zG (.v 0 (.v 1 (.v 2 (.v 3 (.v 4 (.v 5 (.v 6 (.v 7 (.v 8 (.v 9 (.v 10 (.v 11 (.v 12 (.v 13 (.v 14 (.v 15 (.v 16 (.v 17 (.v 18 (.v 19 (.v 20 (.v 21 (.v 22 (.v 23 (.v 24 (.v 25 (.v 26 (.v 27 (.v 28 (.v 29 (.v 30 .nil))))))))))))))))))))))))))))))) moOrd (by kernel_rfl) (rm e e (zj e (vN e sl22) (zj e (zac e e) (rm e e (jD 7 118 h (λq152 h=>?_) λJ153 h hJ153=>rJ h (λg154 h=>?_) λg154 h=>rG e g154 (zm e) (zb h λy155 hy155 h=>rG e g154 (vX e e sl22 hy155) (rG e g154 (za ty5 e) (rG e g154 (vI e GAcc.f0 zrb ((tab2 (shr8 (tab1 y99) (4:UInt64).toNat)).lo)) (rG e g154 (za ty5 e) (rG e g154 (zeN e e) (zj e (zf e g154 e) (hJ153 h 7))))))))))))))
  ·refine rm e e (jD 7 126 h (λq156 h=>?_) λJ157 h hJ157=>rJ h (λg158 h=>?_) λg158 h=>rG e g158 (vI e GAcc.f1 zrf ((tab2 (shr8 (tab1 y99) (4:UInt64).toNat)).hi)) (rG e g158 (za ty5 e) (rG e g158 (zm e) (zb h λy159 hy159 h=>rG e g158 (vX e e sl22 hy159) (rG e g158 (za ty5 e) (rG e g158 (zeN e e) (zj e (zf e g158 e) (hJ157 h 7))))))))
   ·refine rm e e (jD 5 132 h (λq160 h=>?_) λJ161 h hJ161=>rJ h (λg162 h=>?_) λg162 h=>rG e g162 (zm e) (zb h λy163 hy163 h=>rG e g162 (vX e e sl22 hy163) (rG e g162 (za ty5 e) (rG e g162 (zeN e e) (zj e (zf e g162 e) (hJ161 h 5))))))
    ·refine rm e e (jD 5 138 h (λq164 h=>?_) λJ165 h hJ165=>rJ h (λg166 h=>?_) λg166 h=>rG e g166 (zm e) (zb h λy167 hy167 h=>rG e g166 (vX e e sl22 hy167) (rG e g166 (za ty5 e) (rG e g166 (zeN e e) (zj e (zf e g166 e) (hJ165 h 5))))))
     ·refine zah (zp (zd h e (λ_ h=>?_) (λ_ h=>wk (zi (om e (zad h λq168 h=>oV (zf1 (l:=q2) e hI sl22 (.inr ⟨_,e,e⟩) (.inl ⟨e,e⟩) q168.1 q168.2.1 q168.2.2) (oa e (rb (zw (hL3 h 43))))))))))
      exact ws (ar e (zx (zbP (zbP (rL3 _ (bn (ze (r1 e) k0 (iS h ▸ ⟨e,e⟩))))))))
     exact rP e g166 (rP e g166 (rP e g166 (rP e g166 (zj e (zg e g166 e) (hJ165 h 5)))))
    exact rP e g162 (rP e g162 (rP e g162 (rP e g162 (zj e (zg e g162 e) (hJ161 h 5)))))
   exact rP e g158 (rP e g158 (rP e g158 (rP e g158 (rP e g158 (rP e g158 (zj e (zg e g158 e) (hJ157 h 7)))))))
  exact rP e g154 (rP e g154 (rP e g154 (rP e g154 (rP e g154 (rP e g154 (zj e (zg e g154 e) (hJ153 h 7)))))))
 refine zE (zE (zG (.v 0 (.v 1 (.v 2 (.v 3 (.v 4 (.v 5 (.v 6 (.v 7 (.v 8 (.v 9 (.v 10 (.v 11 (.v 12 (.v 13 (.v 14 (.v 15 (.v 16 (.v 17 (.v 18 (.v 19 (.v 20 (.v 21 (.v 22 (.v 23 (.v 24 (.v 25 (.v 26 (.v 27 (.v 28 (.v 29 (.v 30 (.v 31 (.v 32 (.v 33 (.v 34 (.v 35 (.v 36 (.v 37 (.v 38 (.v 39 (.v 40 (.v 41 (.v 42 .nil))))))))))))))))))))))))))))))))))))))))))) moOrd (by kernel_rfl) (rm e e (zj e (vN e sl22) (zj e (zac e e) (rm e e (jD 7 153 h (λq169 h=>?_) λJ170 h hJ170=>rJ h (λg171 h=>?_) λg171 h=>rG e g171 (zm e) (zb h λy172 hy172 h=>rG e g171 (vX e e sl22 hy172) (rG e g171 (za ty5 e) (rG e g171 (vI e GAcc.f0 zrb ((tab2 (shr8 (tab1 y99) (4:UInt64).toNat)).lo)) (rG e g171 (za ty5 e) (rG e g171 (zeN e e) (zj e (zf e g171 e) (hJ170 h 7))))))))))))))
 ·refine rm e e (jD 7 161 h (λq173 h=>?_) λJ174 h hJ174=>rJ h (λg175 h=>?_) λg175 h=>rG e g175 (vI e GAcc.f1 zrf ((tab2 (shr8 (tab1 y99) (4:UInt64).toNat)).hi)) (rG e g175 (za ty5 e) (rG e g175 (zm e) (zb h λy176 hy176 h=>rG e g175 (vX e e sl22 hy176) (rG e g175 (za ty5 e) (rG e g175 (zeN e e) (zj e (zf e g175 e) (hJ174 h 7))))))))
  ·refine rm e e (jD 5 167 h (λq177 h=>?_) λJ178 h hJ178=>rJ h (λg179 h=>?_) λg179 h=>rG e g179 (zm e) (zb h λy180 hy180 h=>rG e g179 (vX e e sl22 hy180) (rG e g179 (za ty5 e) (rG e g179 (zeN e e) (zj e (zf e g179 e) (hJ178 h 5))))))
   ·refine rm e e (jD 5 173 h (λq181 h=>?_) λJ182 h hJ182=>rJ h (λg183 h=>?_) λg183 h=>rG e g183 (zm e) (zb h λy184 hy184 h=>rG e g183 (vX e e sl22 hy184) (rG e g183 (za ty5 e) (rG e g183 (zeN e e) (zj e (zf e g183 e) (hJ182 h 5))))))
    ·refine rm e e (jD 5 179 h (λq185 h=>?_) λJ186 h hJ186=>rJ h (λg187 h=>?_) λg187 h=>rG e g187 (zm e) (zb h λy188 hy188 h=>rG e g187 (vX e e sl22 hy188) (rG e g187 (za ty5 e) (rG e g187 (zeN e e) (zj e (zf e g187 e) (hJ186 h 5))))))
     ·refine rm e e (jD 5 185 h (λq189 h=>?_) λJ190 h hJ190=>rJ h (λg191 h=>?_) λg191 h=>rG e g191 (zm e) (zb h λy192 hy192 h=>rG e g191 (vX e e sl22 hy192) (rG e g191 (za ty5 e) (rG e g191 (zeN e e) (zj e (zf e g191 e) (hJ190 h 5))))))
      ·refine zah (zp (zd h e (λ_ h=>?_) (λ_ h=>wk (zi (om e (zad h λq193 h=>oV (zf1 (l:=q2) e hI sl22 (.inr ⟨_,e,e⟩) (.inl ⟨e,e⟩) q193.1 q193.2.1 q193.2.2) (oa e (rb (zw (hL3 h 49))))))))))
       exact ws (ar e (zx (zbP (zbP (rL3 _ (bn (ze (r1 e) k0 (iS h ▸ ⟨e,e⟩))))))))
      exact rP e g191 (rP e g191 (rP e g191 (rP e g191 (zj e (zg e g191 e) (hJ190 h 5)))))
     exact rP e g187 (rP e g187 (rP e g187 (rP e g187 (zj e (zg e g187 e) (hJ186 h 5)))))
    exact rP e g183 (rP e g183 (rP e g183 (rP e g183 (zj e (zg e g183 e) (hJ182 h 5)))))
   exact rP e g179 (rP e g179 (rP e g179 (rP e g179 (zj e (zg e g179 e) (hJ178 h 5)))))
  exact rP e g175 (rP e g175 (rP e g175 (rP e g175 (rP e g175 (rP e g175 (zj e (zg e g175 e) (hJ174 h 7)))))))
 exact rP e g171 (rP e g171 (rP e g171 (rP e g171 (rP e g171 (rP e g171 (zj e (zg e g171 e) (hJ170 h 7)))))))


theorem zjv {a_x a_i a_v zW zao r} (h:zce a_x a_i a_v=some r):Ctr Tryz.prog 183 [ptrv zW (Fld.id GMkOT),isv a_i,isv a_v] [boxE zW (GMkO a_x zao),vecE zao a_x.l] (Pt [isv r.1] [boxE zW (GMkO r.2 zao),vecE zao r.2.l]):=by
 unfold zce at h
 refine zh Tryz.func183 e λw0 S0 hT=>ws (oT (zma (y:=a_v) e hI λb2=>oT (zU _ ze26 λb3=>rn (ws (om e (oV (zn e) (oV (zV e zcz zdM) (oT (zaL (R:=vecv zao (a_x.l.length)) ty29 e p2 isvV1 (om e (zad h λq4 h=>oV (zdi (α:=GTyp) sl29 e e q4.1 q4.2) (zb h λy5 hy5 h=>oT (zdJ ty129 e (.there (.there (.there .here))) hy5 (oT (zU _ ze129 λb6=>oT (tS ty129 e e p0 y5 (zO (zaz 7 .here e) (rn (ws (oV (zV e Val.f0 zcw) (oT (tL ty3 e p1 a_v.kind (oV (vI e GTyp.f0 zbh y5.kind) (oV (za ty3 e) (oV (zC e e) (an e (ss (oV (vI e GTyp.f0 zbh y5.kind) (oV (za ty3 e) (rn ?_))))))))))))))))))))))))))))))
 refine jw h Unit (λq7 g7=>[(5,ptrv b2 (Fld.id Val)),(8,isv q7.1)]) (λq7 g7=>[boxE b2 (q7.2:Val)]) (a1 k0) (λq7 g7 h=>?_) λJ8 h hJ8=>zo (ss (oV (zC e e) (an e (jW 24 h (λq9 h=>?_) λJ10 h hJ10=>zd h e (λ_ h=>?_) (λ_ h=>zi (oV (zC e e) (oa e (zF (hJ10 h 2)))))))))
 ·refine ss (om e (oV (zaA e) (rn (jw h Unit (λq51 g51=>[]) (λq51 g51=>[boxE zW (GMkO q51 zao),vecE zao q51.l]) (a2 (a2 k0)) (λq51 g51 h=>?_) λJ52 h hJ52=>zd h e (λ_ h=>?_) (λ_ h=>zJ (hJ52 h () 0))))))
  ·exact ws (oT (tL ty26 e p2 q7.2 (oT (tS ty26 e e p3 q7.2 (rn (zbz (ze (.cell e .here ty26 .nil) (a1 (a1 k0)) (iS h ▸ ⟨e,e⟩))))))))
  exact zi (om e (zb h λy53 hy53 h=>oT (tC (zbZ hy53) hT (s2 e e) (a2 (a2 k0)) (zF (hJ52 h () 2)))))
 ·refine zd h e (λ_ h=>?_) (λ_ h=>ws (oV (zC e e) (an e (zd h e (λ_ h=>?_) (λ_ h=>ss (oV (zC e e) (an e (jW 37 h (λq15 h=>?_) λJ16 h hJ16=>zd h e (λ_ h=>?_) (λ_ h=>zi (oV (zC e e) (oa e (zF (hJ16 h 2)))))))))))))
  ·exact zJ (zw (hJ8 h () 3))
  ·refine zi (om e (om e (jO 6 36 h (λq11 h=>?_) λJ12 h hJ12=>oI h (λg13 h=>?_) λg13 h=>oN g13 (oN g13 (oN g13 (oN g13 (oN g13 (oV (zf e g13 e) (hJ12 h 6)))))))))
   ·exact oa e (rb (hJ8 h () 9))
   exact oG g13 (vI e GTyp.f2 zd1 y5.con) (oG g13 (za ty125 e) (oG g13 (zV e Val.f1 zbd) (oH g13 (tL ty2 e p1 a_v.n (zb h λy14 hy14 h=>oH g13 (tC (zfL hy14) hT (s2 e e) k0 (oV (zg e g13 e) (hJ12 h 6))))))))
  ·refine zd h e (λ_ h=>?_) (λ_ h=>ws (oV (zC e e) (an e (zd h e (λ_ h=>?_) (λ_ h=>zi (oa e (rb (hJ8 h () 11))))))))
   ·refine zi (om e (om e (jO 7 48 h (λq17 h=>?_) λJ18 h hJ18=>oI h (λg19 h=>?_) λg19 h=>oN g19 (oN g19 (oN g19 (oN g19 (oN g19 (oN g19 (oV (zf e g19 e) (hJ18 h 7))))))))))
    ·refine om e (jO 9 58 h (λq21 h=>?_) λJ22 h hJ22=>oI h (λg23 h=>?_) λg23 h=>oN g23 (oN g23 (oN g23 (oN g23 (oU (oU (oU (oN g23 (oV (zf e g23 e) (hJ22 h 9))))))))))
     ·exact oa e (rb (hJ8 h () 14))
     refine oG g23 (vI e GTyp.f0 zbh y5.kind) (oG g23 (za ty3 e) (oG g23 (zC e e) (oG g23 (zm e) (jO 4 57 h (λq24 h=>?_) λJ25 h hJ25=>oI h (λg26 h=>?_) λg26 h=>oG g26 (zV e Val.f2 zbN) (oH g26 (tL ty22 e p1 a_v.b (zb h λy27 hy27 h=>oH g26 (tC (ziO hy27) hT (s1 e) k0 (oG g23 (zf e g26 e) (hJ25 h 4))))))))))
     ·exact oV (zg e g23 e) (hJ22 h 6)
     exact oN g26 (oN g26 (oN g26 (oG g23 (zg e g26 e) (hJ25 h 4))))
    exact oG g19 (vI e GTyp.f2 zd1 y5.con) (oG g19 (za ty125 e) (oG g19 (zV e Val.f2 zbN) (oH g19 (tL ty22 e p1 a_v.b (oG g19 (vN e sl22) (zb h λy20 hy20 h=>oH g19 (tC (zfL hy20) hT (s2 e e) k0 (oV (zg e g19 e) (hJ18 h 7)))))))))
   refine ws (om e (rn (zd h e (λ_ h=>?_) (λ_ h=>zJ (zw (hJ8 h () 11))))))
   refine ws (an e (ws (an e (zo (lP h Unit () (λq28 g28=>[(5,ptrv b2 (Fld.id Val)),(8,isv q28.1),(9,isv q28.2.1)]) (λq28 g28=>[boxE b2 (q28.2.2:Val)]) (zu (j:=5) e hI (zu (j:=8) e hI (zu (j:=9) e hI zal))) (a1 k0) λL29 q28 g28 Q50 h hL29 eL29 rL29=>ss (om e (oV (vI e GTyp.f5 ze4 y5.root) (oV (za ty3 e) (oV (zac e e) (om e (jO 3 69 h (λq40 h=>?_) λJ41 h hJ41=>oI h (λg42 h=>?_) λg42 h=>oN g42 (oN g42 (oV (zf e g42 e) (hJ41 h 3))))))))))))))
   ·refine rn (zd h e (λ_ h=>?_) (λ_ h=>xn (eL29 _ _ (zs (zw (hJ8 h () 22))))))
    refine wk (zE (jw h Unit (λq43 g43=>[(5,ptrv b2 (Fld.id Val)),(8,isv q43.1)]) (λq43 g43=>[boxE b2 (q43.2:Val)]) k1 (λq43 g43 h=>?_) λJ44 h hJ44=>zo (zE (zez 5 .here e (λo45 hn46=>zG (.v 0 (.v 1 (.v 2 (.v 3 (.v 4 (.v 5 (.v 6 (.v 7 (.v 8 (.v 9 .nil)))))))))) moOrd (by kernel_rfl) (zj e (vI e GTyp.f3 zfy y5.items) (zj e (za ty126 e) (rm e e (zb h λy47 hy47 h=>zj e (vX e e sl126 hy47) (zj e (vI e GItem.f0 zkd y47.name) (zj e (za ty9 e) (zj e (zif e Val.f2 zbN) (zj e (vP ty22 e m0 q28.2.2.b) (zj e (zld (l:=q28.2.2.b) Tryz.underlying22 Tryz.underlying5 Tryz.underlying9 e hI) (zj e (zcL eq9 e e) (zah (zbn 5 hn46 e (zp (zd h e (λ_ h=>?_) (λ_ h=>zJ (zw (hJ44 h () 12))))))))))))))))))))))
    ·exact zi (om e (zt h λq49 h=>oV (zX e e q49) (oa e (zF (hL29 h () 14)))))
    exact zi (oV (vI e GTyp.f3 zfy y5.items) (oV (za ty126 e) (om e (zb h λy48 hy48 h=>oV (vX e e sl126 hy48) (oV (vI e GItem.f1 zdL y48.number) (oV (za ty2 e) (oV (zak (z:=(Val.mk (3:Int) y48.number ([]:(List UInt8)) ([]:(List Val)) (0:Int) ([]:(List Raw)))) e bu26 ze26 (.cons Val.f0 zcw e hI (.cons Val.f1 zbd e hI .nil))) (oT (tS ty26 e e p0 ⟨3,y48.number,[],[],0,[]⟩ (oa e (rb (hJ44 h () 20))))))))))))
   exact oG g42 (zm e) (oG g42 (zaA e) (oV (zg e g42 e) (hJ41 h 3)))
  exact zJ (hJ16 h 0)
 exact zJ (hJ10 h 0)


theorem zh1 {a_x a_i zW zao r} (h:zc2 a_x a_i=some r):Ctr Tryz.prog 102 [ptrv zW (Fld.id GMkOT),isv a_i] [boxE zW (GMkO a_x zao),vecE zao a_x.l] (Pt [isv r.1] [boxE zW (GMkO r.2 zao),vecE zao r.2.l]):=by
 unfold zc2 at h
 refine zh Tryz.func102 e λw0 S0 hT=>ws (an e (ss (om e (oV (zn e) (oV (zV e zcz zdM) (oT (zaL (R:=vecv zao (a_x.l.length)) ty29 e p0 isvV1 (om e (zad h λq2 h=>oV (zdi (α:=GTyp) sl29 e e q2.1 q2.2) (oV (zkE e GTyp.f1 zeZ) (zb h λy3 hy3 h=>oT (zdJ ty123 e (.there .here) hy3 (oV (vN e sl123) (oV (zbw e e) (rn (zd h e (λ_ h=>?_) (λ_ h=>wk (ws (ar e (ze (r1 e) k2 (iS h ▸ ⟨e,e⟩)))))))))))))))))))))
 exact ws (ar e (zx (ze (r1 e) k2 (iS h ▸ ⟨e,e⟩))))


theorem zqS {zeq zcJ zhS r} (h:zjC zeq zcJ zhS=some r):Ctr Tryz.prog 154 [isv zeq,isv zcJ,isv zhS] [] (Pt [isv r.1,isv r.2] []):=by
 unfold zjC at h
 refine zh Tryz.func154 e λw0 S0 hT=>ws (oa e (an e (ss (om e (oV (zac e e) (om e (jO 3 14 h (λq1 h=>?_) λJ2 h hJ2=>oI h (λg3 h=>?_) λg3 h=>oG g3 (zm e) (oG g3 (zbw e e) (oV (zf e g3 e) (hJ2 h 3))))))))))
 ·refine om e (jO 8 23 h (λq4 h=>?_) λJ5 h hJ5=>oI h (λg6 h=>?_) λg6 h=>oG g6 (zm e) (oG g6 (zC e e) (oG g6 (zm e) (jO 4 22 h (λq7 h=>?_) λJ8 h hJ8=>oI h (λg9 h=>?_) λg9 h=>oN g9 (oN g9 (oN g9 (oG g6 (zf e g9 e) (hJ8 h 4))))))))
  ·refine rn (zd h e (λ_ h=>?_) (λ_ h=>wk (ws (om e (oV (zak (z:=(Tag.mk (2:Int) zcJ)) e bu206 ze206 (.cons Tag.f0 zfE e hI (.cons Tag.f1 zdz e hI .nil))) (oT (zB (l:=([(Tag.mk (2:Int) zcJ)]:(List Tag))) el123 (.cons e hI .nil) e e (an e (ss (om e (oV (zC e e) (rn (zd h e (λ_ h=>?_) (λ_ h=>wk (ws (om e (om e (zO (zaW) (zR h λq15 h=>oT (zbY (l:=([(Tag.mk (2:Int) zcJ)]:(List Tag))) (m:=zeq) zfh e hI e hI .here q15 λt14=>oa e (ar e (ze (.as e zz (.tmp e .nil)) k0 (iS h ▸ ⟨e,e⟩)))))))))))))))))))))))
   ·exact ws (oa e (ar e (zx (ze (.as e (zdQ (α:=Tag)) (.tmp e .nil)) k0 (iS h ▸ ⟨e,e⟩)))))
   exact ws (om e (om e (zad h λq11 h=>oV (zf1 (l:=zeq) e hI sl123 (.inr ⟨_,e,e⟩) (.inl ⟨e,e⟩) q11.1 q11.2.1 q11.2.2) (zO (zaW) (zR h λq13 h=>oT (zbY (l:=([(Tag.mk (2:Int) zcJ)]:(List Tag))) (m:=((zeq.take ((zeq.length:Int)).toNat).drop ((1:Int)).toNat)) zfh e hI e hI .here q13 λt12=>oa e (ar e (zx (ze (.as e zz (.tmp e .nil)) k0 (iS h ▸ ⟨e,e⟩))))))))))
  ·exact oN g6 (oN g6 (oN g6 (oU (oU (oU (oN g6 (oV (zg e g6 e) (hJ5 h 8))))))))
  ·exact oV (zf e g6 e) (hJ5 h 5)
  exact oG g9 (zm e) (oG g9 (vN e sl123) (oG g9 (zC e e) (oG g6 (zg e g9 e) (hJ8 h 4))))
 exact oN g3 (oN g3 (oV (zg e g3 e) (hJ2 h 3)))


theorem zh9 {a_x a_i zcJ zhS zW zao r} (h:zc9 a_x a_i zcJ zhS=some r):Ctr Tryz.prog 103 [ptrv zW (Fld.id GMkOT),isv a_i,isv zcJ,isv zhS] [boxE zW (GMkO a_x zao),vecE zao a_x.l] (Pt [] [boxE zW (GMkO r zao),vecE zao r.l]):=by
 unfold zc9 at h
 refine zh Tryz.func103 e λw0 S0 hT=>ss (om e (oV (zn e) (oV (zV e zdx ze5) (oT (tL ty38 e p0 a_x.e (oV (zaQ e e) (rn (zd h e (λ_ h=>?_) (λ_ h=>wk (ws (om e (oV (zn e) (oV (zV e zcz zdM) (oT (zaL (R:=vecv zao (a_x.l.length)) ty29 e p0 isvV1 (om e (zad h λq2 h=>oV (zdi (α:=GTyp) sl29 e e q2.1 q2.2) (oV (zkE e GTyp.f1 zeZ) (zb h λy3 hy3 h=>oT (zdJ ty123 e (.there .here) hy3 (om e (om e (zb h λy4 hy4 h=>oT (tC (zqS hy4) hT (s3 e e e) k0 (om e (oV (zD e e) (oV (zD e e) (oa e (an e ?_)))))))))))))))))))))))))))))
 ·exact zbz (zx (ze .nil k2 (iS h ▸ ⟨e,e⟩)))
 refine ss (om e (oV (zaQ e e) (rn (zd h e (λ_ h=>?_) (λ_ h=>wk (zi (om e (oV (zn e) (oV (zV e zcz zdM) (oT (zaL (R:=vecv zao (a_x.l.length)) ty29 e p0 isvV1 (om e (om e (zad h λq6 h=>oV (zdi (α:=GTyp) sl29 e e q6.1 q6.2) (oV (zkE e GTyp.f1 zeZ) (zb h λy7 hy7 h=>oT (zgC ty123 e e (.there .here) hy7 (zO (zkn (y:=(GMkO {a_x with l:=(a_x.l.set a_i.toNat ({ y7 with tags:=y4.1 }))} zao)) (.there .here) (λS=>(Cv.pair Cv.id (Cv.pair (Cv.vhe (by first | rfl | simp)) Cv.id)))) (zF (zaD .nil k2 (iS h ▸ ⟨e,e⟩)))))))))))))))))))))
 exact ws (om e (om e (zb h λy5 hy5 h=>oT (tC (zbZ hy5) hT (s2 e e) k2 (rn (zbz (zx (ze .nil k2 (iS h ▸ ⟨e,e⟩)))))))))


def zi8 (f':(List GTyp)->Int->Option (Bool)):Prop :=
 ∀ {a_l a_i zlr r},f' a_l a_i=some r->Ctr Tryz.prog 235 [vecv zlr (a_l.length),isv a_i] [vecE zlr a_l] (Pt [isv r] [vecE zlr a_l])
theorem zqe {zki} (zqX:zi8 zki):zi8 (zg5 zki):=by
 intro a_l a_i zlr r h
 unfold zg5 at h
 refine zh Tryz.func235 e λw0 S0 hT=>ws (an e (ss (om e (om e (zad h λq1 h=>oV (zdi (α:=GTyp) sl29 e e q1.1 q1.2) (oV (zkE e GTyp.f0 zbh) (zb h λy2 hy2 h=>oT (zdJ ty3 e .here hy2 (oV (zaQ e e) (om e (jO 8 21 h (λq3 h=>?_) λJ4 h hJ4=>oI h (λg5 h=>?_) λg5 h=>oG g5 (zm e) (oG g5 (zm e) (zad h λq6 h=>oG g5 (zdi (α:=GTyp) sl29 e e q6.1 q6.2) (oG g5 (zkE e GTyp.f1 zeZ) (zb h λy7 hy7 h=>oH g5 (zdJ ty123 e .here hy7 (oG g5 (vN e sl123) (oG g5 (zbw e e) (oV (zf e g5 e) (hJ4 h 8))))))))))))))))))))
 ·refine rn (zd h e (λ_ h=>?_) (λ_ h=>wk (ws (om e (om e (zad h λq8 h=>oV (zdi (α:=GTyp) sl29 e e q8.1 q8.2) (oV (zkE e GTyp.f6 zhF) (zb h λy9 hy9 h=>oT (zdJ ty4 e .here hy9 (an e (ss (an e (zo (lP h Unit () (λq10 g10=>[(5,isv q10.1),(6,isv q10.2)]) (λq10 g10=>[]) (zu (j:=5) e hI (zu (j:=6) e hI zal)) k0 λL11 q10 g10 Q32 h hL11 eL11 rL11=>ss (om e (om e (om e (zad h λq22 h=>oV (zdi (α:=GTyp) sl29 e e q22.1 q22.2) (oV (zkE e GTyp.f4 zaB) (zb h λy23 hy23 h=>oT (zdJ ty127 e .here hy23 (oV (vN e sl127) (oV (zac e e) (rn (zd h e (λ_ h=>?_) (λ_ h=>xn ?_))))))))))))))))))))))))))
  ·exact ws (ar e (zx (ze (r1 e) k1 (iS h ▸ ⟨e,e⟩))))
  ·refine wk (zE (zo (zi (om e (om e (jO 12 50 h (λq24 h=>?_) λJ25 h hJ25=>oI h (λg26 h=>?_) λg26 h=>oG g26 (zm e) (oG g26 (zm e) (oG g26 (zm e) (zad h λq27 h=>oG g26 (zdi (α:=GTyp) sl29 e e q27.1 q27.2) (oG g26 (zkE e GTyp.f4 zaB) (zb h λy28 hy28 h=>oH g26 (zdJ ty127 e .here hy28 (oG g26 (zm e) (zb h λy29 hy29 h=>oG g26 (vX e e sl127 hy29) (oG g26 (vI e GFld.f1 zcr y29.ty) (oG g26 (za ty3 e) (zb h λy30 hy30 h=>oH g26 (tC (zqX hy30) hT (.cons e (λ_ _ h=>vecvE (by first | rfl | simp) _ _ h) (.same e .nil)) k1 (oV (zf e g26 e) (hJ25 h 12))))))))))))))))))))
   ·exact oa e (rb (zp (zi (om e (zt h λq31 h=>oV (zX e e q31) (oa e (zF (hL11 h () 17))))))))
   exact oN g26 (oN g26 (oN g26 (oN g26 (oN g26 (oN g26 (oN g26 (oN g26 (oN g26 (oN g26 (oN g26 (oV (zg e g26 e) (hJ25 h 12))))))))))))
  exact eL11 _ _ (zs (zp (ws (om e (ar e (ze (r1 e) k1 (iS h ▸ ⟨e,e⟩)))))))
 exact oN g5 (oN g5 (oN g5 (oN g5 (oN g5 (oN g5 (oN g5 (oV (zg e g5 e) (hJ4 h 8))))))))

theorem zjR:∀ n,zi8 (zjo n)
  | 0=>λh=>(by cases h)
  | n + 1=>zqe (zjR n)
theorem zqP (n:Nat):zi8 (zjo n):=(zjR n)

def zgP (f':(List GTyp)->Int->Option ((List Tag))):Prop :=
 ∀ {a_l a_i zlr r},f' a_l a_i=some r->Ctr Tryz.prog 212 [vecv zlr (a_l.length),isv a_i] [vecE zlr a_l] (Pt [isv r] [vecE zlr a_l])
theorem zn5 {zhN} (zo2:zgP zhN):zgP (zfI zhN):=by
 intro a_l a_i zlr r h
 unfold zfI at h
 refine zh Tryz.func212 e λw0 S0 hT=>ws (an e (ss (om e (om e (zad h λq1 h=>oV (zdi (α:=GTyp) sl29 e e q1.1 q1.2) (oV (zkE e GTyp.f1 zeZ) (zb h λy2 hy2 h=>oT (zdJ ty123 e .here hy2 (oV (vN e sl123) (oV (zbw e e) (rn (zd h e (λ_ h=>?_) (λ_ h=>wk (ws (an e (ss (an e (zo (zhE (zaW) (lP h Tok none (λq6 g6=>[(5,appv g6 q6.1),(6,isv q6.2)]) (λq6 g6=>[tokE g6]) (zu (j:=5) e zcC (zu (j:=6) e hI zal)) k1 λL7 q6 g6 Q27 h hL7 eL7 rL7=>ss (om e (om e (om e (zad h λq17 h=>oV (zdi (α:=GTyp) sl29 e e q17.1 q17.2) (oV (zkE e GTyp.f4 zaB) ?_)))))))))))))))))))))))))
 ·exact ws (om e (om e (zad h λq3 h=>oV (zdi (α:=GTyp) sl29 e e q3.1 q3.2) (oV (zkE e GTyp.f1 zeZ) (zb h λy4 hy4 h=>oT (zdJ ty123 e .here hy4 (zad h λq5 h=>oV (zf1 (l:=y4.tags) e hI sl123 (.inl ⟨e,e⟩) (.inr ⟨_,e,e⟩) q5.1 q5.2.1 q5.2.2) (ar e (zx (ze (r1 e) k1 (iS h ▸ ⟨e,e⟩)))))))))))
 refine zb h λy18 hy18 h=>oT (zdJ ty127 e (.there .here) hy18 (oV (vN e sl127) (oV (zac e e) (rn (zd h e (λ_ h=>?_) (λ_ h=>xn (eL7 _ _ (zs (zp (ws (om e (ar e (ze (.as e zz .nil) (a1 k0) (iS h ▸ ⟨e,e⟩))))))))))))))
 refine wk (zE (zo (zi (om e (om e (om e (om e (zad h λq19 h=>oV (zdi (α:=GTyp) sl29 e e q19.1 q19.2) (oV (zkE e GTyp.f4 zaB) (zb h λy20 hy20 h=>oT (zdJ ty127 e (.there .here) hy20 (om e (zb h λy21 hy21 h=>oV (vX e e sl127 hy21) (oV (vI e GFld.f1 zcr y21.ty) (oV (za ty3 e) (zb h λy22 hy22 h=>oT (tC (zo2 hy22) hT (.cons e (λ_ _ h=>vecvE (by first | rfl | simp) _ _ h) (.same e .nil)) (a1 k0) (zR h λq24 h=>oT (zbY (l:=q6.1) (m:=y22) zfh e hI e hI (.there .here) q24 λt23=>oa e (rb (zp (zi (om e (zt h λq25 h=>oV (zX e e q25) (oa e ?_)))))))))))))))))))))))))
 exact zF (hL7 h t23 27)

theorem zh2:∀ n,zgP (zhh n)
  | 0=>λh=>(by cases h)
  | n + 1=>zn5 (zh2 n)
theorem zoR (n:Nat):zgP (zhh n):=(zh2 n)

theorem zjI {a_l a_x r} (h:zeD a_l a_x=some r):Ctr Tryz.prog 178 [isv a_l,isv a_x] [] (Pt [isv r] []):=by
 unfold zeD at h
 refine zh Tryz.func178 e λw0 S0 hT=>ws (oT (tB e (an e (ss (an e (zo (lO 5 h e λL2 q1 Q7 h hL2 eL2 rL2=>ss (om e (om e (oV (vN e sl123) (oV (zac e e) (rn (zd h e (λ_ h=>?_) (λ_ h=>xn (eL2 _ _ (zs (zp (ws (ar e (ze (r1 e) k0 (iS h ▸ ⟨e,e⟩)))))))))))))))))))))
 refine wk (zE (zo (zE (zG (.v 0 (.v 1 (.v 2 (.v 3 (.v 4 (.v 5 .nil)))))) moOrd (by kernel_rfl) (rm e e (rm e e (zb h λy5 hy5 h=>zj e (vX e e sl123 hy5) (zj e (za ty206 e) (zj e (za ty206 e) (zj e (zcL eq206 e e) (zah (zp (zd h e (λ_ h=>?_) (λ_ h=>zJ (zw (zp (zi (om e (zt h λq6 h=>oV (zX e e q6) (oa e (zF (hL2 h 14))))))))))))))))))))))
 exact ws (ar e (bn (rL2 _ (bn (ze (r1 e) k0 (iS h ▸ ⟨e,e⟩))))))


theorem zni {zkU r} (h:zfX zkU=some r):Ctr Tryz.prog 236 [isv zkU] [] (Pt [isv r] []):=by
 unfold zfX at h
 refine zh Tryz.func236 e λw0 S0 hT=>ws (an e (ws (an e (ss (an e (zo (zhE (zaW) (lP h Tok none (λq1 g1=>[(3,appv g1 q1.1),(4,isv q1.2)]) (λq1 g1=>[tokE g1]) (zu (j:=3) e zcC (zu (j:=4) e hI zal)) k1 λL2 q1 g1 Q55 h hL2 eL2 rL2=>ss (om e (om e (oV (vN e sl291) (oV (zac e e) (rn (zd h e (λ_ h=>?_) (λ_ h=>xn (eL2 _ _ (zs (zp (ws (ar e (ze (r1 e) k0 (iS h ▸ ⟨e,e⟩))))))))))))))))))))))
 refine wk (zE (zo (ws (an e (zo (lP h Tok g1 (λq29 g29=>[(3,appv g29 q29.1),(5,isv q29.2)]) (λq29 g29=>[tokE g29]) (zu (j:=3) e hI (zu (j:=5) e hI zal)) k1 λL30 q29 g29 Q53 h hL30 eL30 rL30=>ss (om e (om e (om e (zb h λy42 hy42 h=>oV (vX e e sl291 hy42) (oV (za ty123 e) (oV (vN e sl123) (oV (zac e e) (rn (zd h e (λ_ h=>?_) (λ_ h=>xn (eL30 _ _ (zs (zw (zp (zi (om e (zt h λq52 h=>oV (zX e e q52) (oa e (zF (hL2 h g29 19))))))))))))))))))))))))))
 refine wk (zE (zo (ss (om e (om e (om e (zb h λy43 hy43 h=>oV (vX e e sl291 hy43) (oV (za ty123 e) (om e (zb h λy44 hy44 h=>oV (vX e e sl123 hy44) (oV (za ty206 e) (zb h λy45 hy45 h=>oT (tC (zjI hy45) hT (.cons e zz (.same e .nil)) k0 (rn (zd h e (λ_ h=>?_) (λ_ h=>wk (zi (om e (om e (om e (zb h λy46 hy46 h=>oV (vX e e sl291 hy46) (oV (za ty123 e) (om e (zb h λy47 hy47 h=>oV (vX e e sl123 hy47) (oV (za ty206 e) ?_)))))))))))))))))))))))))
 ·exact ws (ar e (zx (bn (rL30 _ (zbP (bn (rL2 _ (bn (ze (r1 e) k0 (iS h ▸ ⟨e,e⟩))))))))))
 exact oT (zB (l:=([y47]:(List Tag))) el123 (.cons e hI .nil) e e (zR h λq50 h=>oT (zbY (l:=q29.1) (m:=([y47]:(List Tag))) zfh e hI e zz .here q50 λt49=>oa e (rb (zp (zi (om e (zt h λq51 h=>oV (zX e e q51) (oa e (zF (hL30 h t49 32)))))))))))


theorem zgh {a_x a_l zmH zW zao r} (h:zcb a_x a_l zmH=some r):Ctr Tryz.prog 214 [ptrv zW (Fld.id GMkOT),isv a_l,isv zmH] [boxE zW (GMkO a_x zao),vecE zao a_x.l] (Pt [isv r.1] [boxE zW (GMkO r.2 zao),vecE zao r.2.l]):=by
 unfold zcb at h
 refine zh Tryz.func214 e λw0 S0 hT=>ws (an e (ws (an e (ss (an e (zo (zhE (zaW) (lP h Tok none (λq2 g2=>[(0,ptrv zW (Fld.id GMkOT)),(7,appv g2 q2.1),(8,isv q2.2)]) (λq2 g2=>[tokE g2]) (zu (j:=0) e hI (zu (j:=7) e zcC (zu (j:=8) e hI zal))) k1 λL3 q2 g2 Q43 h hL3 eL3 rL3=>ss (om e (om e (oV (vN e sl127) (oV (zac e e) (rn (zd h e (λ_ h=>?_) (λ_ h=>xn (eL3 _ _ (zs (zp (ws (om e (zb h λy41 hy41 h=>oT (tC (zni hy41) hT (.cons e zz .nil) k0 (ar e (ze (r1 e) (a1 (a1 k0)) (iS h ▸ ⟨e,e⟩)))))))))))))))))))))))))
 refine wk (zE (zo (zE (zE (zez 0 (.there .here) e (λo23 hn24=>zG (.v 0 (.v 1 (.v 2 (.v 3 (.v 4 (.v 5 (.v 6 (.v 7 (.v 8 (.t 9 (.v 10 (.v 11 (.v 12 (.v 13 (.v 14 (.v 15 (.v 16 (.v 17 .nil)))))))))))))))))) moOrd (by kernel_rfl) (rm e e (zj e (zcq e) (zj e (zif e zcz zdM) (zj e (zrE (R:=vecv zao (a_x.l.length)) ty29 e m0 isvV1) (rm e e (rm e e (zb h λy25 hy25 h=>zj e (vX e e sl127 hy25) (zj e (vI e GFld.f1 zcr y25.ty) (zj e (za ty3 e) (zb h λy26 hy26 h=>rT e (tC (zqP fuel hy26) hT (.cons e (λ_ _ h=>vecvE (by first | rfl | simp) _ _ h) (.same e .nil)) (a1 k0) (rm e e (jD 7 32 h (λq27 h=>?_) λJ28 h hJ28=>rJ h (λg29 h=>?_) λg29 h=>rP e g29 (rP e g29 (rU e (rU e (rU e (rP e g29 (zj e (zf e g29 e) (hJ28 h 7))))))))))))))))))))))))))
 ·refine zah (zbn 0 hn24 e (zp (zd h e (λ_ h=>?_) (λ_ h=>wk (zez 0 .here e (λo33 hn34=>zG (.v 0 (.v 1 (.v 2 (.v 3 (.v 4 (.v 5 (.v 6 (.v 7 (.v 8 (.v 9 (.t 10 (.t 11 (.t 12 (.v 13 .nil)))))))))))))) moOrd (by kernel_rfl) (rm e e (rm e e (zj e (zcq e) (zj e (zif e zcz zdM) (zj e (zrE (R:=vecv zao (a_x.l.length)) ty29 e m0 isvV1) (rm e e (rm e e (zb h λy35 hy35 h=>zj e (vX e e sl127 hy35) (zj e (vI e GFld.f1 zcr y35.ty) (zj e (za ty3 e) (zb h λy36 hy36 h=>rT e (tC (zoR fuel hy36) hT (.cons e (λ_ _ h=>vecvE (by first | rfl | simp) _ _ h) (.same e .nil)) k1 (rT e (zB (l:=([y36]:(List (List Tag)))) el291 (.cons e hI .nil) e e (zR h λq39 h=>rT e (zbY (l:=q2.1) (m:=([y36]:(List (List Tag)))) zr9 e hI e zz (.there .here) q39 λt38=>zj e (zar e) (zah (zbn 0 hn34 e (zw (zp (zi (om e ?_))))))))))))))))))))))))))))
  ·exact ws (ar e (zx (bn (rL3 _ (bn (ze (r1 e) k2 (iS h ▸ ⟨e,e⟩)))))))
  exact zt h λq40 h=>oV (zX e e q40) (oa e (zF (hL3 h t38 40)))
 refine rG e g29 (zm e) (rG e g29 (zm e) (jD 4 31 h (λq30 h=>?_) λJ31 h hJ31=>rJ h (λg32 h=>?_) λg32 h=>rG e g32 (zm e) (rG e g32 (vN e sl127) (rG e g32 (zbw e e) (rG e g29 (zf e g32 e) (hJ31 h 4))))))
 ·exact zj e (zg e g29 e) (hJ28 h 4)
 exact rP e g32 (rP e g32 (rP e g32 (rG e g29 (zg e g32 e) (hJ31 h 4))))


theorem zmt {a_t r} (h:zgZ a_t=some r):Ctr Tryz.prog 211 [isv a_t] [] (Pt [isv r] []):=by
 unfold zgZ at h
 refine zh Tryz.func211 e λw0 S0 hT=>ws (oT (tB e (an e (ws (an e (ss (an e (zo (zhE (zaW) (lP h Tok none (λq1 g1=>[(3,appv g1 q1.1),(4,isv q1.2)]) (λq1 g1=>[tokE g1]) (zu (j:=3) e zcC (zu (j:=4) e hI zal)) k1 λL2 q1 g1 Q28 h hL2 eL2 rL2=>ss (om e (oV (vI e GTyp.f4 zaB a_t.fields) (oV (za ty127 e) (oV (vN e sl127) (oV (zac e e) (rn (zd h e (λ_ h=>?_) (λ_ h=>xn (eL2 _ _ (zs (zp (ws (om e (ar e (ze (.as e zz .nil) k0 (iS h ▸ ⟨e,e⟩))))))))))))))))))))))))))
 refine wk (zE (zo (zi (om e (oV (vI e GTyp.f4 zaB a_t.fields) (oV (za ty127 e) (om e (zb h λy15 hy15 h=>oV (vX e e sl127 hy15) (oV (vI e GFld.f2 zj6 y15.optional) (oV (za ty4 e) (om e (jO 7 26 h (λq16 h=>?_) λJ17 h hJ17=>oI h (λg18 h=>?_) λg18 h=>oG g18 (vI e GTyp.f4 zaB a_t.fields) (oG g18 (za ty127 e) (oG g18 (zm e) (zb h λy19 hy19 h=>oG g18 (vX e e sl127 hy19) (oG g18 (vI e GFld.f3 zgT y19.has) (oG g18 (za ty4 e) (oV (zf e g18 e) (hJ17 h 7)))))))))))))))))))
 ·refine om e (jO 5 32 h (λq20 h=>?_) λJ21 h hJ21=>oI h (λg22 h=>?_) λg22 h=>oG g22 (zm e) (oG g22 (vI e GTyp.f5 ze4 a_t.root) (oG g22 (za ty3 e) (oG g22 (zcY e e) (oV (zf e g22 e) (hJ21 h 5))))))
  ·exact oT (zB (l:=([q20]:(List Bool))) el263 (.cons e hI .nil) e e (zR h λq25 h=>oT (zbY (l:=q1.1) (m:=([q20]:(List Bool))) zs5 e hI e zz .here q25 λt24=>oa e (rb (zp (zi (om e (zt h λq26 h=>oV (zX e e q26) (oa e (zF (hL2 h t24 24)))))))))))
  exact oN g22 (oN g22 (oN g22 (oN g22 (oV (zg e g22 e) (hJ21 h 5)))))
 exact oN g18 (oN g18 (oN g18 (oN g18 (oN g18 (oN g18 (oV (zg e g18 e) (hJ17 h 7)))))))


theorem znz {a_t r} (h:zir a_t=some r):Ctr Tryz.prog 177 [isv a_t] [] (Pt [isv r] []):=by
 unfold zir at h
 refine zh Tryz.func177 e λw0 S0 hT=>ws (oT (tB e (an e (ws (oV (za ty129 e) (zb h λy1 hy1 h=>oT (tC (zmt hy1) hT (s1 e) k0 (an e (ws (oV (vI e GTyp.f5 ze4 a_t.root) (oV (za ty3 e) (an e (zE (zo (lO 4 h e λL3 q2 Q16 h hL3 eL3 rL3=>ss (om e (oV (zbw e e) (om e (jO 6 17 h (λq10 h=>?_) λJ11 h hJ11=>oI h (λg12 h=>?_) λg12 h=>oN g12 (oN g12 (oN g12 (oN g12 (oN g12 (oV (zf e g12 e) (hJ11 h 6)))))))))))))))))))))))))
 ·refine rn (zd h e (λ_ h=>?_) (λ_ h=>xn (eL3 _ _ (zs (zp (ws (om e (ar e (ze (r1 e) k0 (iS h ▸ ⟨e,e⟩))))))))))
  exact wk (zo (zi (om e (zt h λq15 h=>oV (zdR e e q15) (oa e (rb (hL3 h 8)))))))
 exact oG g12 (zm e) (oG g12 (zm e) (zt h λq13 h=>oG g12 (zdR e e q13) (zb h λy14 hy14 h=>oG g12 (vX e e sl263 hy14) (oG g12 (za ty4 e) (oV (zg e g12 e) (hJ11 h 6))))))


theorem zlp {a_x a_t zW zao r} (h:zdd a_x a_t=some r):Ctr Tryz.prog 184 [ptrv zW (Fld.id GMkOT),isv a_t] [boxE zW (GMkO a_x zao),vecE zao a_x.l] (Pt [isv r.1] [boxE zW (GMkO r.2 zao),vecE zao r.2.l]):=by
 unfold zdd at h
 refine zh Tryz.func184 e λw0 S0 hT=>ws (oT (tB e (an e (ss (oV (vI e GTyp.f0 zbh a_t.kind) (oV (za ty3 e) (oV (zaQ e e) (rn (zd h e (λ_ h=>?_) (λ_ h=>wk (ws (oV (za ty129 e) (zb h λy3 hy3 h=>oT (tC (zmt hy3) hT (s1 e) k0 (an e (ss (an e (zo (lP h Unit () (λq4 g4=>[(6,isv q4.1)]) (λq4 g4=>[boxE zW (GMkO q4.2 zao),vecE zao q4.2.l]) (zu (j:=6) e hI zal) k2 λL5 q4 g4 Q66 h hL5 eL5 rL5=>ss (om e (oV (vI e GTyp.f4 zaB a_t.fields) (oV (za ty127 e) (oV (vN e sl127) (oV (zac e e) (rn (zd h e (λ_ h=>?_) (λ_ h=>xn (eL5 _ _ ?_))))))))))))))))))))))))))))
 ·exact ws (om e (oV (vI e GTyp.f4 zaB a_t.fields) (oV (za ty127 e) (oV (vI e GTyp.f6 zhF a_t.more) (oV (za ty4 e) (zb h λy2 hy2 h=>oT (tC (zgh hy2) hT (s3 e e e) k2 (ar e (zx (ze (r1 e) k2 (iS h ▸ ⟨e,e⟩)))))))))))
 ·refine wk (zE (jw h Unit (λq36 g36=>[]) (λq36 g36=>[boxE zW (GMkO q36 zao),vecE zao q36.l]) k2 (λq36 g36 h=>?_) λJ37 h hJ37=>zo (ss (om e (om e (zb h λy38 hy38 h=>oV (vX e e sl263 hy38) (oV (za ty4 e) (oV (zaA e) (rn (zd h e (λ_ h=>?_) (λ_ h=>wk (ws (om e (zt h λq39 h=>oV (zX e e q39) (an e (zE (zo (lO 7 h e λL41 q40 Q58 h hL41 eL41 rL41=>ss (om e (oV (vI e GTyp.f4 zaB a_t.fields) (oV (za ty127 e) (oV (vN e sl127) (oV (zac e e) (om e (jO 5 43 h (λq50 h=>?_) λJ51 h hJ51=>?_)))))))))))))))))))))))))
  ·exact zi (om e (zt h λq59 h=>oV (zX e e q59) (oa e (zF (hL5 h () 9)))))
  ·exact xn (zs (hJ37 h () 5))
  ·refine rn (zd h e (λ_ h=>?_) (λ_ h=>xn (eL41 _ _ (zs (zp (ws (om e (oV (vI e GTyp.f4 zaB a_t.fields) (oV (za ty127 e) (om e (om e (zt h λq55 h=>oV (zX e e q55) (oV (vI e GTyp.f4 zaB a_t.fields) (oV (za ty127 e) (oV (vN e sl127) (oV (zvw e e) (zad h λq56 h=>oV (zf1 (l:=a_t.fields) e hI sl127 (.inr ⟨_,e,e⟩) (.inr ⟨_,e,e⟩) q56.1 q56.2.1 q56.2.2) (zb h λy57 hy57 h=>oT (tC (zgh hy57) hT (s3 e e e) k2 (oV (zaA e) (rn (zd h e (λ_ h=>?_) (λ_ h=>zJ (zw (hJ37 h () 29)))))))))))))))))))))))))
   ·exact wk (zo (zi (om e (zt h λq54 h=>oV (zX e e q54) (oa e (rb (hL41 h 11)))))))
   exact ws (ar e (bn (rL5 _ (bn (ze (r1 e) k2 (iS h ▸ ⟨e,e⟩))))))
  refine oI h (λg52 h=>?_) λg52 h=>oN g52 (oN g52 (oN g52 (oN g52 (oV (zf e g52 e) (hJ51 h 5)))))
  exact oG g52 (zm e) (oG g52 (zm e) (zb h λy53 hy53 h=>oG g52 (vX e e sl263 hy53) (oG g52 (za ty4 e) (oV (zg e g52 e) (hJ51 h 5)))))
 refine zs (zp (zE (zG (.v 0 (.v 1 (.v 2 (.v 3 (.v 4 (.v 5 (.v 6 (.v 7 (.t 8 (.v 9 (.t 10 (.v 11 (.v 12 .nil))))))))))))) moOrd (by kernel_rfl) (zj e (vI e GTyp.f6 zhF a_t.more) (zj e (za ty4 e) (zj e (zaA e) (rm e e (jd 8 h Unit (λq60 g60=>[(70,isv q60.1)]) (λq60 g60=>[boxE zW (GMkO q60.2 zao),vecE zao q60.2.l]) k2 (λq60 g60 h=>?_) λJ61 h hJ61=>rJ h (λg62 h=>?_) λg62 h=>rG e g62 (zm e) (rG e g62 (vI e GTyp.f4 zaB a_t.fields) (rG e g62 (za ty127 e) (rG e g62 (za ty129 e) (zb h λy63 hy63 h=>rH e g62 (tC (znz hy63) hT (s1 e) k0 (zad h λq64 h=>rG e g62 (zf1 (l:=a_t.fields) e hI sl127 (.inr ⟨_,e,e⟩) (.inl ⟨e,e⟩) q64.1 q64.2.1 q64.2.2) (zb h λy65 hy65 h=>rH e g62 (tC (zgh hy65) hT (s3 e e e) k2 (zj e (zf e g62 e) (hJ61 h () 8))))))))))))))))))
 ·exact zj e (zar e) (zah (zp (zbz (ze (r1 e) k2 (iS h ▸ ⟨e,e⟩)))))
 exact rP e g62 (rP e g62 (rP e g62 (rP e g62 (zet e e (dj:=62) e g62 (rP e g62 (zet e e (dj:=62) e g62 (zj e (zg e g62 e) (hJ61 h () 8))))))))

end Go.Proofs.Q


namespace Go.Proofs.Q
open Go.Sy
set_option maxRecDepth 4000
def zdm (f':GMk->Int->GNode->Int->Option (GMk)):Prop :=
 ∀ {a_x a_i a_n_ zI zW zao r},f' a_x a_i a_n_ zI=some r->Ctr Tryz.prog 153 [ptrv zW (Fld.id GMkOT),isv a_i,isv a_n_,isv zI] [boxE zW (GMkO a_x zao),vecE zao a_x.l] (Pt1 (λ_=>[]) λu1=>[boxE zW (GMkO r u1),vecE u1 r.l])
def zdl (f':GMk->Int->Int->Option (Int × GMk)):Prop :=
 ∀ {a_x a_k zI zW zao r},f' a_x a_k zI=some r->Ctr Tryz.prog 51 [ptrv zW (Fld.id GMkOT),isv a_k,isv zI] [boxE zW (GMkO a_x zao),vecE zao a_x.l] (Pt1 (λ_=>[isv r.1]) λu1=>[boxE zW (GMkO r.2 u1),vecE u1 r.2.l])
def zdS (f':GMk->GNode->Int->Option (Int × GMk)):Prop :=
 ∀ {a_x a_n_ zI zW zao r},f' a_x a_n_ zI=some r->Ctr Tryz.prog 101 [ptrv zW (Fld.id GMkOT),isv a_n_,isv zI] [boxE zW (GMkO a_x zao),vecE zao a_x.l] (Pt1 (λ_=>[isv r.1]) λu1=>[boxE zW (GMkO r.2 u1),vecE u1 r.2.l])
theorem zkC {za1 zaZ zbm} (zfb:zdm za1) (zcW:zdl zaZ) (zf3:zdS zbm):zdm (zcd za1 zaZ zbm):=by
 intro a_x a_i a_n_ zI zW zao r h
 unfold zcd at h
 refine zh Tryz.func153 e λw0 S0 hT=>ws (oT (tB e (rn (ws (om e (oV (zn e) (oV (zV e zge zjb) (oV (zV e GMod.f1 zpp) (oT (tL ty3 e p0 a_x.m.tagging (oV (zaQ e e) (an e (ss (an e (zo (lP h Unit () (λq2 g2=>[(0,ptrv zW (Fld.id GMkOT)),(8,isv q2.1),(9,isv q2.2)]) (λq2 g2=>[]) (zu (j:=0) e hI (zu (j:=8) e hI (zu (j:=9) e hI zal))) k0 λL3 q2 g2 Q336 h hL3 eL3 rL3=>ss (om e (oV (vI e GNode.f5 zeL a_n_.fields) (oV (za ty127 e) (oV (vN e sl127) (oV (zac e e) (rn (zd h e (λ_ h=>?_) (λ_ h=>xn (eL3 _ _ (zs (zp (ss (oV (vI e GNode.f0 zcF a_n_.kind) ?_)))))))))))))))))))))))))))))
 ·refine wk (zE (zo (ws (oV (vI e GNode.f5 zeL a_n_.fields) (oV (za ty127 e) (om e (zb h λy170 hy170 h=>oV (vX e e sl127 hy170) (oV (za ty137 e) (oT (zU _ ze137 λb171=>oT (tS ty137 e e p0 y170 (zO (zaz 10 .here e) (rn (zez 0 .here e (λo172 hn173=>zG (.v 0 (.v 1 (.v 2 (.v 3 (.v 4 (.v 5 (.v 6 (.v 7 (.v 8 (.v 9 (.v 10 (.v 11 (.v 12 (.v 13 (.v 14 .nil))))))))))))))) moOrd (by kernel_rfl) (rm e e (rm e e (jD 12 46 h (λq174 h=>?_) λJ175 h hJ175=>rJ h (λg176 h=>?_) λg176 h=>rG e g176 (zm e) (rG e g176 (zcq e) (rG e g176 (zif e zge zjb) (rG e g176 (zif e GMod.f4 ziK) (rG e g176 (vP ty55 e m0 a_x.m.nodes) (rG e g176 (vI e GFld.f1 zcr y170.ty) (rG e g176 (za ty3 e) (zb h λy177 hy177 h=>rG e g176 (vX e e sl55 hy177) (rG e g176 (vI e GNode.f2 zhC y177.mark) ?_))))))))))))))))))))))))))
  ·exact zj e (zar e) (zah (zbn 0 hn173 e (zw (zp (zi (om e (zt h λq178 h=>oV (zX e e q178) (oa e (zF (hL3 h () 24))))))))))
  ·exact rP e g176 (rP e g176 (rP e g176 (rP e g176 (rP e g176 (rP e g176 (rP e g176 (rP e g176 (rP e g176 (rP e g176 (rP e g176 (zj e (zg e g176 e) (hJ175 h 12))))))))))))
  exact rG e g176 (vI e GMark.f0 zpc y177.mark.has) (rG e g176 (za ty4 e) (zj e (zf e g176 e) (hJ175 h 12)))
 refine oV (za ty3 e) (oV (zC e e) (om e (jO 5 55 h (λq179 h=>?_) λJ180 h hJ180=>oI h (λg181 h=>?_) λg181 h=>oN g181 (oN g181 (oN g181 (oN g181 (oV (zf e g181 e) (hJ180 h 5))))))))
 ·refine om e (jO 4 60 h (λq182 h=>?_) λJ183 h hJ183=>oI h (λg184 h=>?_) λg184 h=>oN g184 (oN g184 (oN g184 (oV (zf e g184 e) (hJ183 h 4)))))
  ·refine rn (jw h Unit (λq185 g185=>[]) (λq185 g185=>[boxE zW (GMkO q185 zao),vecE zao q185.l]) k2 (λq185 g185 h=>?_) λJ186 h hJ186=>zd h e (λ_ h=>?_) (λ_ h=>zJ (hJ186 h () 0)))
   ·refine ws (an e (ss (an e (zo (zhE (zaW) (lP h (Tok × Vt) (none,zao) (λq188 g188=>[(11,appv g188.1 q188.1),(12,isv q188.2.1)]) (λq188 g188=>[tokE g188.1,boxE zW (GMkO q188.2.2 g188.2),vecE g188.2 (q188.2.2.l:List GTyp)]) (zu (j:=11) e zcC (zu (j:=12) e hI zal)) k3 λL189 q188 g188 Q335 h hL189 eL189 rL189=>ss (om e (oV (vI e GNode.f5 zeL a_n_.fields) (oV (za ty127 e) (oV (vN e sl127) (oV (zac e e) (om e (jO 6 74 h (λq262 h=>?_) λJ263 h hJ263=>oI h (λg264 h=>?_) λg264 h=>oN g264 (oN g264 (oN g264 (oN g264 (oN g264 (oV (zf e g264 e) (hJ263 h 6)))))))))))))))))))
    ·refine rn (zd h e (λ_ h=>?_) (λ_ h=>xn (eL189 _ _ (zs (zp (ws (om e (oV (zn e) (oV (zV e zdx ze5) (oT (tL ty38 e p1 q188.2.2.e (oV (zC e e) (rn (zd h e (λ_ h=>?_) (λ_ h=>zJ (zaD .nil (a1 (a1 k0)) (iS h ▸ ⟨g188.2,e,e⟩)))))))))))))))))
     ·refine wk (zE (zo (ws (oV (vI e GNode.f5 zeL a_n_.fields) (oV (za ty127 e) (om e (zb h λy265 hy265 h=>oV (vX e e sl127 hy265) (oV (za ty137 e) (oT (zU _ ze137 λb266=>oT (tS ty137 e e p0 y265 (rn (ss (an e (zo (lP h Unit () (λq267 g267=>[(13,ptrv b266 (Fld.id GFld)),(14,isv q267.1)]) (λq267 g267=>[boxE zW (GMkO q267.2 g188.2),vecE g188.2 (q267.2.l:List GTyp)]) (zu (j:=13) e hI (zu (j:=14) e hI zal)) (a2 (a2 k0)) λL268 q267 g267 Q327 h hL268 eL268 rL268=>ss (om e (om e (oV (zac e e) (rn (zd h e (λ_ h=>?_) (λ_ h=>xn (eL268 _ _ (zs (zp (ws (om e (oV (zV e GFld.f1 zcr) ?_))))))))))))))))))))))))))))
      ·refine wk (zE (jw h Unit (λq298 g298=>[(13,ptrv b266 (Fld.id GFld))]) (λq298 g298=>[boxE zW (GMkO q298 g188.2),vecE g188.2 (q298.l:List GTyp)]) k2 (λq298 g298 h=>?_) λJ299 h hJ299=>zo (zE (zez 13 (.there (.there .here)) e (λo300 hn301=>zG (.v 0 (.v 1 (.v 2 (.v 3 (.v 4 (.v 5 (.v 6 (.v 7 (.v 8 .nil))))))))) moOrd (by kernel_rfl) (zj e (vI e GNode.f5 zeL a_n_.fields) (zj e (za ty127 e) (rm e e (zb h λy302 hy302 h=>zj e (vX e e sl127 hy302) (zj e (vI e GFld.f0 ziY y302.name) (zj e (za ty9 e) (zj e (zif e GFld.f0 ziY) (zj e (vP ty9 e m0 y265.name) (zj e (zcL eq9 e e) (zah (zbn 13 hn301 e (zp (zd h e (λ_ h=>?_) (λ_ h=>zJ (zw (hJ299 h () 11)))))))))))))))))))))
       ·exact zi (om e (zt h λq304 h=>oV (zX e e q304) (oa e (zF (hL268 h () 9)))))
       exact zi (om e (zb h λy303 hy303 h=>oT (tC (zbZ hy303) hT (s2 e e) (a1 (a1 k0)) (rb (hJ299 h () 13)))))
      refine oT (tL ty3 e p2 y265.ty (om e (zt h λq305 h=>oV (zX e e q305) (zb h λy306 hy306 h=>oT (tC1 (zcW hy306) hT (s3 e e e) k2 (λv307=>oV (zV e GFld.f1 zcr) (oT (tS ty3 e e p2 ({ y265 with ty:=y306.1 }) (rn (ss (om e (oV (zn e) (oV (zV e zdx ze5) (oT (tL ty38 e p1 y306.2.e (oV (zC e e) (om e (jO 3 113 h (λq308 h=>?_) λJ309 h hJ309=>oI h (λg310 h=>?_) λg310 h=>oN g310 (oN g310 (oV (zf e g310 e) (hJ309 h 3)))))))))))))))))))))
      ·refine rn (jw h Unit (λq311 g311=>[]) (λq311 g311=>[boxE b266 (q311.1:GFld),boxE zW (GMkO q311.2 v307),vecE v307 q311.2.l]) k3 (λq311 g311 h=>?_) λJ312 h hJ312=>zd h e (λ_ h=>?_) (λ_ h=>zJ (hJ312 h () 0)))
       ·refine ss (om e (oV (zn e) (oV (zV e zdx ze5) (oT (tL ty38 e p1 q311.2.e (oV (zC e e) (om e (jO 3 129 h (λq314 h=>?_) λJ315 h hJ315=>oI h (λg316 h=>?_) λg316 h=>oN g316 (oN g316 (oV (zf e g316 e) (hJ315 h 3)))))))))))
        ·refine rn (jw h Unit (λq317 g317=>[(13,ptrv b266 (Fld.id GFld))]) (λq317 g317=>[boxE zW (GMkO q317 v307),vecE v307 q317.l]) (a1 (a1 k0)) (λq317 g317 h=>?_) λJ318 h hJ318=>zd h e (λ_ h=>?_) (λ_ h=>zJ (hJ318 h () 0)))
         ·exact zi (om e (oT (tL ty137 e p2 q311.1 (oT (zB (l:=([q311.1]:(List GFld))) el127 (.cons e hI .nil) e e (zR h λq325 h=>oT (zbY (l:=q188.1) (m:=([q311.1]:(List GFld))) zme e hI e zz (.there (.there (.there .here))) q325 λt324=>oa e (rb (zp (zi (om e (zt h λq326 h=>oV (zX e e q326) (oa e (zF (hL189 h (t324,v307) 51)))))))))))))))
         exact zez 13 .here e (λo319 hn320=>zG (.v 0 (.v 1 (.v 2 (.v 3 (.v 4 (.v 5 (.v 6 (.t 7 (.t 8 .nil))))))))) moOrd (by kernel_rfl) (rm e e (zj e (zif e GFld.f1 zcr) (zj e (vP ty3 e m0 q311.1.ty) (rm e e (rm e e (zj e (zif e GFld.f1 zcr) (zj e (vP ty3 e m0 q311.1.ty) (zb h λy321 hy321 h=>rT e (tC (zh1 hy321) hT (s2 e e) k2 (zb h λy322 hy322 h=>rT e (tC (zh9 hy322) hT (s4 e e e e) k2 (zah (zbn 13 hn320 e (hJ318 h () 11)))))))))))))))
        exact oG g316 (zm e) (oG g316 (zaA e) (oV (zg e g316 e) (hJ315 h 3)))
       exact zi (om e (oV (zV e GFld.f1 zcr) (oT (tL ty3 e p0 y306.1 (oV (zV e GFld.f4 zly) (oT (tL ty26 e p0 y265.dflt (zb h λy313 hy313 h=>oT (tC (zjv hy313) hT (s3 e e e) (a1 (a1 k0)) (oV (zV e GFld.f4 zly) (oT (tS ty26 e e p2 ({ { y265 with ty:=y306.1 } with dflt:=y313.1 }) (zF (hJ312 h () 7))))))))))))))
      exact oG g310 (zV e GFld.f3 zgT) (oH g310 (tL ty4 e p0 y265.has (oV (zg e g310 e) (hJ309 h 3))))
     refine ws (om e (oV (zn e) (oV (zV e zcz zdM) (oT (zaL (R:=vecv g188.2 (q188.2.2.l.length)) ty29 e p1 isvV1 (om e (om e (zad h λq328 h=>oV (zdi (α:=GTyp) sl29 e e q328.1 q328.2) (oV (zkE e GTyp.f4 zaB) (zb h λy329 hy329 h=>zO (zaS 153 e (zz)) (oT (zgC ty127 e e (.there (.there .here)) hy329 (zO (zkn (y:=(GMkO {q188.2.2 with l:=(q188.2.2.l.set a_i.toNat ({ y329 with fields:=q188.1 }))} g188.2)) (.there (.there .here)) (λS=>(Cv.pair Cv.id (Cv.pair (Cv.vhe (by first | rfl | simp)) Cv.id)))) (rn (ws (om e (om e (oV (zn e) (oV (zV e zcz zdM) (oT (zaL (R:=vecv g188.2 ((q188.2.2.l.set a_i.toNat ({ y329 with fields:=q188.1 })).length)) ty29 e p0 isvV1 (om e (zad h λq330 h=>oV (zdi (α:=GTyp) sl29 e e q330.1 q330.2) (zb h λy331 hy331 h=>oT (zdJ ty129 e (.there .here) hy331 (zb h λy332 hy332 h=>oT (tC (zlp hy332) hT (s2 e e) k2 (oV (zaA e) (rn ?_)))))))))))))))))))))))))))))
     refine zd h e (λ_ h=>?_) (λ_ h=>zJ (zaD .nil k2 (iS h ▸ ⟨g188.2,e,e⟩)))
     exact zi (om e (zb h λy333 hy333 h=>oT (tC (zbZ hy333) hT (s2 e e) k2 (zF (zaD .nil k2 (iS h ▸ ⟨g188.2,e,e⟩))))))
    exact oG g264 (zm e) (oG g264 (zn e) (oG g264 (zV e zdx ze5) (oH g264 (tL ty38 e p1 q188.2.2.e (oG g264 (zC e e) (oV (zg e g264 e) (hJ263 h 6)))))))
   exact zi (om e (zb h λy187 hy187 h=>oT (tC (zbZ hy187) hT (s2 e e) k2 (zF (hJ186 h () 2)))))
  exact oG g184 (vI e GNode.f7 zgO a_n_.more) (oG g184 (za ty4 e) (oG g184 (zaA e) (oV (zg e g184 e) (hJ183 h 4))))
 exact oG g181 (vI e GNode.f5 zeL a_n_.fields) (oG g181 (za ty127 e) (oG g181 (vN e sl127) (oG g181 (zC e e) (oV (zg e g181 e) (hJ180 h 5)))))

theorem zlX {za1 zaZ zbm} (zfb:zdm za1) (zcW:zdl zaZ) (zf3:zdS zbm):zdl (zcN za1 zaZ zbm):=by
 intro a_x a_k zI zW zao r h
 unfold zcN at h
 refine zh Tryz.func51 e λw0 S0 hT=>ws (an e (ss (om e (oV (zn e) (oV (zV e zdx ze5) (oT (tL ty38 e p0 a_x.e (oV (zaQ e e) (rn (zd h e (λ_ h=>?_) (λ_ h=>wk (ws (om e (oV (zn e) (oV (zV e zge zjb) (oV (zV e GMod.f4 ziK) (oT (tL ty55 e p0 a_x.m.nodes (om e (zb h λy2 hy2 h=>oV (vX e e sl55 hy2) (oV (za ty174 e) (oT (zU _ ze174 λb3=>oT (tS ty174 e e p0 y2 (zO (zaz 7 .here e) (rn (ws (an e (ss (oV (vI e GNode.f0 zcF y2.kind) ?_))))))))))))))))))))))))))))))
 ·exact ws (ar e (zx (ze (r1 e) k2 (iS h ▸ ⟨zao,e,e⟩))))
 refine oV (za ty3 e) (oV (zC e e) (rn (jw h Vt (λq4 g4=>[(8,isv q4.1)]) (λq4 g4=>[boxE zW (GMkO q4.2 g4),vecE g4 q4.2.l]) k2 (λq4 g4 h=>?_) λJ5 h hJ5=>zd h e (λ_ h=>?_) (λ_ h=>zi (om e (oV (za ty174 e) (om e (zb h λy12 hy12 h=>oT (tC1 (zf3 hy12) hT (s3 e e e) k2 (λv13=>oa e (zF (hJ5 h v13 5))))))))))))
 ·refine ss (om e (oV (zn e) (oV (zV e zdx ze5) (oT (tL ty38 e p0 q4.2.e (oV (zC e e) (om e (jO 4 56 h (λq14 h=>?_) λJ15 h hJ15=>oI h (λg16 h=>?_) λg16 h=>oN g16 (oN g16 (oN g16 (oV (zf e g16 e) (hJ15 h 4))))))))))))
  ·refine rn (jw h Unit (λq17 g17=>[]) (λq17 g17=>[boxE zW (GMkO q17 g4),vecE g4 q17.l]) k2 (λq17 g17 h=>?_) λJ18 h hJ18=>zd h e (λ_ h=>?_) (λ_ h=>zJ (hJ18 h () 0)))
   ·exact ws (om e (ar e (ze (r1 e) k2 (iS h ▸ ⟨g4,e,e⟩))))
   refine ws (an e (zE (jw h Unit (λq19 g19=>[(9,isv q19.1)]) (λq19 g19=>[boxE zW (GMkO q19.2 g4),vecE g4 q19.2.l]) k2 (λq19 g19 h=>?_) λJ20 h hJ20=>zo (ws (oV (vI e GNode.f2 zhC y2.mark) (oV (vI e GMark.f2 zmJ y2.mark.mode) (oV (za ty3 e) (oV (zC e e) (an e (zd h e (λ_ h=>?_) (λ_ h=>ws (oV (vI e GNode.f2 zhC y2.mark) (oV (vI e GMark.f2 zmJ y2.mark.mode) (oV (za ty3 e) (oV (zC e e) (om e (jO 7 74 h (λq21 h=>?_) λJ22 h hJ22=>oI h (λg23 h=>?_) λg23 h=>oN g23 (oN g23 (oN g23 (oN g23 (oN g23 (oN g23 (oV (zf e g23 e) (hJ22 h 7))))))))))))))))))))))))
   ·exact zi (om e (om e (oV (vI e GNode.f2 zhC y2.mark) (oV (vI e GMark.f1 zrF y2.mark.number) (oV (za ty3 e) (om e (zb h λy25 hy25 h=>oT (tC (zh9 hy25) hT (s4 e e e e) k2 (zF (hJ18 h () 9))))))))))
   ·exact zi (oa e (rb (hJ20 h () 6)))
   ·refine an e (zd h e (λ_ h=>?_) (λ_ h=>zJ (zw (hJ20 h () 12))))
    exact zi (om e (om e (zb h λy24 hy24 h=>oT (tC (zh1 hy24) hT (s2 e e) k2 (oa e (rb (hJ20 h () 16)))))))
   exact oG g23 (zm e) (oG g23 (zn e) (oG g23 (zV e zge zjb) (oG g23 (zV e GMod.f1 zpp) (oH g23 (tL ty3 e p0 q4.2.m.tagging (oG g23 (zaQ e e) (oV (zg e g23 e) (hJ22 h 7))))))))
  exact oG g16 (vI e GNode.f2 zhC y2.mark) (oG g16 (vI e GMark.f0 zpc y2.mark.has) (oG g16 (za ty4 e) (oV (zg e g16 e) (hJ15 h 4))))
 refine zG (.v 0 (.v 1 (.v 2 (.v 3 (.v 4 (.v 6 (.v 7 (.v 8 (.v 10 (.v 11 (.v 15 (.alt 5 (.t 9 (.t 12 (.v 13 (.v 14 (.t 16 (.v 17 .nil)))))) (.t 9 (.alt 5 (.t 12 (.v 13 (.v 14 (.t 16 (.v 17 .nil))))) (.t 12 (.t 5 (.v 13 (.v 14 (.t 16 (.v 17 .nil)))))))))))))))))))) moOrd (by kernel_rfl) (rm e e (rm e e (zj e (zn e) (zj e (zV e zge zjb) (zj e (zV e GMod.f3 znN) (rm e e (zj e (zn e) (zj e (zV e zge zjb) (zj e (vI e GNode.f1 zoX y2.name) (zj e (za ty9 e) (rm e e (zb h λy6 hy6 h=>zb h λy7 hy7 h=>zb h λy8 hy8 h=>zhi ?_ (rT e (tL ty57 e p0 a_x.m (zhi ?_ (rT e (tC (ziE hy6) hT (s2 e e) k0 (rT e (tL ty28 e p0 a_x.m.types (zj e (vX e e sl28 hy7) (zj e (za ty3 e) (rT e (tC1 (zcW hy8) hT (s3 e e e) k2 (λv11=>zj e (zar e) (zah (hJ5 h v11 18))))))))))))))))))))))))))
 ·exact rT e (tL ty28 e p0 a_x.m.types (rT e (tL ty57 e p0 a_x.m (rT e (tC (ziE hy6) hT (s2 e e) k0 (zj e (vX e e sl28 hy7) (zj e (za ty3 e) (rT e (tC1 (zcW hy8) hT (s3 e e e) k2 (λv9=>zj e (zar e) (zah (hJ5 h v9 18))))))))))))
 exact rT e (tL ty28 e p0 a_x.m.types (rT e (tC (ziE hy6) hT (s2 e e) k0 (zj e (vX e e sl28 hy7) (zj e (za ty3 e) (rT e (tC1 (zcW hy8) hT (s3 e e e) k2 (λv10=>zj e (zar e) (zah (hJ5 h v10 18))))))))))

theorem zk9 {za1 zaZ zbm} (zfb:zdm za1) (zcW:zdl zaZ) (zf3:zdS zbm):zdS (zcO za1 zaZ zbm):=by
 intro a_x a_n_ zI zW zao r h
 unfold zcO at h
 refine zh Tryz.func101 e λw0 S0 hT=>ws (oT (tB e (an e (ss (om e (oV (zbw e e) (om e (jO 7 20 h (λq2 h=>?_) λJ3 h hJ3=>oI h (λg4 h=>?_) λg4 h=>oG g4 (zm e) (oG g4 (zn e) (oG g4 (zV e zcz zdM) (oH g4 (zaL (R:=vecv zao (a_x.l.length)) ty29 e p0 isvV1 (oG g4 (zhg sl29 e) (oG g4 (zcY e e) (oV (zf e g4 e) (hJ3 h 7))))))))))))))))
 ·refine rn (zd h e (λ_ h=>?_) (λ_ h=>wk (ws (om e (oV (zn e) (oV (zV e zcz zdM) (oT (zaL (R:=vecv zao (a_x.l.length)) ty29 e p0 isvV1 (oV (zhg sl29 e) (an e (ws (oV (vI e GNode.f0 zcF a_n_.kind) (oV (za ty3 e) (oV (vI e GNode.f3 zj2 a_n_.con) (oV (za ty125 e) (oV (vI e GNode.f6 zhJ a_n_.root) (oV (za ty3 e) (oV (vI e GNode.f7 zgO a_n_.more) (oV (za ty4 e) (oV (zak (z:=(GTyp.mk a_n_.kind ([]:(List Tag)) a_n_.con ([]:(List GItem)) ([]:(List GFld)) a_n_.root a_n_.more (0:Int))) e bu129 ze129 (.cons GTyp.f0 zbh e hI (.cons GTyp.f2 zd1 e hI (.cons GTyp.f5 ze4 e hI (.cons GTyp.f6 zhF e hI .nil))))) (oT (zU _ ze129 λb6=>oT (tS ty129 e e p0 ⟨a_n_.kind,[],a_n_.con,[],[],a_n_.root,a_n_.more,0⟩ (rn (ss (oV (vI e GNode.f0 zcF a_n_.kind) (oV (za ty3 e) (oV (zaQ e e) (rn (jw h Unit (λq7 g7=>[]) (λq7 g7=>[boxE b6 (q7:GTyp)]) k1 (λq7 g7 h=>?_) λJ8 h hJ8=>zd h e (λ_ h=>?_) (λ_ h=>?_)))))))))))))))))))))))))))))))
  ·exact ws (om e (zb h λy5 hy5 h=>oT (tC (zbZ hy5) hT (s2 e e) k2 (rn (ws (ar e (zx (ze (r1 e) k2 (iS h ▸ ⟨zao,e,e⟩)))))))))
  ·refine zE (jw h Vt (λq11 g11=>[(8,anyv)]) (λq11 g11=>[boxE zW (GMkO q11 g11),vecE g11 q11.l]) (a1 (a1 k0)) (λq11 g11 h=>?_) λJ12 h hJ12=>zez 8 .here e (λo13 hn14=>zG (.v 0 (.v 1 (.v 2 (.v 3 (.v 5 (.alt 4 (.t 6 (.t 7 (.v 8 (.v 9 (.t 10 .nil))))) (.t 6 (.t 4 (.t 7 (.v 8 (.v 9 (.t 10 .nil)))))))))))) moOrd (by kernel_rfl) (rm e e (rm e e (zj e (zn e) (zj e (zV e zcz zdM) (zj e (vP ty129 e m0 q7) (zR h λq17 h=>zhi ?_ (rT e (zB (l:=([q7]:(List GTyp))) el29 (.cons e hI .nil) e e (rT e (zaL (R:=vecv zao (a_x.l.length)) ty29 e p0 isvV1 (rT e (zkk (m:=([q7]:(List GTyp))) zrX e e zz (.there .here) (by first | rfl | simp) q17 λv19=>zj e (zn e) (zj e (zV e zcz zdM) (rT e (tR ty29 e e isvV2 p1 (GMkO {a_x with l:=(a_x.l ++ ([q7]:(List GTyp)))} v19) e (zah (zbn 8 hn14 e (hJ12 h v19 12))))))))))))))))))))
   ·refine ss (oV (vI e GNode.f0 zcF a_n_.kind) (oV (za ty3 e) (rn (jw h Vt (λq20 g20=>[]) (λq20 g20=>[boxE zW (GMkO q20 g20),vecE g20 q20.l]) k2 (λq20 g20 h=>?_) λJ21 h hJ21=>zo (ss (oV (zC e e) (an e (jW 57 h (λq22 h=>?_) λJ23 h hJ23=>zd h e (λ_ h=>?_) (λ_ h=>ws (oV (zC e e) (an e (zd h e (λ_ h=>?_) (λ_ h=>ws (oV (zC e e) (an e (zd h e (λ_ h=>?_) (λ_ h=>zi (oV (zC e e) (oa e (zF (hJ23 h 6)))))))))))))))))))))
    ·exact ws (om e (ar e (ze (r1 e) k2 (iS h ▸ ⟨g20,e,e⟩))))
    ·refine zd h e (λ_ h=>?_) (λ_ h=>ws (oV (zC e e) (an e (zd h e (λ_ h=>?_) (λ_ h=>ss (oV (zC e e) (an e (jW 107 h (λq37 h=>?_) λJ38 h hJ38=>zd h e (λ_ h=>?_) (λ_ h=>ws (oV (zC e e) (an e (zd h e (λ_ h=>?_) (λ_ h=>zi (oV (zC e e) (oa e (zF (hJ38 h 4)))))))))))))))))
     ·refine ws (oV (vI e GNode.f3 zj2 a_n_.con) (oV (za ty125 e) (oV (vI e GNode.f0 zcF a_n_.kind) (oV (za ty3 e) (oV (zaQ e e) (zb h λy24 hy24 h=>oT (tC (zpT hy24) hT (s2 e e) k0 (an e (ss (om e (oV (zaQ e e) (rn (jw h Unit (λq25 g25=>[]) (λq25 g25=>[boxE zW (GMkO q25 g11),vecE g11 q25.l]) k2 (λq25 g25 h=>?_) λJ26 h hJ26=>zd h e (λ_ h=>?_) (λ_ h=>zJ (hJ26 h () 0)))))))))))))))
      ·refine ws (oV (vI e GNode.f0 zcF a_n_.kind) (oV (za ty3 e) (oV (zC e e) (rn (zd h e (λ_ h=>?_) (λ_ h=>zJ (zw (hJ21 h g11 15))))))))
       refine ws (om e (oV (vI e GNode.f8 zpe a_n_.of) (oV (za ty3 e) (om e (zt h λq28 h=>oV (zX e e q28) (zb h λy29 hy29 h=>oT (tC1 (zcW hy29) hT (s3 e e e) k2 (λv30=>an e (ws (om e (oV (zn e) (oV (zV e zdx ze5) (oT (tL ty38 e p0 y29.2.e (oV (zC e e) (rn (zd h e (λ_ h=>?_) (λ_ h=>zJ (zw (hJ21 h v30 27))))))))))))))))))))
       exact zi (om e (oV (zn e) (oV (zV e zcz zdM) (oT (zaL (R:=vecv v30 (y29.2.l.length)) ty29 e p0 isvV1 (om e (om e (zad h λq31 h=>oV (zdi (α:=GTyp) sl29 e e q31.1 q31.2) (oV (zkE e GTyp.f7 zlW) (zb h λy32 hy32 h=>oT (zgC ty3 e e (.there .here) hy32 (zO (zkn (y:=(GMkO {y29.2 with l:=(y29.2.l.set (((a_x.l.length:Nat):Int).toNat) ({ y32 with of:=y29.1 }))} v30)) (.there .here) (λS=>(Cv.pair Cv.id (Cv.pair (Cv.vhe (by first | rfl | simp)) Cv.id)))) (rb (hJ21 h v30 35))))))))))))))
      exact zi (om e (om e (zb h λy27 hy27 h=>oT (tC (zbZ hy27) hT (s2 e e) k2 (zF (hJ26 h () 3))))))
     ·refine zG (.v 0 (.v 1 (.v 2 (.v 4 (.v 5 (.v 6 (.alt 3 (.t 7 (.v 8 (.v 9 (.t 10 .nil)))) (.t 7 (.t 3 (.v 8 (.v 9 (.t 10 .nil)))))))))))) moOrd (by kernel_rfl) (rm e e (zj e (zn e) (zj e (zV e zcz zdM) (rm e e (rm e e (zj e (za ty174 e) (zb h λy33 hy33 h=>zad h λq34 h=>zad h λq35 h=>zb h λy36 hy36 h=>zhi ?_ (rT e (tC (zhB hy33) hT (s2 e e) k2 (rT e (zaL (R:=vecv g11 (y33.2.l.length)) ty29 e p0 isvV1 (zj e (zdi (α:=GTyp) sl29 e e (by omega) (by omega)) (zj e (zkE e GTyp.f3 zfy) (rT e (zgC ty126 e e (.there .here) hy36 (zhT (zkn (y:=(GMkO {y33.2 with l:=(y33.2.l.set (((a_x.l.length:Nat):Int).toNat) ({ y36 with items:=y33.1 }))} g11)) (.there .here) (λS=>(Cv.pair Cv.id (Cv.pair (Cv.vhe (by first | rfl | simp)) Cv.id)))) (zah (zw (hJ21 h g11 15)))))))))))))))))))
      exact rT e (zaL (R:=vecv g11 (q11.l.length)) ty29 e p0 isvV1 (rT e (tC (zhB hy33) hT (s2 e e) k2 (zj e (zdi (α:=GTyp) sl29 e e q35.1 q35.2) (zj e (zkE e GTyp.f3 zfy) (rT e (zgC ty126 e e (.there .here) hy36 (zhT (zkn (y:=(GMkO {y33.2 with l:=(y33.2.l.set (((a_x.l.length:Nat):Int).toNat) ({ y36 with items:=y33.1 }))} g11)) (.there .here) (λS=>(Cv.pair Cv.id (Cv.pair (Cv.vhe (by first | rfl | simp)) Cv.id)))) (zah (zw (hJ21 h g11 15)))))))))))
     ·refine zd h e (λ_ h=>?_) (λ_ h=>zJ (zw (hJ21 h g11 8)))
      exact zi (om e (om e (oV (za ty174 e) (om e (zb h λy39 hy39 h=>oT (tC1 (zfb hy39) hT (s4 e e e e) k2 (λv40=>rb (hJ21 h v40 13))))))))
     ·exact zJ (hJ38 h 0)
     exact zJ (hJ38 h 2)
    ·exact zJ (hJ23 h 0)
    ·exact zJ (hJ23 h 2)
    exact zJ (hJ23 h 4)
   exact rT e (zaL (R:=vecv zao (a_x.l.length)) ty29 e p0 isvV1 (rT e (zB (l:=([q7]:(List GTyp))) el29 (.cons e hI .nil) e e (rT e (zkk (m:=([q7]:(List GTyp))) zrX e e zz (.there .here) (by first | rfl | simp) q17 λv16=>zj e (zn e) (zj e (zV e zcz zdM) (rT e (tR ty29 e e isvV2 p1 (GMkO {a_x with l:=(a_x.l ++ ([q7]:(List GTyp)))} v16) e (zah (zbn 8 hn14 e (hJ12 h v16 12)))))))))))
  ·exact zi (oV (vI e GNode.f0 zcF a_n_.kind) (oV (za ty3 e) (zb h λy9 hy9 h=>oT (tC (zmF hy9) hT (s1 e) k0 (oT (zB (l:=([y9]:(List Tag))) el123 (.cons e hI .nil) e e (oV (zV e GTyp.f1 zeZ) (oT (tR ty123 e e zz p0 ⟨a_n_.kind,([y9]:(List Tag)),a_n_.con,[],[],a_n_.root,a_n_.more,0⟩ e (zF (hJ8 h () 5)))))))))))
  exact zJ (hJ8 h () 0)
 exact oN g4 (oN g4 (oN g4 (oN g4 (oN g4 (oN g4 (oV (zg e g4 e) (hJ3 h 7)))))))

theorem zfT:∀ n,zdm (zcp n)/\zdl (zc6 n)/\zdS (zc4 n)
  | 0=>⟨λh=>(by cases h),λh=>(by cases h),λh=>(by cases h)⟩
  | n + 1=>by
    obtain ⟨h0,h1,h2⟩:=zfT n
    exact ⟨zkC h0 h1 h2,zlX h0 h1 h2,zk9 h0 h1 h2⟩
theorem zip (n:Nat):zdl (zc6 n):=(zfT n).2.1
theorem zrz {a_m r} (h:zgw a_m=some r):Ctr Tryz.prog 23 [isv a_m] [] (Pt [isv r.1,isv r.2.1,isv r.2.2] []):=by
 unfold zgw at h
 refine zh Tryz.func23 e λw0 S0 hT=>ws (oT (tB e (oT (zU _ ze31 λb1=>oa e (an e (ws (oV (za ty57 e) (zb h λy2 hy2 h=>oT (tC (zqo hy2) hT (s1 e) k0 (om e (oV (zD e e) (oV (zD e e) (oV (zD e e) (oa e (oa e (an e (ss (om e (oV (zaQ e e) (rn (zd h e (λ_ h=>?_) (λ_ h=>wk (ws (oV (za ty57 e) (oV (zak (z:=((a_m,(Vh.mk none 0),(0:Int)):GMkOT)) e bu114 zuO (.cons zge zjb e hI .nil)) (oT (zma (y:=((a_m,(Vh.mk none 0),(0:Int)):GMkOT)) e hI λb3=>zO (ze2 (α:=GTyp)) (an e (zE ?_)))))))))))))))))))))))))))))
 ·exact ws (oV (zak (z:=(GTab.mk (Str.mk []) ([]:(List Str)) ([]:(List Int)) ([]:(List GTyp)))) e bu31 ze31 .nil) (om e (om e (oT (tS ty31 e e p0 ⟨⟨[]⟩,[],[],[]⟩ (oa e (ar e (zx (ze (.cell e .here ty31 (.tmp e (.tmp e .nil))) k0 (iS h ▸ ⟨e,e⟩))))))))))
 refine jw h (Nat × Tok) (λq5 g5=>[(9,ptrv g5.1 (Fld.id (Str × (List Str) × (TList Int) × (List GTyp))))]) (λq5 g5=>[boxE g5.1 ((q5.name,q5.names,(TList.mk g5.2 q5.roots),q5.types):(Str × (List Str) × (TList Int) × (List GTyp))),tokE g5.2]) k0 (λq5 g5 h=>?_) λJ6 h hJ6=>zG (.v 0 (.v 1 (.v 2 (.v 3 (.alt 4 (.v 5 (.t 6 (.t 7 .nil))) (.t 6 (.t 4 (.v 5 (.t 7 .nil))))))))) moOrd (by kernel_rfl) (zj e (vI e GMod.f0 ztN a_m.name) (zj e (za ty9 e) (zj e (vI e GMod.f2 zfY a_m.names) (zj e (za ty27 e) (zR h λq8 h=>zhi ?_ (rT e (zU _ zpj λb12=>zhT (zaW) (rT e (zl5 (m:=a_m.names) zpg e e hI q8 λt14=>zj e (zak (z:=((a_m.name,(([]:(List Str)) ++ a_m.names),(TList.mk none ([]:(List Int))),([]:(List GTyp))):(Str × (List Str) × (TList Int) × (List GTyp)))) e bu31 zpj (.cons zqv zt2 e hI (.cons zp2 zue e zz .nil))) (zhT (zaW) (rT e (tS ty31 e e p3 (a_m.name,([] ++ a_m.names),⟨none,[]⟩,[]) (zah (hJ6 h (b12,none) 7))))))))))))))
 ·refine ss (an e (zo (lP h (Tok × Vt) (g5.2,none) (λq16 g16=>[(10,isv q16.1)]) (λq16 g16=>[boxE g5.1 ((q16.2.1.name,q16.2.1.names,(TList.mk g16.1 q16.2.1.roots),q16.2.1.types):(Str × (List Str) × (TList Int) × (List GTyp))),tokE g16.1,boxE b3 (GMkO q16.2.2 g16.2),vecE g16.2 (q16.2.2.l:List GTyp)]) (zu (j:=10) e hI zal) (a0 (a0 (a1 k1))) λL17 q16 g16 Q50 h hL17 eL17 rL17=>ss (om e (oV (vI e GMod.f2 zfY a_m.names) (oV (za ty27 e) (oV (vN e sl27) (oV (zac e e) (rn (zd h e (λ_ h=>?_) (λ_ h=>xn (eL17 _ _ (zs (zp (ws (om e (oV (zn e) (oV (zV e zcz zdM) (oT (zaL (R:=vecv g16.2 (q16.2.2.l.length)) ty29 e p2 isvV1 (oV (zV e zug zcE) (zO (zhe 64 (.there (.there (.there .here))) e (by first | rfl | simp)) (oT (tS ty29 e e p0 (q16.2.1.name,q16.2.1.names,⟨g16.1,q16.2.1.roots⟩,q16.2.2.l) (rn (ws (oT (zaL (y:=((q16.2.1.name,q16.2.1.names,(TList.mk g16.1 q16.2.1.roots),q16.2.2.l):(Str × (List Str) × (TList Int) × (List GTyp)))) (R:=isv (((q16.2.1.name,q16.2.1.names,(TList.mk g16.1 q16.2.1.roots),q16.2.2.l)):((Str × (List Str) × (TList Int) × (List GTyp))))) ty31 e .here (by exact hI) (zO (zaS (R':=isv ((GTab.mk q16.2.1.name q16.2.1.names q16.2.1.roots q16.2.2.l))) 66 e (Cv.isv e λS=>(λcs h=>GTab.cv (x:=(GTab.mk q16.2.1.name q16.2.1.names q16.2.1.roots q16.2.2.l)) cs (((Cv.pair Cv.id (Cv.pair Cv.id (Cv.pair Cv.tl Cv.id))):Cv S ((q16.2.1.name,q16.2.1.names,(TList.mk g16.1 q16.2.1.roots),q16.2.2.l):(Str × (List Str) × (TList Int) × (List GTyp))) (GTab.to (GTab.mk q16.2.1.name q16.2.1.names q16.2.1.roots q16.2.2.l))) cs h)))) (oT (tS ty31 e e p3 ⟨q16.2.1.name,q16.2.1.names,q16.2.1.roots,q16.2.2.l⟩ (oa e ?_))))))))))))))))))))))))))))))))
  ·refine wk (zE (zo (zE (jw h (Tok × Vt) (λq34 g34=>[]) (λq34 g34=>[boxE g5.1 ((q34.1.name,q34.1.names,(TList.mk g34.1 q34.1.roots),q34.1.types):(Str × (List Str) × (TList Int) × (List GTyp))),tokE g34.1,boxE b3 (GMkO q34.2 g34.2),vecE g34.2 (q34.2.l:List GTyp)]) (a0 (a1 k2)) (λq34 g34 h=>?_) λJ35 h hJ35=>zG (.v 0 (.v 2 (.v 3 (.v 4 (.v 5 (.v 6 (.v 7 (.alt 1 (.t 8 (.t 9 (.t 10 (.v 11 (.t 12 .nil))))) (.t 8 (.alt 1 (.t 9 (.t 10 (.v 11 (.t 12 .nil)))) (.t 9 (.t 1 (.t 10 (.v 11 (.t 12 .nil))))))))))))))) moOrd (by kernel_rfl) (zj e (zV e zll zk3) (rm e e (zj e (vI e GMod.f3 znN a_m.types) (zj e (za ty28 e) (rm e e (zb h λy36 hy36 h=>zj e (vX e e sl28 hy36) (zj e (za ty3 e) (zb h λy37 hy37 h=>zR h λq41 h=>zhi ?_ (rT e (tC1 (zip fuel hy37) hT (s3 e e e) (a2 (a2 k0)) (λv42=>zhi ?_ (rT e (zB (l:=([y37.1]:(List Int))) el28 (.cons e hI .nil) e e (rT e (zaL (R:=appv g16.1 q16.2.1.roots) ty28 e p2 isvT1 (rT e (zbY (l:=q16.2.1.roots) (m:=([y37.1]:(List Int))) zeY e hI e zz (.there (.there (.there .here))) q41 λt46=>zj e (zV e zll zk3) (rT e (tR ty28 e e isvT2 p3 (q16.2.1.name,q16.2.1.names,⟨t46,(q16.2.1.roots ++ ([y37.1]:(List Int)))⟩,q16.2.1.types) e (zah (hJ35 h (t46,v42) 12)))))))))))))))))))))))))
   ·refine ws (om e (oV (zn e) (oV (zV e zdx ze5) (oT (tL ty38 e p2 q34.2.e (oV (zaQ e e) (rn (zd h e (λ_ h=>?_) (λ_ h=>zJ (zw (zp (zi (om e (zt h λq49 h=>oV (zX e e q49) (oa e (zF (hL17 h (g34.1,g34.2) 14)))))))))))))))))
    exact zE (zez 8 (.there (.there .here)) e (λo47 hn48=>zG (.v 0 (.v 1 (.v 2 (.v 3 (.v 4 (.v 5 (.t 6 (.v 7 (.v 8 .nil))))))))) moOrd (by kernel_rfl) (zj e (zak (z:=(GTab.mk (Str.mk []) ([]:(List Str)) ([]:(List Int)) ([]:(List GTyp)))) e bu31 ze31 .nil) (rm e e (rm e e (zj e (zcq e) (zj e (zif e zdx ze5) (zj e (vP ty38 e m0 q34.2.e) (rT e (tS ty31 e e p3 ⟨⟨[]⟩,[],[],[]⟩ (zj e (zar e) (zj e (zar e) (zah (zbn 8 hn48 e (zp (zbz (bn (rL17 _ (bn (ze (.cell e (.there .here) ty31 (.tmp e (.tmp e .nil))) k0 (iS h ▸ ⟨e,e⟩)))))))))))))))))))))
   ·exact rT e (zaL (R:=appv g16.1 q16.2.1.roots) ty28 e p0 isvT1 (rT e (tC1 (zip fuel hy37) hT (s3 e e e) (a2 (a2 k0)) (λv38=>rT e (zB (l:=([y37.1]:(List Int))) el28 (.cons e hI .nil) e e (rT e (zbY (l:=q16.2.1.roots) (m:=([y37.1]:(List Int))) zeY e hI e zz (.there (.there (.there .here))) q41 λt40=>zj e (zV e zll zk3) (rT e (tR ty28 e e isvT2 p3 (q16.2.1.name,q16.2.1.names,⟨t40,(q16.2.1.roots ++ ([y37.1]:(List Int)))⟩,q16.2.1.types) e (zah (hJ35 h (t40,v38) 12)))))))))))
   exact rT e (zaL (R:=appv g16.1 q16.2.1.roots) ty28 e p2 isvT1 (rT e (zB (l:=([y37.1]:(List Int))) el28 (.cons e hI .nil) e e (rT e (zbY (l:=q16.2.1.roots) (m:=([y37.1]:(List Int))) zeY e hI e zz (.there (.there (.there .here))) q41 λt44=>zj e (zV e zll zk3) (rT e (tR ty28 e e isvT2 p3 (q16.2.1.name,q16.2.1.names,⟨t44,(q16.2.1.roots ++ ([y37.1]:(List Int)))⟩,q16.2.1.types) e (zah (hJ35 h (t44,v42) 12)))))))))
  exact ar e (ze (.cell e .here ty31 (.tmp e (.tmp e .nil))) k0 (iS h ▸ ⟨e,e⟩))
 exact rT e (zl5 (m:=a_m.names) zpg e e hI q8 λt7=>zj e (zak (z:=((a_m.name,(([]:(List Str)) ++ a_m.names),(TList.mk none ([]:(List Int))),([]:(List GTyp))):(Str × (List Str) × (TList Int) × (List GTyp)))) e bu31 zpj (.cons zqv zt2 e hI (.cons zp2 zue e zz .nil))) (rT e (zU _ zpj λb9=>zhT (zaW) (zhT (zaW) (rT e (tS ty31 e e p2 (a_m.name,([] ++ a_m.names),⟨none,[]⟩,[]) (zah (hJ6 h (b9,none) 7))))))))


theorem zhM {zbV r} (h:zbD zbV=some r):Ctr Tryz.prog 9 [isv zbV] [] (Pt [isv r.1,isv r.2] []):=by
 unfold zbD at h
 refine zh Tryz.func9 e λw0 S0 hT=>ws (oT (zU _ ze31 λb1=>an e (ss (om e (oV (zeO st9 e) (oV (zbw e e) (rn (zd h e (λ_ h=>?_) (λ_ h=>wk (ws (om e (zb h λy2 hy2 h=>oT (tC (zqq hy2) hT (s1 e) k0 (om e (oV (zD e e) (oV (zD e e) (oV (zD e e) (oT (zU _ ze57 λb3=>oT (tS ty57 e e p0 y2.1 (zO (zaz 4 .here e) (oa e (an e (ss (om e (oV (zaQ e e) (rn (zd h e (λ_ h=>?_) (λ_ h=>wk ?_)))))))))))))))))))))))))))))
 ·exact ws (oV (zak (z:=(GTab.mk (Str.mk []) ([]:(List Str)) ([]:(List Int)) ([]:(List GTyp)))) e bu31 ze31 .nil) (oT (tS ty31 e e p0 ⟨⟨[]⟩,[],[],[]⟩ (ar e (zx (ze (.cell e .here ty31 (.tmp e .nil)) k0 (iS h ▸ ⟨e,e⟩)))))))
 ·exact ws (oV (zak (z:=(GTab.mk (Str.mk []) ([]:(List Str)) ([]:(List Int)) ([]:(List GTyp)))) e bu31 ze31 .nil) (oT (tS ty31 e e p0 ⟨⟨[]⟩,[],[],[]⟩ (ar e (zx (ze (.cell e .here ty31 (.tmp e .nil)) k0 (iS h ▸ ⟨e,e⟩)))))))
 refine ws (oV (za ty57 e) (zb h λy4 hy4 h=>oT (tC (zrz hy4) hT (s1 e) k0 (om e (oV (zD e e) (oV (zD e e) (oV (zD e e) (oT (zU _ ze31 λb5=>oT (tS ty31 e e p0 y4.1 (zO (zaz 7 .here e) (oa e (an e (zE (zG (.v 0 (.v 1 (.v 2 (.v 3 (.v 4 (.v 5 (.v 6 (.v 7 (.v 8 (.t 9 (.v 10 .nil))))))))))) moOrd (by kernel_rfl) (zj e (za ty31 e) (rm e e (zj e (zC e e) (rm e e (jD 5 37 h (λq6 h=>?_) λJ7 h hJ7=>rJ h (λg8 h=>?_) λg8 h=>rP e g8 (rP e g8 (rP e g8 (rP e g8 (zj e (zf e g8 e) (hJ7 h 5)))))))))))))))))))))))))
 ·exact rT e (tS ty31 e e p0 y4.1 (zj e (zar e) (zah (zp (zbz (ze (.cell e .here ty31 (.tmp e .nil)) k0 (iS h ▸ ⟨e,e⟩)))))))
 exact rG e g8 (vI e GTab.f3 zcE y4.1.types) (rG e g8 (za ty29 e) (rG e g8 (vN e sl29) (rG e g8 (zjA e e) (zj e (zg e g8 e) (hJ7 h 5)))))

end Go.Proofs.Q


namespace Go.Proofs.Q
open Go.Sy
set_option maxRecDepth 4000
theorem zml {a_t zgt r} (h:zer a_t zgt=some r):Ctr Tryz.prog 10 [isv a_t,isv zgt] [] (Pt [isv r.1,isv r.2] []):=by
 unfold zer at h
 refine zh Tryz.func10 e λw0 S0 hT=>ws (oT (tB e (oa e (an e (ss (oV (vI e GTab.f2 zk3 a_t.roots) (oV (za ty28 e) (oV (vN e sl28) (oV (zC e e) (rn (zd h e (λ_ h=>?_) (λ_ h=>wk (zE (zG (.v 0 (.v 1 (.v 2 (.v 3 (.v 4 (.v 5 (.v 6 (.v 7 (.v 8 (.v 9 (.v 10 (.v 11 (.v 12 (.v 13 .nil)))))))))))))) moOrd (by kernel_rfl) (zj e (vI e GTab.f2 zk3 a_t.roots) (zj e (za ty28 e) (rm e e (zj e (zrB Tryz.underlying3 Tryz.underlying51 e) (zj e (vI e GTab.f2 zk3 a_t.roots) (zj e (za ty28 e) (zj e (vN e sl28) (zj e (zrB Tryz.underlying3 Tryz.underlying51 e) (zR h λq1 h=>zj e (zr7 e e q1) (zt h λq2 h=>zj e (zkZ Tryz.underlying51 Tryz.underlying3 e q2) (zb h λy3 hy3 h=>zj e (vX e e sl28 hy3) (zj e (za ty3 e) ?_))))))))))))))))))))))))))
 ·exact ws (oa e (ar e (zx (ze (r2 e e) k0 (iS h ▸ ⟨e,e⟩)))))
 exact zj e (zar e) (zj e (zar e) (zah (zp (zbz (ze (r2 e e) k0 (iS h ▸ ⟨e,e⟩))))))


def zka (f':Val->Int->Option (Bool × Int)):Prop :=
 ∀ {a_v zdp zeb r},f' a_v zdp=some r->Ctr Tryz.prog 24 [isv a_v,ptrv zeb (Fld.id Int)] [boxE zeb (zdp:Int)] (Pt [isv r.1] [boxE zeb (r.2)])
theorem zq6 {zlv} (zta:zka zlv):zka (ziu zlv):=by
 intro a_v zdp zeb r h
 unfold ziu at h
 refine zh Tryz.func24 e λw0 S0 hT=>ws (oT (tB e (an e (zE (zG (.v 0 (.v 1 (.v 2 (.v 5 (.v 6 (.v 7 (.v 8 (.v 10 (.v 11 (.v 12 (.t 3 (.v 4 (.v 9 (.v 13 (.v 14 (.t 15 .nil)))))))))))))))) moOrd (by kernel_rfl) (rm e e (rm e e (zj e (zn e) (zj e (vI e Val.f2 zbN a_v.b) (zj e (za ty22 e) (zj e (vN e sl22) (zR h λq1 h=>zt h λq2 h=>zj e (ztA e e q1 q2) (zj e (vI e Val.f5 zd4 a_v.more) (zj e (za ty24 e) (zj e (vN e sl24) (rT e (tL ty3 e p0 zdp (zt h λq3 h=>zj e (zdR e e q3) (zt h λq4 h=>zj e (zdR e e q4) (zt h λq5 h=>zj e (zdR e e q5) (zj e (zn e) (rT e (tS ty3 e e p0 (((zdp - 1) - ((a_v.b.length:Int).tdiv 50)) - (a_v.more.length:Int)) (zah (zp (ss ?_))))))))))))))))))))))))))
 refine an e (zo (lP h Unit () (λq6 g6=>[(5,isv q6.1)]) (λq6 g6=>[boxE zeb (q6.2:Int)]) (zu (j:=5) e hI zal) k1 λL7 q6 g6 Q42 h hL7 eL7 rL7=>ss (om e (oV (vI e Val.f5 zd4 a_v.more) (oV (za ty24 e) (oV (vN e sl24) (oV (zac e e) (om e (jO 5 32 h (λq25 h=>?_) λJ26 h hJ26=>oI h (λg27 h=>?_) λg27 h=>oN g27 (oN g27 (oN g27 (oN g27 (oV (zf e g27 e) (hJ26 h 5))))))))))))))
 ·refine rn (zd h e (λ_ h=>?_) (λ_ h=>xn (eL7 _ _ (zs (zp (ss (om e (oV (zn e) (oT (tL ty3 e p0 q6.2 (oV (zac e e) (rn (zd h e (λ_ h=>?_) (λ_ h=>wk (ss (an e (zo (lP h Unit () (λq33 g33=>[(6,isv q33.1)]) (λq33 g33=>[boxE zeb (q33.2:Int)]) (zu (j:=6) e hI zal) k1 λL34 q33 g33 Q41 h hL34 eL34 rL34=>ss (om e (oV (vI e Val.f3 zaY a_v.l) (oV (za ty23 e) (oV (vN e sl23) (oV (zac e e) (rn (zd h e (λ_ h=>?_) (λ_ h=>xn (eL34 _ _ (zs (zp ?_)))))))))))))))))))))))))))))
  ·refine wk (zE (zo (zG (.v 0 (.v 1 (.v 2 (.v 4 (.v 5 (.v 6 (.v 7 (.v 8 (.v 9 (.v 10 (.v 11 (.t 3 (.v 12 (.v 13 (.t 14 .nil))))))))))))))) moOrd (by kernel_rfl) (rm e e (rm e e (zj e (zn e) (zj e (vI e Val.f5 zd4 a_v.more) (zj e (za ty24 e) (rm e e (zb h λy28 hy28 h=>zj e (vX e e sl24 hy28) (zj e (vI e Raw.f1 ziV y28.b) (zj e (za ty22 e) (zj e (vN e sl22) (zR h λq29 h=>zt h λq30 h=>zj e (ztA e e q29 q30) (rT e (tL ty3 e p0 q6.2 (zt h λq31 h=>zj e (zdR e e q31) (zj e (zn e) (rT e (tS ty3 e e p0 (q6.2 - ((y28.b.length:Int).tdiv 50)) (zah (zw (zp (zi (om e (zt h λq32 h=>oV (zX e e q32) ?_))))))))))))))))))))))))))
   exact oa e (zF (hL7 h () 25))
  ·exact ws (ar e (zx (ze (r1 e) k1 (iS h ▸ ⟨e,e⟩))))
  ·refine wk (zE (zo (ws (oV (vI e Val.f3 zaY a_v.l) (oV (za ty23 e) (om e (zb h λy38 hy38 h=>oV (vX e e sl23 hy38) (oV (za ty26 e) (om e (zb h λy39 hy39 h=>oT (tC (zta hy39) hT (s2 e e) k1 (oV (zaA e) (rn (zd h e (λ_ h=>?_) (λ_ h=>zJ (zw (zp (zi (om e (zt h λq40 h=>oV (zX e e q40) (oa e (zF (hL34 h () 17)))))))))))))))))))))))
   exact ws (ar e (bn (rL34 _ (bn (ze (r1 e) k1 (iS h ▸ ⟨e,e⟩))))))
  exact ws (ar e (ze (r1 e) k1 (iS h ▸ ⟨e,e⟩)))
 exact oG g27 (zm e) (oG g27 (zn e) (oH g27 (tL ty3 e p0 q6.2 (oG g27 (zcY e e) (oV (zg e g27 e) (hJ26 h 5))))))

theorem zkO:∀ n,zka (zlq n)
  | 0=>λh=>(by cases h)
  | n + 1=>zq6 (zkO n)
theorem zsS (n:Nat):zka (zlq n):=(zkO n)

theorem zs3 {a_v znR r} (h:zlz a_v znR=some r):Ctr Tryz.prog 11 [isv a_v,isv znR] [] (Pt [isv r] []):=by
 unfold zlz at h
 exact zh Tryz.func11 e λw0 S0 hT=>ws (oT (tB e (an e (ws (om e (oT (zU _ ze3 λb1=>oT (tS ty3 e e p0 znR (rn (ws (oV (za ty26 e) (zb h λy2 hy2 h=>oT (tC (zsS fuel hy2) hT (s2 e e) k1 (ar e (ze (r1 e) k0 (iS h ▸ ⟨e,e⟩))))))))))))))))


theorem zmg {a_a a_b r} (h:zkx a_a a_b=some r):Ctr Tryz.prog 36 [isv a_a,isv a_b] [] (Pt [isv r] []):=by
 unfold zkx at h
 exact zh Tryz.func36 e λw0 S0 hT=>ws (an e (ws (om e (oV (zld (l:=a_a) Tryz.underlying22 Tryz.underlying5 Tryz.underlying9 e hI) (om e (oV (zld (l:=a_b) Tryz.underlying22 Tryz.underlying5 Tryz.underlying9 e hI) (oV (zcL eq9 e e) (ar e (ze (r1 e) k0 (iS h ▸ ⟨e,e⟩))))))))))


theorem zuQ {a_a a_b r} (h:zp0 a_a a_b=some r):Ctr Tryz.prog 39 [isv a_a,isv a_b] [] (Pt [isv r] []):=by
 unfold zp0 at h
 refine zh Tryz.func39 e λw0 S0 hT=>ws (oT (tB e (oT (tB e (an e (ws (oV (vI e Raw.f0 zgJ a_a.n) (oV (za ty3 e) (oV (vI e Raw.f0 zgJ a_b.n) (oV (za ty3 e) (oV (zC e e) (om e (jO 6 16 h (λq1 h=>?_) λJ2 h hJ2=>oI h (λg3 h=>?_) λg3 h=>oN g3 (oN g3 (oN g3 (oN g3 (oN g3 (oV (zf e g3 e) (hJ2 h 6)))))))))))))))))))
 ·exact ar e (ze (r1 e) k0 (iS h ▸ ⟨e,e⟩))
 exact oG g3 (vI e Raw.f1 ziV a_a.b) (oG g3 (za ty22 e) (oG g3 (vI e Raw.f1 ziV a_b.b) (oG g3 (za ty22 e) (zb h λy4 hy4 h=>oH g3 (tC (zmg hy4) hT (s2 e e) k0 (oV (zg e g3 e) (hJ2 h 6)))))))


theorem zmj {a_a a_b r} (h:zfQ a_a a_b=some r):Ctr Tryz.prog 38 [isv a_a,isv a_b,clov 39 []] [] (Pt [isv r] []):=by
 unfold zfQ at h
 refine zh Tryz.func38 e λw0 S0 hT=>ws (an e (ss (om e (oV (vN e sl24) (om e (oV (vN e sl24) (oV (zaQ e e) (rn (zd h e (λ_ h=>?_) (λ_ h=>wk (ss (an e (zo (lO 7 h e λL2 q1 Q11 h hL2 eL2 rL2=>ss (om e (om e (oV (vN e sl24) (oV (zac e e) (rn (zd h e (λ_ h=>?_) (λ_ h=>xn (eL2 _ _ (zs (zp (ws (ar e (ze (r1 e) k0 (iS h ▸ ⟨e,e⟩))))))))))))))))))))))))))))
 ·exact ws (ar e (zx (ze (r1 e) k0 (iS h ▸ ⟨e,e⟩))))
 refine wk (zE (zo (zE (zG (.v 0 (.v 1 (.v 2 (.v 3 (.v 4 (.v 5 (.v 6 (.v 7 (.v 8 (.t 9 (.v 10 .nil))))))))))) moOrd (by kernel_rfl) (rm e e (rm e e (rm e e (zb h λy7 hy7 h=>zj e (vX e e sl24 hy7) (zj e (za ty92 e) (rm e e (rm e e (zb h λy8 hy8 h=>zj e (vX e e sl24 hy8) (zj e (za ty92 e) (zb h λy9 hy9 h=>rT e (zfG e (.same e (.same e .nil)) (zuQ hy9) hT .nil (λR H' hR=>?_))))))))))))))))
 obtain ⟨rfl,rfl⟩:=hR
 refine zj e (zaA e) (zah (zp (zd h e (λ_ h=>?_) (λ_ h=>zJ (zw (zp (zi (om e (zt h λq10 h=>oV (zX e e q10) (oa e (zF (hL2 h 19))))))))))))
 exact ws (ar e (bn (rL2 _ (bn (ze (r1 e) k0 (iS h ▸ ⟨e,e⟩))))))


def zd8 (f':(List Val)->(List Val)->Option (Bool)):Prop :=
 ∀ {a_a a_b r},f' a_a a_b=some r->Ctr Tryz.prog 37 [isv a_a,isv a_b,clov 17 []] [] (Pt [isv r] [])
def ziy (f':Val->Val->Option (Bool)):Prop :=
 ∀ {a_a a_b r},f' a_a a_b=some r->Ctr Tryz.prog 17 [isv a_a,isv a_b] [] (Pt [isv r] [])
theorem zkF {zb4 zgx} (zhA:zd8 zb4) (zof:ziy zgx):zd8 (zdo zb4 zgx):=by
 intro a_a a_b r h
 unfold zdo at h
 refine zh Tryz.func37 e λw0 S0 hT=>ws (an e (ss (om e (oV (vN e sl23) (om e (oV (vN e sl23) (oV (zaQ e e) (rn (zd h e (λ_ h=>?_) (λ_ h=>wk (ss (an e (zo (lO 7 h e λL2 q1 Q11 h hL2 eL2 rL2=>ss (om e (om e (oV (vN e sl23) (oV (zac e e) (rn (zd h e (λ_ h=>?_) (λ_ h=>xn (eL2 _ _ (zs (zp (ws (ar e (ze (r1 e) k0 (iS h ▸ ⟨e,e⟩))))))))))))))))))))))))))))
 ·exact ws (ar e (zx (ze (r1 e) k0 (iS h ▸ ⟨e,e⟩))))
 refine wk (zE (zo (zE (zG (.v 0 (.v 1 (.v 2 (.v 3 (.v 4 (.v 5 (.v 6 (.v 7 (.v 8 (.t 9 (.v 10 .nil))))))))))) moOrd (by kernel_rfl) (rm e e (rm e e (rm e e (zb h λy7 hy7 h=>zj e (vX e e sl23 hy7) (zj e (za ty26 e) (rm e e (rm e e (zb h λy8 hy8 h=>zj e (vX e e sl23 hy8) (zj e (za ty26 e) (zb h λy9 hy9 h=>rT e (zfG e (.same e (.same e .nil)) (zof hy9) hT .nil (λR H' hR=>?_))))))))))))))))
 obtain ⟨rfl,rfl⟩:=hR
 refine zj e (zaA e) (zah (zp (zd h e (λ_ h=>?_) (λ_ h=>zJ (zw (zp (zi (om e (zt h λq10 h=>oV (zX e e q10) (oa e (zF (hL2 h 19))))))))))))
 exact ws (ar e (bn (rL2 _ (bn (ze (r1 e) k0 (iS h ▸ ⟨e,e⟩))))))

theorem zrA {zb4 zgx} (zhA:zd8 zb4) (zof:ziy zgx):ziy (zix zb4 zgx):=by
 intro a_a a_b r h
 unfold zix at h
 refine zh Tryz.func17 e λw0 S0 hT=>ws (oT (tB e (oT (tB e (an e (ws (oV (vI e Val.f0 zcw a_a.kind) (oV (za ty3 e) (oV (vI e Val.f0 zcw a_b.kind) (oV (za ty3 e) (oV (zC e e) (om e (jO 6 16 h (λq1 h=>?_) λJ2 h hJ2=>oI h (λg3 h=>?_) λg3 h=>oN g3 (oN g3 (oN g3 (oN g3 (oN g3 (oV (zf e g3 e) (hJ2 h 6)))))))))))))))))))
 ·refine om e (jO 6 23 h (λq4 h=>?_) λJ5 h hJ5=>oI h (λg6 h=>?_) λg6 h=>oN g6 (oN g6 (oN g6 (oN g6 (oN g6 (oV (zf e g6 e) (hJ5 h 6)))))))
  ·refine om e (jO 6 30 h (λq8 h=>?_) λJ9 h hJ9=>oI h (λg10 h=>?_) λg10 h=>oN g10 (oN g10 (oN g10 (oN g10 (oN g10 (oV (zf e g10 e) (hJ9 h 6)))))))
   ·refine om e (jO 6 37 h (λq12 h=>?_) λJ13 h hJ13=>oI h (λg14 h=>?_) λg14 h=>oN g14 (oN g14 (oN g14 (oN g14 (oN g14 (oV (zf e g14 e) (hJ13 h 6)))))))
    ·refine om e (jO 6 44 h (λq15 h=>?_) λJ16 h hJ16=>oI h (λg17 h=>?_) λg17 h=>oN g17 (oN g17 (oN g17 (oN g17 (oN g17 (oV (zf e g17 e) (hJ16 h 6)))))))
     ·exact ar e (ze (r1 e) k0 (iS h ▸ ⟨e,e⟩))
     exact oG g17 (vI e Val.f5 zd4 a_a.more) (oG g17 (za ty24 e) (oG g17 (vI e Val.f5 zd4 a_b.more) (oG g17 (za ty24 e) (zb h λy18 hy18 h=>oH g17 (tC (zmj hy18) hT (s3 e e e) k0 (oV (zg e g17 e) (hJ16 h 6)))))))
    exact oG g14 (vI e Val.f4 zdF a_a.rule) (oG g14 (za ty3 e) (oG g14 (vI e Val.f4 zdF a_b.rule) (oG g14 (za ty3 e) (oG g14 (zC e e) (oV (zg e g14 e) (hJ13 h 6))))))
   exact oG g10 (vI e Val.f3 zaY a_a.l) (oG g10 (za ty23 e) (oG g10 (vI e Val.f3 zaY a_b.l) (oG g10 (za ty23 e) (zb h λy11 hy11 h=>oH g10 (tC (zhA hy11) hT (s3 e e e) k0 (oV (zg e g10 e) (hJ9 h 6)))))))
  exact oG g6 (vI e Val.f2 zbN a_a.b) (oG g6 (za ty22 e) (oG g6 (vI e Val.f2 zbN a_b.b) (oG g6 (za ty22 e) (zb h λy7 hy7 h=>oH g6 (tC (zmg hy7) hT (s2 e e) k0 (oV (zg e g6 e) (hJ5 h 6)))))))
 exact oG g3 (vI e Val.f1 zbd a_a.n) (oG g3 (za ty2 e) (oG g3 (vI e Val.f1 zbd a_b.n) (oG g3 (za ty2 e) (oG g3 (zC e e) (oV (zg e g3 e) (hJ2 h 6))))))

theorem zfv:∀ n,zd8 (zga n)/\ziy (zi9 n)
  | 0=>⟨λh=>(by cases h),λh=>(by cases h)⟩
  | n + 1=>by
    obtain ⟨h0,h1⟩:=zfv n
    exact ⟨zkF h0 h1,zrA h0 h1⟩
theorem zos (n:Nat):ziy (zi9 n):=(zfv n).2

def zhG (f':Val->Option (Int)):Prop :=
 ∀ {a_v r},f' a_v=some r->Ctr Tryz.prog 40 [isv a_v] [] (Pt [isv r] [])
theorem zpu {ziF} (zp6:zhG ziF):zhG (zgE ziF):=by
 intro a_v r h
 unfold zgE at h
 refine zh Tryz.func40 e λw0 S0 hT=>ws (oT (tB e (an e (ws (an e (ss (an e (zo (lP h Unit () (λq1 g1=>[(3,isv q1.1),(4,isv q1.2)]) (λq1 g1=>[]) (zu (j:=3) e hI (zu (j:=4) e hI zal)) k0 λL2 q1 g1 Q11 h hL2 eL2 rL2=>ss (om e (oV (vI e Val.f3 zaY a_v.l) (oV (za ty23 e) (oV (vN e sl23) (oV (zac e e) (rn (zd h e (λ_ h=>?_) (λ_ h=>xn (eL2 _ _ (zs (zp (ws (om e (ar e (ze (r1 e) k0 (iS h ▸ ⟨e,e⟩)))))))))))))))))))))))))
 exact wk (zE (zo (zi (om e (oV (vI e Val.f3 zaY a_v.l) (oV (za ty23 e) (om e (zb h λy7 hy7 h=>oV (vX e e sl23 hy7) (oV (za ty26 e) (zb h λy8 hy8 h=>oT (tC (zp6 hy8) hT (s1 e) k0 (zt h λq9 h=>oV (zX e e q9) (oa e (rb (zp (zi (om e (zt h λq10 h=>oV (zX e e q10) (oa e (zF (hL2 h () 19)))))))))))))))))))))

theorem zjh:∀ n,zhG (zij n)
  | 0=>λh=>(by cases h)
  | n + 1=>zpu (zjh n)
theorem zqH (n:Nat):zhG (zij n):=(zjh n)

theorem zpA {a_t a_i r} (h:zkj a_t a_i=some r):Ctr Tryz.prog 175 [isv a_t,isv a_i] [] (Pt [isv r] []):=by
 unfold zkj at h
 refine zh Tryz.func175 e λw0 S0 hT=>ws (oT (tB e (an e (ws (om e (oV (zcY e e) (om e (jO 6 13 h (λq1 h=>?_) λJ2 h hJ2=>oI h (λg3 h=>?_) λg3 h=>oN g3 (oN g3 (oN g3 (oN g3 (oN g3 (oV (zf e g3 e) (hJ2 h 6))))))))))))))
 ·exact ar e (ze (r1 e) k0 (iS h ▸ ⟨e,e⟩))
 exact oG g3 (zm e) (oG g3 (vI e GTab.f3 zcE a_t.types) (oG g3 (za ty29 e) (oG g3 (vN e sl29) (oG g3 (zac e e) (oV (zg e g3 e) (hJ2 h 6))))))


theorem zjO {a_t a_i r} (h:zf4 a_t a_i=some r):Ctr Tryz.prog 140 [isv a_t,isv a_i] [] (Pt [isv r] []):=by
 unfold zf4 at h
 refine zh Tryz.func140 e λw0 S0 hT=>ws (oT (tB e (oa e (zO (zaW) (zO (ze2 (α:=NL Int)) (zO (zaS 4 e nilvV) (rn (ss (oV (za ty31 e) (om e (zb h λy3 hy3 h=>oT (tC (zpA hy3) hT (s2 e e) k0 (oV (zaA e) (rn (zd h e (λ_ h=>?_) (λ_ h=>wk (ws (oV (vI e GTab.f3 zcE a_t.types) (oV (za ty29 e) (om e (zb h λy6 hy6 h=>oV (vX e e sl29 hy6) (oV (za ty129 e) (oT (zU _ ze129 λb7=>oT (tS ty129 e e p0 y6 (zO (zaz 5 .here e) (rn (ss (oV (vI e GTyp.f0 zbh y6.kind) ?_)))))))))))))))))))))))))))))
 ·exact ws (oa e (zO (zaW) (zO (ze2 (α:=NL Int)) (zO (zaS 4 e nilvV) (rn (zbz (zx (zgo (zhe 4 .here e (by first | rfl | simp)) (zgo (zaS 4 e (zj0 (t:=none) (L:=(([]:(List (List Int))):List (List Int))))) (ze (r1 e) k0 (iS h ▸ ⟨e,e⟩)))))))))))
 refine oV (za ty3 e) (oV (zaQ e e) (om e (jO 4 25 h (λq8 h=>?_) λJ9 h hJ9=>oI h (λg10 h=>?_) λg10 h=>oN g10 (oN g10 (oN g10 (oV (zf e g10 e) (hJ9 h 4)))))))
 ·refine om e (jO 4 30 h (λq11 h=>?_) λJ12 h hJ12=>oI h (λg13 h=>?_) λg13 h=>oN g13 (oN g13 (oN g13 (oV (zf e g13 e) (hJ12 h 4)))))
  ·refine rn (zd h e (λ_ h=>?_) (λ_ h=>wk (ws (oa e (zO (zaW) (zO (ze2 (α:=NL Int)) (zO (zaS 6 e nilvV) (rn (ss (oV (vI e GTyp.f5 ze4 y6.root) (oV (za ty3 e) (an e (zo (lP h (Vt × Tok) (none,none) (λq18 g18=>[(6,vecv g18.1 (q18.1.length)),(7,isv q18.2)]) (λq18 g18=>[vecE g18.1 (nestL g18.2 (q18.1:List (List Int))),tokE g18.2]) (zu (j:=6) e (vecvE (by first | rfl | simp)) (zu (j:=7) e hI zal)) k2 λL19 q18 g18 Q78 h hL19 eL19 rL19=>ss (om e (oV (vI e GTyp.f4 zaB y6.fields) (oV (za ty127 e) (oV (vN e sl127) (oV (zac e e) (rn (zd h e (λ_ h=>?_) (λ_ h=>xn (eL19 _ _ (zs (zp (ws (om e (ar e ?_))))))))))))))))))))))))))))
   ·exact ws (oa e (zO (zaW) (zO (ze2 (α:=NL Int)) (zO (zaS 4 e nilvV) (rn (zbz (zx (zgo (zhe 4 .here e (by first | rfl | simp)) (zgo (zaS 4 e (zj0 (t:=none) (L:=(([]:(List (List Int))):List (List Int))))) (ze (r1 e) k0 (iS h ▸ ⟨e,e⟩)))))))))))
   ·refine wk (zE (jw h (Vt × Tok) (λq49 g49=>[(6,vecv g49.1 (q49.length))]) (λq49 g49=>[vecE g49.1 (nestL g49.2 (q49:List (List Int))),tokE g49.2]) k2 (λq49 g49 h=>?_) λJ50 h hJ50=>zo (ws (oV (vI e GTyp.f4 zaB y6.fields) (oV (za ty127 e) (om e (zb h λy51 hy51 h=>oV (vX e e sl127 hy51) (oV (vI e GFld.f5 ziR y51.group) (oV (za ty3 e) (an e (ws (oV (vI e GTyp.f0 zbh y6.kind) (oV (za ty3 e) (oV (zaQ e e) (om e (jO 3 52 h (λq52 h=>?_) λJ53 h hJ53=>oI h (λg54 h=>?_) λg54 h=>oN g54 (oN g54 (oV (zf e g54 e) (hJ53 h 3)))))))))))))))))))
    ·exact zi (om e (zt h λq77 h=>oV (zX e e q77) (oa e (zF (hL19 h (g49.1,g49.2) 11)))))
    ·refine om e (jO 5 58 h (λq55 h=>?_) λJ56 h hJ56=>oI h (λg57 h=>?_) λg57 h=>oN g57 (oN g57 (oN g57 (oN g57 (oV (zf e g57 e) (hJ56 h 5))))))
     ·refine om e (jO 10 69 h (λq58 h=>?_) λJ59 h hJ59=>oI h (λg60 h=>?_) λg60 h=>oN g60 (oN g60 (oN g60 (oN g60 (oN g60 (oN g60 (oN g60 (oN g60 (oN g60 (oV (zf e g60 e) (hJ59 h 10)))))))))))
      ·refine rn (zd h e (λ_ h=>?_) (λ_ h=>zi (om e (om e (oT (zB (l:=([q18.2]:(List Int))) el28 (.cons e hI .nil) e e (zO (zaW) (oT (zB (l:=[NL.mk (([q18.2]:(List Int))) (some none)]) el178 (.cons e zoL .nil) e e (zR h λq76 h=>oT (zkk (m:=[NL.mk (([q18.2]:(List Int))) (some none)]) zmc e e zz (.there .here) (by first | rfl | simp) (by rw [zeK];exact q76) λv75=>zO (zpz .here) (zO (zaS (R':=vecv v75 (q18.1 ++ [([q18.2]:(List Int))]).length) 88 e (vecvE (by simp))) (oa e (rb (hJ50 h (v75,none) 23)))))))))))))))
       refine zi (om e (om e (oV (zhg sl178 e) (zt h λq63 h=>oV (zdR e e q63) (om e (om e (oV (zhg sl178 e) (zt h λq64 h=>oV (zdR e e q64) (zad h λq65 h=>oV (zdi (α:=NL Int) sl178 e e q65.1 q65.2) (zad h λq66 h=>zb h λy67 hy67 h=>oT (zdJ ty28 e .here (zhp q66 hy67) (zO (zaS 79 e zth) (om e (oT (zB (l:=([q18.2]:(List Int))) el28 (.cons e hI .nil) e e (zR h λq70 h=>oT (zbY (l:=y67) (m:=([q18.2]:(List Int))) zeY e hI e zz (.there .here) q70 λt69=>zad h λq71 h=>oV (zdi (α:=NL Int) sl178 e e q71.1 q71.2) (zad h λq72 h=>zb h λy73 hy73 h=>zO (zaS 82 e zoL) (oT (zgC ty28 e e (.there .here) (zhp q72 hy73) (zO (zqc .here (zl7 q72)) (zO (zaS (R':=vecv g18.1 (q18.1.set ((((q18.1.length:Nat):Int) - (1:Int)).toNat) (y67 ++ ([q18.2]:(List Int)))).length) 6 e (vecvE (by simp))) (zO (zaS (R':=vecv g18.1 (q18.1.set ((((q18.1.length:Nat):Int) - (1:Int)).toNat) (y67 ++ ([q18.2]:(List Int)))).length) 70 e (vecvE (by simp))) ?_)))))))))))))))))))))))
       exact zO (zaS (R':=vecv g18.1 (q18.1.set ((((q18.1.length:Nat):Int) - (1:Int)).toNat) (y67 ++ ([q18.2]:(List Int)))).length) 71 e (vecvE (by simp))) (zO (zaS (R':=vecv g18.1 (q18.1.set ((((q18.1.length:Nat):Int) - (1:Int)).toNat) (y67 ++ ([q18.2]:(List Int)))).length) 74 e (vecvE (by simp))) (zO (zaS (R':=vecv g18.1 (q18.1.set ((((q18.1.length:Nat):Int) - (1:Int)).toNat) (y67 ++ ([q18.2]:(List Int)))).length) 75 e (vecvE (by simp))) (rb (hJ50 h (g18.1,t69) 37))))
      exact oG g60 (vI e GTyp.f4 zaB y6.fields) (oG g60 (za ty127 e) (oG g60 (zm e) (zt h λq61 h=>oG g60 (zdR e e q61) (zb h λy62 hy62 h=>oG g60 (vX e e sl127 hy62) (oG g60 (vI e GFld.f5 ziR y62.group) (oG g60 (za ty3 e) (oG g60 (zm e) (oG g60 (zC e e) (oV (zg e g60 e) (hJ59 h 10))))))))))
     exact oG g57 (zm e) (oG g57 (vI e GTyp.f5 ze4 y6.root) (oG g57 (za ty3 e) (oG g57 (zbw e e) (oV (zg e g57 e) (hJ56 h 5)))))
    exact oG g54 (zm e) (oG g54 (zbw e e) (oV (zg e g54 e) (hJ53 h 3)))
   exact zgo (zhe 4 .here e (by first | rfl | simp)) (zgo (zaS 4 e (zj0 (t:=g18.2) (L:=(q18.1:List (List Int))))) (ze (r1 e) k0 (iS h ▸ ⟨e,e⟩)))
  exact oG g13 (vI e GTyp.f0 zbh y6.kind) (oG g13 (za ty3 e) (oG g13 (zaQ e e) (oV (zg e g13 e) (hJ12 h 4))))
 exact oG g10 (vI e GTyp.f0 zbh y6.kind) (oG g10 (za ty3 e) (oG g10 (zaQ e e) (oV (zg e g10 e) (hJ9 h 4))))


theorem zmo {a_b r} (h:zeB a_b=some r):Ctr Tryz.prog 233 [isv a_b] [] (Pt [isv r.1,isv r.2.1,isv r.2.2] []):=by
 unfold zeB at h
 refine zh Tryz.func233 e λw0 S0 hT=>ws (oa e (oa e (an e (ws (an e (ss (an e (zo (lP h Unit () (λq1 g1=>[(5,isv q1.1),(6,isv q1.2)]) (λq1 g1=>[]) (zu (j:=5) e hI (zu (j:=6) e hI zal)) k0 λL2 q1 g1 Q27 h hL2 eL2 rL2=>ss (om e (om e (oV (vN e sl22) (oV (zac e e) (rn (zd h e (λ_ h=>?_) (λ_ h=>xn (eL2 _ _ (zs (zp (ws (oa e (oa e (ar e (ze (.tmp e (.tmp e (.tmp e .nil))) k0 (iS h ▸ ⟨e,e⟩)))))))))))))))))))))))))
 refine wk (zE (zo (ss (om e (oV (zC e e) (om e (jO 5 20 h (λq15 h=>?_) λJ16 h hJ16=>oI h (λg17 h=>?_) λg17 h=>oN g17 (oN g17 (oN g17 (oN g17 (oV (zf e g17 e) (hJ16 h 5))))))))))))
 ·refine om e (jO 3 24 h (λq19 h=>?_) λJ20 h hJ20=>oI h (λg21 h=>?_) λg21 h=>oG g21 (zm e) (oG g21 (zvf e e) (oV (zf e g21 e) (hJ20 h 3))))
  ·refine rn (zd h e (λ_ h=>?_) (λ_ h=>wk (ws (om e (zR h λq22 h=>oV (zfS e e q22) (om e (om e (zb h λy23 hy23 h=>oV (vX e e sl22 hy23) (oV (za ty5 e) (oV (zhU e e) (oV (zel Tryz.underlying5 Tryz.underlying102 e) (oV (ze7 e e) (an e (ws (om e (om e (zb h λy24 hy24 h=>oV (vX e e sl22 hy24) (oV (za ty5 e) (oV (zeN e e) (rn (zd h e (λ_ h=>?_) (λ_ h=>zJ (zw (zp (zi (om e ?_))))))))))))))))))))))))))
   ·exact ws (oa e (oa e (ar e (zx (bn (rL2 _ (bn (ze (.tmp e (.tmp e (.tmp e .nil))) k0 (iS h ▸ ⟨e,e⟩)))))))))
   ·exact ws (om e (om e (zt h λq25 h=>oV (zX e e q25) (oa e (oa e (ar e (bn (rL2 _ (bn (ze (.tmp e (.tmp e (.tmp e .nil))) k0 (iS h ▸ ⟨e,e⟩)))))))))))
   exact zt h λq26 h=>oV (zX e e q26) (oa e (zF (hL2 h () 30)))
  exact oN g21 (oN g21 (oV (zg e g21 e) (hJ20 h 3)))
 exact oG g17 (zm e) (zb h λy18 hy18 h=>oG g17 (vX e e sl22 hy18) (oG g17 (za ty5 e) (oG g17 (zcL eq5 e e) (oV (zg e g17 e) (hJ16 h 5)))))


theorem zm5 {a_v r} (h:zfA a_v=some r):Ctr Tryz.prog 249 [isv a_v] [] (Pt [isv r] []):=by
 unfold zfA at h
 refine zh Tryz.func249 e λw0 S0 hT=>ws (an e (ws (om e (oV (zmX Tryz.underlying102 Tryz.underlying5 e) (oT (zB (l:=([a_v.toUInt8]:(List UInt8))) el22 (.cons e hI .nil) e e (an e (zE (zo (zhE (zaW) (lP h Tok none (λq2 g2=>[(0,isv q2.1),(3,appv g2 q2.2)]) (λq2 g2=>[tokE g2]) (zu (j:=0) e hI (zu (j:=3) e hI zal)) k1 λL3 q2 g2 Q10 h hL3 eL3 rL3=>ss (om e (oV (zkg e e) (rn (zd h e (λ_ h=>?_) (λ_ h=>xn (eL3 _ _ (zs (zp (ws (om e (ar e (ze (.as e zz .nil) k0 (iS h ▸ ⟨e,e⟩))))))))))))))))))))))))
 exact wk (zo (ws (om e (oV (zr5 (q:=(8:UInt64)) e e (by decide)) (an e (zi (om e (oV (zmX Tryz.underlying102 Tryz.underlying5 e) (oT (zB (l:=([(q2.1 >>> (8:UInt64)).toUInt8]:(List UInt8))) el22 (.cons e hI .nil) e e (om e (zO (zaW) (zR h λq9 h=>oT (zbY (l:=([(q2.1 >>> (8:UInt64)).toUInt8]:(List UInt8))) (m:=q2.2) zkq e hI e zz .here q9 λt8=>oa e (rb (hL3 h t8 13))))))))))))))))


theorem zk0 {a_b r} (h:zdO a_b=some r):Ctr Tryz.prog 234 [isv a_b] [] (Pt [isv r.1,isv r.2] []):=by
 unfold zdO at h
 refine zh Tryz.func234 e λw0 S0 hT=>ws (oa e (an e (ss (om e (oV (vN e sl22) (oV (zC e e) (rn (zd h e (λ_ h=>?_) (λ_ h=>wk (ss (om e (oV (vN e sl22) (oV (zbw e e) (rn (zd h e (λ_ h=>?_) (λ_ h=>wk (ws (an e (ss (an e (zo (lP h Unit () (λq1 g1=>[(4,isv q1.1),(5,isv q1.2)]) (λq1 g1=>[]) (zu (j:=4) e hI (zu (j:=5) e hI zal)) k0 λL2 q1 g1 Q13 h hL2 eL2 rL2=>ss (om e (om e (oV (vN e sl22) (oV (zac e e) (rn ?_)))))))))))))))))))))))))))
 ·exact ws (oa e (ar e (zx (ze (r2 e e) k0 (iS h ▸ ⟨e,e⟩)))))
 ·exact ws (oa e (ar e (zx (ze (r2 e e) k0 (iS h ▸ ⟨e,e⟩)))))
 refine zd h e (λ_ h=>?_) (λ_ h=>xn (eL2 _ _ (zs (zp (ss (om e (zb h λy11 hy11 h=>oT (tC (zm5 hy11) hT (s1 e) k0 (om e (zb h λy12 hy12 h=>oT (tC (zmg hy12) hT (s2 e e) k0 (oV (zaA e) (rn (zd h e (λ_ h=>?_) (λ_ h=>wk (ws (om e (oa e (ar e (ze (r2 e e) k0 (iS h ▸ ⟨e,e⟩)))))))))))))))))))))
 ·exact wk (zE (zo (zi (om e (zR h λq8 h=>oV (zfS e e q8) (om e (om e (zb h λy9 hy9 h=>oV (vX e e sl22 hy9) (oV (za ty5 e) (oV (zel Tryz.underlying5 Tryz.underlying102 e) (oV (ze7 e e) (oa e (rb (zp (zi (om e (zt h λq10 h=>oV (zX e e q10) (oa e (zF (hL2 h () 18))))))))))))))))))))
 exact ws (oa e (ar e (zx (ze (r2 e e) k0 (iS h ▸ ⟨e,e⟩)))))


theorem znO {a_b r} (h:zfP a_b=some r):Ctr Tryz.prog 209 [isv a_b] [] (Pt [isv r.1,isv r.2.1,isv r.2.2.1,isv r.2.2.2.1,isv r.2.2.2.2] []):=by
 unfold zfP at h
 refine zh Tryz.func209 e λw0 S0 hT=>ws (oT (zU _ ze206 λb1=>oa e (oa e (oa e (an e (ss (om e (oV (vN e sl22) (oV (zC e e) (rn (zd h e (λ_ h=>?_) (λ_ h=>wk (zE (zG (.v 0 (.v 1 (.v 2 (.v 3 (.v 4 (.v 5 (.v 6 (.v 7 (.v 8 (.v 9 (.v 10 (.t 11 (.t 12 .nil))))))))))))) moOrd (by kernel_rfl) (rm e e (zb h λy2 hy2 h=>zj e (vX e e sl22 hy2) (zj e (za ty5 e) (zR h λq3 h=>zj e (zmd e e q3) (zj e (zmx Tryz.underlying5 Tryz.underlying3 e) (rm e e (zb h λy4 hy4 h=>zj e (vX e e sl22 hy4) (zj e (za ty5 e) (zj e (zhU e e) (zj e (zmx Tryz.underlying5 Tryz.underlying3 e) (zj e (zak (z:=(Tag.mk ((shr8 y2 (6:UInt64).toNat).toNat:Int) ((y4 &&& (31:UInt8)).toNat:Int))) e bu206 ze206 (.cons Tag.f0 zfE e hI (.cons Tag.f1 zdz e hI .nil))) ?_)))))))))))))))))))))))))
 ·exact ws (oV (zak (z:=(Tag.mk (0:Int) (0:Int))) e bu206 ze206 .nil) (oT (tS ty206 e e p0 ⟨0,0⟩ (oa e (oa e (oa e (ar e (zx (ze (.cell e .here ty206 (.tmp e (.tmp e (.tmp e (.tmp e .nil))))) k0 (iS h ▸ ⟨e,e⟩))))))))))
 refine rT e (zU _ ze206 λb5=>rT e (tS ty206 e e p0 ⟨((shr8 y2 (6:UInt64).toNat).toNat:Int),((y4 &&& (31:UInt8)).toNat:Int)⟩ (zah (zp (ws (om e (zb h λy6 hy6 h=>oV (vX e e sl22 hy6) (oV (za ty5 e) (oV (zhU e e) (oV (zkJ eq5 e e) (an e (ws (an e (ss (oV (zV e Tag.f1 zdz) (oT (tL ty3 e p0 ((y4 &&& (31:UInt8)).toNat) (oV (zC e e) (rn (jw h Unit (λq7 g7=>[(9,isv q7.1)]) (λq7 g7=>[boxE b5 (q7.2:Tag)]) k1 (λq7 g7 h=>?_) λJ8 h hJ8=>zd h e (λ_ h=>?_) (λ_ h=>zJ (hJ8 h () 0))))))))))))))))))))))
 ·refine ss (om e (om e (oV (vN e sl22) (oV (zcY e e) (rn (zd h e (λ_ h=>?_) (λ_ h=>wk (ws (om e (om e (zb h λy16 hy16 h=>oV (vX e e sl22 hy16) (oV (za ty5 e) (oV (zmx Tryz.underlying5 Tryz.underlying3 e) (an e (ws (om e (zt h λq17 h=>oV (zX e e q17) (an e (ss (om e (oV (zcY e e) (rn (jw h Unit (λq18 g18=>[(9,isv q18.1),(13,isv q18.2)]) (λq18 g18=>[]) k0 (λq18 g18 h=>?_) λJ19 h hJ19=>zd h e (λ_ h=>?_) (λ_ h=>zJ (hJ19 h () 0)))))))))))))))))))))))))
  ·exact ws (oV (zak (z:=(Tag.mk (0:Int) (0:Int))) e bu206 ze206 .nil) (oT (tS ty206 e e p1 ⟨0,0⟩ (oa e (oa e (oa e (ar e (zx (ze (.cell e .here ty206 (.tmp e (.tmp e (.tmp e (.tmp e .nil))))) k0 (iS h ▸ ⟨e,e⟩))))))))))
  ·exact ws (oT (tL ty206 e p0 q7.2 (om e (om e (om e (oT (tS ty206 e e p1 q7.2 (oa e (oa e (oa e (ar e (ze (.cell e .here ty206 (.tmp e (.tmp e (.tmp e (.tmp e .nil))))) k0 (iS h ▸ ⟨e,e⟩)))))))))))))
  refine ws (om e (zt h λq20 h=>oV (zdR e e q20) (an e (ss (om e (oV (zC e e) (om e (jO 3 84 h (λq21 h=>?_) λJ22 h hJ22=>oI h (λg23 h=>?_) λg23 h=>oG g23 (zm e) (oG g23 (zbw e e) (oV (zf e g23 e) (hJ22 h 3)))))))))))
  ·refine rn (zd h e (λ_ h=>?_) (λ_ h=>wk (ss (om e (oV (vN e sl22) (om e (zt h λq24 h=>oV (zdR e e q24) (om e (oV (zac e e) (rn (zd h e (λ_ h=>?_) (λ_ h=>wk (ws (om e (om e (om e (om e (zt h λq25 h=>oV (zX e e q25) (zad h λq26 h=>oV (zf1 (l:=a_b) e hI sl22 (.inr ⟨_,e,e⟩) (.inr ⟨_,e,e⟩) q26.1 q26.2.1 q26.2.2) (zb h λy27 hy27 h=>oT (tC (zk0 hy27) hT (s1 e) k0 (om e (oV (zD e e) (oV (zD e e) (oa e (an e ?_))))))))))))))))))))))))))
   ·exact ws (oV (zak (z:=(Tag.mk (0:Int) (0:Int))) e bu206 ze206 .nil) (oT (tS ty206 e e p1 ⟨0,0⟩ (oa e (oa e (oa e (ar e (zx (zx (ze (.cell e .here ty206 (.tmp e (.tmp e (.tmp e (.tmp e .nil))))) k0 (iS h ▸ ⟨e,e⟩)))))))))))
   ·exact ws (oV (zak (z:=(Tag.mk (0:Int) (0:Int))) e bu206 ze206 .nil) (oT (tS ty206 e e p1 ⟨0,0⟩ (oa e (oa e (oa e (ar e (zx (zx (ze (.cell e .here ty206 (.tmp e (.tmp e (.tmp e (.tmp e .nil))))) k0 (iS h ▸ ⟨e,e⟩)))))))))))
   refine ss (om e (oV (zaQ e e) (om e (jO 3 108 h (λq28 h=>?_) λJ29 h hJ29=>oI h (λg30 h=>?_) λg30 h=>oG g30 (zm e) (oG g30 (zls e e) (oV (zf e g30 e) (hJ29 h 3)))))))
   ·refine om e (jO 3 112 h (λq31 h=>?_) λJ32 h hJ32=>oI h (λg33 h=>?_) λg33 h=>oG g33 (zm e) (oG g33 (zkg e e) (oV (zf e g33 e) (hJ32 h 3))))
    ·refine rn (zd h e (λ_ h=>?_) (λ_ h=>wk (zi (om e (zt h λq34 h=>oV (zkZ Tryz.underlying102 Tryz.underlying3 e q34) (om e (om e (zt h λq35 h=>oV (zX e e q35) (oa e (oa e (zF (hJ19 h () 38))))))))))))
     exact ws (oV (zak (z:=(Tag.mk (0:Int) (0:Int))) e bu206 ze206 .nil) (oT (tS ty206 e e p1 ⟨0,0⟩ (oa e (oa e (oa e (ar e (zx (zx (ze (.cell e .here ty206 (.tmp e (.tmp e (.tmp e (.tmp e .nil))))) k0 (iS h ▸ ⟨e,e⟩)))))))))))
    exact oN g33 (oN g33 (oV (zg e g33 e) (hJ32 h 3)))
   exact oN g30 (oN g30 (oV (zg e g30 e) (hJ29 h 3)))
  exact oN g23 (oN g23 (oV (zg e g23 e) (hJ22 h 3)))
 refine ws (om e (zad h λq9 h=>oV (zf1 (l:=a_b) e hI sl22 (.inr ⟨_,e,e⟩) (.inl ⟨e,e⟩) q9.1 q9.2.1 q9.2.2) (zb h λy10 hy10 h=>oT (tC (zmo hy10) hT (s1 e) k0 (om e (oV (zD e e) (oV (zD e e) (oV (zD e e) (oa e (oa e (an e (ss (om e (oV (zaQ e e) (rn (zd h e (λ_ h=>?_) (λ_ h=>wk (ss (om e (oV (zls e e) (om e (jO 3 56 h (λq11 h=>?_) λJ12 h hJ12=>oI h (λg13 h=>?_) λg13 h=>oG g13 (zm e) (oG g13 (zkg e e) (oV (zf e g13 e) (hJ12 h 3)))))))))))))))))))))))))
 ·exact ws (oV (zak (z:=(Tag.mk (0:Int) (0:Int))) e bu206 ze206 .nil) (om e (oT (tS ty206 e e p1 ⟨0,0⟩ (oa e (oa e (oa e (ar e (zx (zx (ze (.cell e .here ty206 (.tmp e (.tmp e (.tmp e (.tmp e .nil))))) k0 (iS h ▸ ⟨e,e⟩))))))))))))
 ·refine rn (zd h e (λ_ h=>?_) (λ_ h=>wk (zi (om e (zt h λq14 h=>oV (zkZ Tryz.underlying102 Tryz.underlying3 e q14) (om e (zt h λq15 h=>oV (zX e e q15) (oV (zV e Tag.f1 zdz) (oT (tS ty3 e e p0 ⟨((shr8 y2 (6:UInt64).toNat).toNat:Int),(y10.1.toNat:Int)⟩ (oa e (zF (hJ8 h () 22)))))))))))))
  exact ws (oV (zak (z:=(Tag.mk (0:Int) (0:Int))) e bu206 ze206 .nil) (oT (tS ty206 e e p1 ⟨0,0⟩ (oa e (oa e (oa e (ar e (zx (zx (ze (.cell e .here ty206 (.tmp e (.tmp e (.tmp e (.tmp e .nil))))) k0 (iS h ▸ ⟨e,e⟩)))))))))))
 exact oN g13 (oN g13 (oV (zg e g13 e) (hJ12 h 3)))


theorem zn6 {a_b r} (h:zhL a_b=some r):Ctr Tryz.prog 210 [isv a_b] [] (Pt [isv r] []):=by
 unfold zhL at h
 exact zh Tryz.func210 e λw0 S0 hT=>ws (an e (ws (om e (zR h λq2 h=>oT (zl5 (m:=a_b) zkq e e hI q2 λt1=>ar e (ze (.as e zz .nil) k0 (iS h ▸ ⟨e,e⟩)))))))


theorem zri {a_b r} (h:zjF a_b=some r):Ctr Tryz.prog 176 [isv a_b] [] (Pt [isv r.1,isv r.2.1,isv r.2.2.1,isv r.2.2.2.1,isv r.2.2.2.2] []):=by
 unfold zjF at h
 refine zh Tryz.func176 e λw0 S0 hT=>ws (oT (zU _ ze206 λb1=>oa e (oa e (oa e (an e (ws (om e (zb h λy2 hy2 h=>oT (tC (znO hy2) hT (s1 e) k0 (om e (oV (zD e e) (oV (zD e e) (oV (zD e e) (oV (zD e e) (oV (zD e e) (oT (zU _ ze206 λb3=>oT (tS ty206 e e p0 y2.1 (zO (zaz 7 .here e) (oa e (oa e (oa e (an e (ss (om e (oV (zaQ e e) (rn (zd h e (λ_ h=>?_) (λ_ h=>wk ?_)))))))))))))))))))))))))))))
 ·exact ws (oV (zak (z:=(Tag.mk (0:Int) (0:Int))) e bu206 ze206 .nil) (om e (oT (tS ty206 e e p0 ⟨0,0⟩ (oa e (oa e (oa e (ar e (zx (ze (.cell e .here ty206 (.tmp e (.as e (zdQ (α:=UInt8)) (.tmp e (.tmp e .nil))))) k0 (iS h ▸ ⟨e,e⟩)))))))))))
 refine ss (om e (om e (oV (vN e sl22) (om e (zt h λq4 h=>oV (zdR e e q4) (oV (zbw e e) (rn (zd h e (λ_ h=>?_) (λ_ h=>wk (zE (zG (.v 0 (.v 1 (.v 2 (.v 3 (.v 4 (.v 5 (.v 6 (.v 7 (.v 9 (.v 10 (.v 11 (.t 8 (.t 12 (.v 13 (.v 14 (.v 15 (.v 16 .nil))))))))))))))))) moOrd (by kernel_rfl) (zj e (za ty206 e) (rm e e (rm e e (rm e e (rm e e (rm e e (zt h λq5 h=>zj e (zX e e q5) (zad h λq6 h=>zj e (zf1 (l:=a_b) e hI sl22 (.inr ⟨_,e,e⟩) (.inr ⟨_,e,e⟩) q6.1 q6.2.1 q6.2.2) (rm e e (rm e e (zt h λq7 h=>zj e (zX e e q7) (zb h λy8 hy8 h=>rT e (tC (zn6 hy8) hT (s1 e) k0 (rT e (tS ty206 e e p0 y2.1 ?_))))))))))))))))))))))))))
 ·exact ws (oV (zak (z:=(Tag.mk (0:Int) (0:Int))) e bu206 ze206 .nil) (oT (tS ty206 e e p0 ⟨0,0⟩ (oa e (oa e (oa e (ar e (zx (ze (.cell e .here ty206 (.tmp e (.as e (zdQ (α:=UInt8)) (.tmp e (.tmp e .nil))))) k0 (iS h ▸ ⟨e,e⟩))))))))))
 exact zj e (zar e) (zj e (zar e) (zj e (zar e) (zj e (zar e) (zah (zp (zbz (ze (.cell e .here ty206 (.tmp e (.tmp e (.tmp e (.tmp e .nil))))) k0 (iS h ▸ ⟨e,e⟩))))))))


def zfz (f':(List GTyp)->Int->Option ((List Tag))):Prop :=
 ∀ {a_l a_i r},f' a_l a_i=some r->Ctr Tryz.prog 212 [isv a_l,isv a_i] [] (Pt [isv r] [])
theorem zmD {zgq} (znb:zfz zgq):zfz (zeo zgq):=by
 intro a_l a_i r h
 unfold zeo at h
 refine zh Tryz.func212 e λw0 S0 hT=>ws (an e (ss (om e (om e (zb h λy1 hy1 h=>oV (vX e e sl29 hy1) (oV (vI e GTyp.f1 zeZ y1.tags) (oV (za ty123 e) (oV (vN e sl123) (oV (zbw e e) (rn (zd h e (λ_ h=>?_) (λ_ h=>wk (ws (an e (ss (an e (zo (zhE (zaW) (lP h Tok none (λq4 g4=>[(5,appv g4 q4.1),(6,isv q4.2)]) (λq4 g4=>[tokE g4]) (zu (j:=5) e zcC (zu (j:=6) e hI zal)) k1 λL5 q4 g4 Q21 h hL5 eL5 rL5=>ss (om e (om e (om e (zb h λy13 hy13 h=>oV (vX e e sl29 hy13) (oV (vI e GTyp.f4 zaB y13.fields) (oV (za ty127 e) ?_)))))))))))))))))))))))))
 ·exact ws (om e (om e (zb h λy2 hy2 h=>oV (vX e e sl29 hy2) (oV (vI e GTyp.f1 zeZ y2.tags) (oV (za ty123 e) (zad h λq3 h=>oV (zf1 (l:=y2.tags) e hI sl123 (.inl ⟨e,e⟩) (.inr ⟨_,e,e⟩) q3.1 q3.2.1 q3.2.2) (ar e (zx (ze (r1 e) k0 (iS h ▸ ⟨e,e⟩))))))))))
 refine oV (vN e sl127) (oV (zac e e) (rn (zd h e (λ_ h=>?_) (λ_ h=>xn (eL5 _ _ (zs (zp (ws (om e (ar e (ze (.as e zz .nil) k0 (iS h ▸ ⟨e,e⟩))))))))))))
 refine wk (zE (zo (zi (om e (om e (om e (om e (zb h λy14 hy14 h=>oV (vX e e sl29 hy14) (oV (vI e GTyp.f4 zaB y14.fields) (oV (za ty127 e) (om e (zb h λy15 hy15 h=>oV (vX e e sl127 hy15) (oV (vI e GFld.f1 zcr y15.ty) (oV (za ty3 e) (zb h λy16 hy16 h=>oT (tC (znb hy16) hT (s2 e e) k0 (zR h λq18 h=>oT (zbY (l:=q4.1) (m:=y16) zfh e hI e hI .here q18 λt17=>oa e (rb (zp (zi (om e (zt h λq19 h=>oV (zX e e q19) (oa e (zF ?_)))))))))))))))))))))))))
 exact hL5 h t17 27

theorem zg4:∀ n,zfz (zfH n)
  | 0=>λh=>(by cases h)
  | n + 1=>zmD (zg4 n)
theorem znL (n:Nat):zfz (zfH n):=(zg4 n)

theorem zpq {a_t a_i r} (h:zhc a_t a_i=some r):Ctr Tryz.prog 179 [isv a_t,isv a_i] [] (Pt [isv r] []):=by
 unfold zhc at h
 refine zh Tryz.func179 e λw0 S0 hT=>ws (oT (tB e (an e (ss (om e (oV (zac e e) (om e (jO 6 13 h (λq1 h=>?_) λJ2 h hJ2=>oI h (λg3 h=>?_) λg3 h=>oG g3 (zm e) (oG g3 (vI e GTab.f3 zcE a_t.types) (oG g3 (za ty29 e) (oG g3 (vN e sl29) (oG g3 (zcY e e) (oV (zf e g3 e) (hJ2 h 6))))))))))))))
 ·refine rn (zd h e (λ_ h=>?_) (λ_ h=>wk (ws (oV (vI e GTab.f3 zcE a_t.types) (oV (za ty29 e) (om e (zb h λy4 hy4 h=>oT (tC (znL fuel hy4) hT (s2 e e) k0 (zR h λq6 h=>oT (zl5 (m:=y4) zfh e e hI q6 λt5=>ar e (ze (.as e zz .nil) k0 (iS h ▸ ⟨e,e⟩))))))))))))
  exact ws (ar e (zx (ze (.as e (zdQ (α:=Tag)) .nil) k0 (iS h ▸ ⟨e,e⟩))))
 exact oN g3 (oN g3 (oN g3 (oN g3 (oN g3 (oV (zg e g3 e) (hJ2 h 6))))))


theorem zlB {a_t a_i a_b r} (h:zf6 a_t a_i a_b=some r):Ctr Tryz.prog 141 [isv a_t,isv a_i,isv a_b] [] (Pt [isv r.1,isv r.2] []):=by
 unfold zf6 at h
 refine zh Tryz.func141 e λw0 S0 hT=>ws (oT (tB e (oT (zU _ ze206 λb1=>an e (ws (om e (zb h λy2 hy2 h=>oT (tC (zri hy2) hT (s1 e) k0 (om e (oV (zD e e) (oV (zD e e) (oV (zD e e) (oV (zD e e) (oV (zD e e) (oT (zU _ ze206 λb3=>oT (tS ty206 e e p0 y2.1 (zO (zaz 8 .here e) (oa e (oa e (oa e (an e (ss (om e (oV (zaQ e e) (om e (jO 5 30 h (λq4 h=>?_) λJ5 h hJ5=>oI h (λg6 h=>?_) λg6 h=>oG g6 (zm e) (oG g6 (zm e) ?_))))))))))))))))))))))))))))
 ·refine rn (zd h e (λ_ h=>?_) (λ_ h=>wk (ws (an e (ss (oV (vI e GTab.f3 zcE a_t.types) (oV (za ty29 e) (om e (zb h λy7 hy7 h=>oV (vX e e sl29 hy7) (oV (vI e GTyp.f0 zbh y7.kind) (oV (za ty3 e) (oV (zC e e) (rn (jW 13 h (λq8 h=>?_) λJ9 h hJ9=>zd h e (λ_ h=>?_) (λ_ h=>zJ (hJ9 h 0))))))))))))))))
  ·exact ws (oV (za ty206 e) (oT (tS ty206 e e p0 y2.1 (ar e (zx (ze (.cell e .here ty206 (.tmp e .nil)) k0 (iS h ▸ ⟨e,e⟩)))))))
  ·refine ss (om e (an e (zo (lO 14 h e λL13 q12 Q26 h hL13 eL13 rL13=>ss (om e (oV (vI e GTab.f3 zcE a_t.types) (oV (za ty29 e) (om e (zb h λy20 hy20 h=>oV (vX e e sl29 hy20) (oV (vI e GTyp.f4 zaB y20.fields) (oV (za ty127 e) (oV (vN e sl127) (oV (zac e e) (rn (zd h e (λ_ h=>?_) (λ_ h=>xn (eL13 _ _ (zs (zp (ws (oV (za ty206 e) (oT (tS ty206 e e p0 y2.1 (ar e (ze (.cell e .here ty206 (.tmp e .nil)) k0 (iS h ▸ ⟨e,e⟩))))))))))))))))))))))))))
   refine wk (zE (zo (zE (zG (.v 0 (.v 1 (.v 2 (.v 3 (.v 4 (.v 5 (.v 6 (.v 7 (.v 8 (.v 9 (.v 10 (.v 12 (.t 11 (.t 13 .nil)))))))))))))) moOrd (by kernel_rfl) (zj e (za ty31 e) (zj e (vI e GTab.f3 zcE a_t.types) (zj e (za ty29 e) (rm e e (zb h λy21 hy21 h=>zj e (vX e e sl29 hy21) (zj e (vI e GTyp.f4 zaB y21.fields) (zj e (za ty127 e) (rm e e (zb h λy22 hy22 h=>zj e (vX e e sl127 hy22) (zj e (vI e GFld.f1 zcr y22.ty) (zj e (za ty3 e) (zj e (za ty206 e) (zb h λy23 hy23 h=>rT e (tC (zpq hy23) hT (s2 e e) k0 (zb h λy24 hy24 h=>rT e (tC (zjI hy24) hT (s2 e e) k0 (zah (zp (zd h e (λ_ h=>?_) (λ_ h=>zJ (zw (zp (zi ?_)))))))))))))))))))))))))))
   ·exact ws (oV (za ty206 e) (oT (tS ty206 e e p0 y2.1 (ar e (bn (rL13 _ (bn (ze (.cell e .here ty206 (.tmp e .nil)) k0 (iS h ▸ ⟨e,e⟩)))))))))
   exact om e (zt h λq25 h=>oV (zX e e q25) (oa e (zF (hL13 h 27))))
  exact zi (oV (vI e GTab.f3 zcE a_t.types) (oV (za ty29 e) (om e (zb h λy10 hy10 h=>oV (vX e e sl29 hy10) (oV (za ty129 e) (zb h λy11 hy11 h=>oT (tC (znz hy11) hT (s1 e) k0 (oa e (zF (hJ9 h 7))))))))))
 ·exact oN g6 (oN g6 (oN g6 (oN g6 (oV (zg e g6 e) (hJ5 h 5)))))
 exact oG g6 (vN e sl22) (oG g6 (zaQ e e) (oV (zf e g6 e) (hJ5 h 5)))


theorem zkR {a_x a_n_ r} (h:zex a_x a_n_=some r):Ctr Tryz.prog 63 [isv a_x,isv a_n_] [] (Pt [isv r] []):=by
 unfold zex at h
 refine zh Tryz.func63 e λw0 S0 hT=>ws (oT (tB e (an e (ss (an e (zo (lO 5 h e λL2 q1 Q7 h hL2 eL2 rL2=>ss (om e (oV (vI e GTyp.f3 zfy a_x.items) (oV (za ty126 e) (oV (vN e sl126) (oV (zac e e) (rn (zd h e (λ_ h=>?_) (λ_ h=>xn (eL2 _ _ (zs (zp (ws (ar e (ze (r1 e) k0 (iS h ▸ ⟨e,e⟩))))))))))))))))))))))
 refine wk (zE (zo (ws (oV (vI e GTyp.f3 zfy a_x.items) (oV (za ty126 e) (om e (zb h λy5 hy5 h=>oV (vX e e sl126 hy5) (oV (vI e GItem.f1 zdL y5.number) (oV (za ty2 e) (om e (oV (zC e e) (rn (zd h e (λ_ h=>?_) (λ_ h=>zJ (zw (zp (zi (om e (zt h λq6 h=>oV (zX e e q6) (oa e (zF (hL2 h 17))))))))))))))))))))))
 exact ws (om e (ar e (bn (rL2 _ (bn (ze (r1 e) k0 (iS h ▸ ⟨e,e⟩)))))))


theorem znj {a_b r} (h:zh5 a_b=some r):Ctr Tryz.prog 142 [isv a_b] [] (Pt [isv r] []):=by
 unfold zh5 at h
 refine zh Tryz.func142 e λw0 S0 hT=>ws (an e (ws (om e (oV (vN e sl22) (oV (zcY e e) (om e (jO 4 10 h (λq1 h=>?_) λJ2 h hJ2=>oI h (λg3 h=>?_) λg3 h=>oN g3 (oN g3 (oN g3 (oV (zf e g3 e) (hJ2 h 4)))))))))))
 ·exact ar e (ze (r1 e) k0 (iS h ▸ ⟨e,e⟩))
 exact oG g3 (zm e) (oG g3 (vN e sl22) (oG g3 (zjA e e) (oV (zg e g3 e) (hJ2 h 4))))


theorem zn3 {a_t a_i a_v r} (h:zgu a_t a_i a_v=some r):Ctr Tryz.prog 87 [isv a_t,isv a_i,isv a_v] [] (Pt [isv r] []):=by
 unfold zgu at h
 refine zh Tryz.func87 e λw0 S0 hT=>ws (oT (tB e (oT (tB e (an e (ws (oV (vI e GTab.f3 zcE a_t.types) (oV (za ty29 e) (om e (zb h λy1 hy1 h=>oV (vX e e sl29 hy1) (oV (za ty129 e) (oT (zU _ ze129 λb2=>oT (tS ty129 e e p0 y1 (zO (zaz 7 .here e) (rn (ss (oV (vI e GTyp.f6 zhF y1.more) (oV (za ty4 e) (oV (zaA e) (om e (jO 9 28 h (λq3 h=>?_) λJ4 h hJ4=>oI h (λg5 h=>?_) λg5 h=>oG g5 (vI e GTyp.f0 zbh y1.kind) (oG g5 (za ty3 e) (oG g5 (zaQ e e) (oG g5 (zm e) (jO 4 27 h (λq6 h=>?_) λJ7 h hJ7=>oI h (λg8 h=>?_) λg8 h=>oN g8 ?_))))))))))))))))))))))))))
 ·refine om e (jO 5 34 h (λq9 h=>?_) λJ10 h hJ10=>oI h (λg11 h=>?_) λg11 h=>oG g11 (vI e Val.f3 zaY a_v.l) (oG g11 (za ty23 e) (oG g11 (vN e sl23) (oG g11 (zbw e e) (oV (zf e g11 e) (hJ10 h 5))))))
  ·refine om e (jO 5 40 h (λq12 h=>?_) λJ13 h hJ13=>oI h (λg14 h=>?_) λg14 h=>oG g14 (vI e Val.f5 zd4 a_v.more) (oG g14 (za ty24 e) (oG g14 (vN e sl24) (oG g14 (zbw e e) (oV (zf e g14 e) (hJ13 h 5))))))
   ·refine rn (zd h e (λ_ h=>?_) (λ_ h=>wk (ws (oV (vI e GTyp.f3 zfy y1.items) (oV (za ty126 e) (oV (vN e sl126) (oV (vI e GTyp.f5 ze4 y1.root) (oV (za ty3 e) (zt h λq15 h=>oV (zdR e e q15) (an e (ss (oV (vI e GTyp.f0 zbh y1.kind) (oV (za ty3 e) (oV (zC e e) (rn (jW 8 h (λq16 h=>?_) λJ17 h hJ17=>zd h e (λ_ h=>?_) (λ_ h=>zJ (hJ17 h 0))))))))))))))))))
    ·exact ws (ar e (zx (ze (r1 e) k0 (iS h ▸ ⟨e,e⟩))))
    ·refine zE (zo (ws (oV (vI e Val.f4 zdF a_v.rule) (oV (za ty3 e) (oV (zC e e) (om e (jO 4 62 h (λq19 h=>?_) λJ20 h hJ20=>oI h (λg21 h=>?_) λg21 h=>oN g21 (oN g21 (oN g21 (oV (zf e g21 e) (hJ20 h 4)))))))))))
     ·refine an e (zd h e (λ_ h=>?_) (λ_ h=>ws (oV (vI e Val.f4 zdF a_v.rule) (oV (za ty3 e) (oV (zC e e) (an e (zd h e (λ_ h=>?_) (λ_ h=>ws (oV (vI e Val.f4 zdF a_v.rule) (oV (za ty3 e) (oV (zC e e) (an e (zd h e (λ_ h=>?_) (λ_ h=>zJ (zw (zp (ws (ar e (ze (r1 e) k0 (iS h ▸ ⟨e,e⟩))))))))))))))))))))
      ·refine ws (oV (za ty31 e) (om e (oV (vI e Val.f2 zbN a_v.b) (oV (za ty22 e) (zb h λy22 hy22 h=>oT (tC (zlB hy22) hT (s3 e e e) k0 (om e (oV (zD e e) (oV (zD e e) (oT (zU _ ze206 λb23=>oT (tS ty206 e e p0 y22.1 (zO (zaz 9 .here e) (an e (ws (om e (om e (jO 4 76 h (λq24 h=>?_) λJ25 h hJ25=>oI h (λg26 h=>?_) λg26 h=>oN g26 (oN g26 (oN g26 (oV (zf e g26 e) (hJ25 h 4))))))))))))))))))))))
       ·exact ar e (bn (ze (r1 e) k0 (iS h ▸ ⟨e,e⟩)))
       exact oG g26 (vI e Val.f1 zbd a_v.n) (oG g26 (za ty2 e) (oG g26 (zC e e) (oV (zg e g26 e) (hJ25 h 4))))
      ·refine ws (oV (vI e Val.f2 zbN a_v.b) (oV (za ty22 e) (oV (vN e sl22) (oV (zC e e) (om e (jO 6 91 h (λq27 h=>?_) λJ28 h hJ28=>oI h (λg29 h=>?_) λg29 h=>oN g29 (oN g29 (oN g29 (oN g29 (oN g29 (oV (zf e g29 e) (hJ28 h 6))))))))))))
       ·exact ar e (bn (ze (r1 e) k0 (iS h ▸ ⟨e,e⟩)))
       exact oG g29 (za ty129 e) (oG g29 (vI e Val.f1 zbd a_v.n) (oG g29 (za ty2 e) (zb h λy30 hy30 h=>oH g29 (tC (zkR hy30) hT (s2 e e) k0 (oG g29 (zac e e) (oV (zg e g29 e) (hJ28 h 6)))))))
      refine ws (oV (vI e Val.f1 zbd a_v.n) (oV (za ty2 e) (om e (oV (zcY e e) (om e (jO 4 104 h (λq31 h=>?_) λJ32 h hJ32=>oI h (λg33 h=>?_) λg33 h=>oN g33 (oN g33 (oN g33 (oV (zf e g33 e) (hJ32 h 4))))))))))
      ·refine om e (jO 20 125 h (λq34 h=>?_) λJ35 h hJ35=>oI h (λg36 h=>?_) λg36 h=>oN g36 (oN g36 (oN g36 (oN g36 (oU (oU (oU (oN g36 (oN g36 (oU (oU (oU (oU (oU (oU (oU (oU (oU (oN g36 (oV (zf e g36 e) (hJ35 h 20)))))))))))))))))))))
       ·exact ar e (bn (ze (r1 e) k0 (iS h ▸ ⟨e,e⟩)))
       refine oG g36 (vI e GTyp.f0 zbh y1.kind) (oG g36 (za ty3 e) (oG g36 (zC e e) (oG g36 (zm e) (jO 4 113 h (λq37 h=>?_) λJ38 h hJ38=>oI h (λg39 h=>?_) λg39 h=>oN g39 (oN g39 (oN g39 (oG g36 (zf e g39 e) (hJ38 h 4))))))))
       ·refine oG g36 (zm e) (jO 10 124 h (λq41 h=>?_) λJ42 h hJ42=>oI h (λg43 h=>?_) λg43 h=>oG g43 (vI e GTyp.f0 zbh y1.kind) (oG g43 (za ty3 e) (oG g43 (zC e e) (oG g43 (zm e) (jO 5 123 h (λq44 h=>?_) λJ45 h hJ45=>oI h (λg46 h=>?_) λg46 h=>oN g46 (oN g46 (oN g46 (oN g46 (oG g43 (zf e g46 e) (hJ45 h 5))))))))))
        ·exact oV (zg e g36 e) (hJ35 h 8)
        ·exact oN g43 (oN g43 (oN g43 (oN g43 (oU (oU (oU (oU (oN g43 (oG g36 (zg e g43 e) (hJ42 h 10))))))))))
        ·exact oG g36 (zf e g43 e) (hJ42 h 6)
        exact oG g46 (vI e Val.f2 zbN a_v.b) (oG g46 (za ty22 e) (oG g46 (vN e sl22) (oG g46 (zC e e) (oG g43 (zg e g46 e) (hJ45 h 5)))))
       exact oG g39 (vI e Val.f2 zbN a_v.b) (oG g39 (za ty22 e) (zb h λy40 hy40 h=>oH g39 (tC (znj hy40) hT (s1 e) k0 (oG g36 (zg e g39 e) (hJ38 h 4)))))
      exact oG g33 (vI e Val.f1 zbd a_v.n) (oG g33 (za ty2 e) (oG g33 (zac e e) (oV (zg e g33 e) (hJ32 h 4))))
     exact oG g21 (vI e GTyp.f0 zbh y1.kind) (oG g21 (za ty3 e) (oG g21 (zC e e) (oV (zg e g21 e) (hJ20 h 4))))
    exact zi (oV (za ty31 e) (om e (zb h λy18 hy18 h=>oT (tC (zjO hy18) hT (s2 e e) k0 (oV (vN e sl178) (oa e (zF (hJ17 h 5))))))))
   exact oN g14 (oN g14 (oN g14 (oN g14 (oV (zg e g14 e) (hJ13 h 5)))))
  exact oN g11 (oN g11 (oN g11 (oN g11 (oV (zg e g11 e) (hJ10 h 5)))))
 ·exact oN g5 (oN g5 (oN g5 (oN g5 (oU (oU (oU (oN g5 (oV (zg e g5 e) (hJ4 h 9)))))))))
 ·exact oV (zf e g5 e) (hJ4 h 6)
 ·exact oG g8 (vI e GTyp.f0 zbh y1.kind) (oG g8 (za ty3 e) (oG g8 (zaQ e e) (oG g5 (zg e g8 e) (hJ7 h 4))))
 exact oN g8 (oN g8 (oG g5 (zf e g8 e) (hJ7 h 4)))


theorem zdW {a_v a_n_ a_b a_l zoQ r} (h:zdv a_v a_n_ a_b a_l zoQ=some r):Ctr Tryz.prog 88 [isv a_v,isv a_n_,isv a_b,isv a_l,isv zoQ] [] (Pt [isv r] []):=by
 unfold zdv at h
 refine zh Tryz.func88 e λw0 S0 hT=>ws (oT (tB e (an e (ws (om e (om e (jO 4 16 h (λq1 h=>?_) λJ2 h hJ2=>oI h (λg3 h=>?_) λg3 h=>oG g3 (vI e Val.f1 zbd a_v.n) (oG g3 (za ty2 e) (oG g3 (zC e e) (oV (zf e g3 e) (hJ2 h 4)))))))))))
 ·refine om e (jO 8 25 h (λq4 h=>?_) λJ5 h hJ5=>oI h (λg6 h=>?_) λg6 h=>oN g6 (oN g6 (oU (oU (oU (oU (oN g6 (oV (zf e g6 e) (hJ5 h 8)))))))))
  ·refine om e (jO 8 34 h (λq10 h=>?_) λJ11 h hJ11=>oI h (λg12 h=>?_) λg12 h=>oN g12 (oN g12 (oU (oU (oU (oU (oN g12 (oV (zf e g12 e) (hJ11 h 8)))))))))
   ·refine om e (jO 13 48 h (λq16 h=>?_) λJ17 h hJ17=>oI h (λg18 h=>?_) λg18 h=>oN g18 (oN g18 (oU (oU (oU (oU (oU (oU (oU (oU (oU (oN g18 (oV (zf e g18 e) (hJ17 h 13))))))))))))))
    ·exact ar e (ze (r1 e) k0 (iS h ▸ ⟨e,e⟩))
    refine oG g18 (zm e) (oG g18 (zm e) (jO 10 47 h (λq19 h=>?_) λJ20 h hJ20=>oI h (λg21 h=>?_) λg21 h=>oG g21 (vI e Val.f4 zdF a_v.rule) (oG g21 (za ty3 e) (oG g21 (zC e e) (oG g21 (zm e) (jO 5 46 h (λq22 h=>?_) λJ23 h hJ23=>oI h (λg24 h=>?_) λg24 h=>oN g24 (oN g24 (oN g24 (oN g24 (oG g21 (zf e g24 e) (hJ23 h 5)))))))))))
    ·exact oV (zg e g18 e) (hJ17 h 4)
    ·exact oN g21 (oN g21 (oN g21 (oN g21 (oU (oU (oU (oU (oN g21 (oG g18 (zg e g21 e) (hJ20 h 10))))))))))
    ·exact oG g18 (zf e g21 e) (hJ20 h 6)
    exact oG g24 (vI e Val.f5 zd4 a_v.more) (oG g24 (za ty24 e) (oG g24 (vN e sl24) (oG g24 (zC e e) (oG g21 (zg e g24 e) (hJ23 h 5)))))
   refine oG g12 (zm e) (oG g12 (zm e) (jO 5 33 h (λq13 h=>?_) λJ14 h hJ14=>oI h (λg15 h=>?_) λg15 h=>oG g15 (vI e Val.f3 zaY a_v.l) (oG g15 (za ty23 e) (oG g15 (vN e sl23) (oG g15 (zC e e) (oG g12 (zf e g15 e) (hJ14 h 5)))))))
   ·exact oV (zg e g12 e) (hJ11 h 4)
   exact oN g15 (oN g15 (oN g15 (oN g15 (oG g12 (zg e g15 e) (hJ14 h 5)))))
  refine oG g6 (zm e) (oG g6 (zm e) (jO 5 24 h (λq7 h=>?_) λJ8 h hJ8=>oI h (λg9 h=>?_) λg9 h=>oG g9 (vI e Val.f2 zbN a_v.b) (oG g9 (za ty22 e) (oG g9 (vN e sl22) (oG g9 (zC e e) (oG g6 (zf e g9 e) (hJ8 h 5)))))))
  ·exact oV (zg e g6 e) (hJ5 h 4)
  exact oN g9 (oN g9 (oN g9 (oN g9 (oG g6 (zg e g9 e) (hJ8 h 5)))))
 exact oN g3 (oN g3 (oN g3 (oV (zg e g3 e) (hJ2 h 4))))


theorem zqL {a_a a_b r} (h:zjD a_a a_b=some r):Ctr Tryz.prog 180 [isv a_a,isv a_b] [] (Pt [isv r] []):=by
 unfold zjD at h
 refine zh Tryz.func180 e λw0 S0 hT=>ws (oT (tB e (oT (tB e (an e (ws (oV (vI e Tag.f0 zfE a_a.cls) (oV (za ty3 e) (oV (vI e Tag.f0 zfE a_b.cls) (oV (za ty3 e) (oV (zac e e) (om e (jO 13 23 h (λq1 h=>?_) λJ2 h hJ2=>oI h (λg3 h=>?_) λg3 h=>oG g3 (vI e Tag.f0 zfE a_a.cls) (oG g3 (za ty3 e) (oG g3 (vI e Tag.f0 zfE a_b.cls) (oG g3 (za ty3 e) (oG g3 (zC e e) (oG g3 (zm e) (jO 6 22 h (λq4 h=>?_) λJ5 h hJ5=>oI h (λg6 h=>?_) λg6 h=>oN g6 (oN g6 (oN g6 (oN g6 (oN g6 (oG g3 (zf e g6 e) (hJ5 h 6)))))))))))))))))))))))))
 ·exact ar e (ze (r1 e) k0 (iS h ▸ ⟨e,e⟩))
 ·exact oN g3 (oN g3 (oN g3 (oN g3 (oN g3 (oN g3 (oU (oU (oU (oU (oU (oN g3 (oV (zg e g3 e) (hJ2 h 13)))))))))))))
 ·exact oV (zf e g3 e) (hJ2 h 8)
 exact oG g6 (vI e Tag.f1 zdz a_a.num) (oG g6 (za ty3 e) (oG g6 (vI e Tag.f1 zdz a_b.num) (oG g6 (za ty3 e) (oG g6 (zac e e) (oG g3 (zg e g6 e) (hJ5 h 6))))))


theorem zqR {a_t a_i a_v r} (h:zjx a_t a_i a_v=some r):Ctr Tryz.prog 144 [isv a_t,isv a_i,isv a_v] [] (Pt [isv r] []):=by
 unfold zjx at h
 refine zh Tryz.func144 e λw0 S0 hT=>ws (oT (tB e (oT (tB e (an e (ss (oV (vI e Val.f5 zd4 a_v.more) (oV (za ty24 e) (oV (vN e sl24) (oV (zC e e) (rn (zd h e (λ_ h=>?_) (λ_ h=>wk (ss (oV (vI e GTab.f3 zcE a_t.types) (oV (za ty29 e) (om e (zb h λy1 hy1 h=>oV (vX e e sl29 hy1) (oV (vI e GTyp.f6 zhF y1.more) (oV (za ty4 e) (oV (zaA e) (om e (jO 9 36 h (λq2 h=>?_) λJ3 h hJ3=>oI h (λg4 h=>?_) λg4 h=>oG g4 (vI e Val.f4 zdF a_v.rule) (oG g4 (za ty3 e) (oG g4 (zaQ e e) (oG g4 (zm e) (jO 4 35 h (λq5 h=>?_) λJ6 h hJ6=>?_)))))))))))))))))))))))))))
 ·exact ws (oV (vI e Val.f4 zdF a_v.rule) (oV (za ty3 e) (oV (zC e e) (ar e (zx (ze (r1 e) k0 (iS h ▸ ⟨e,e⟩)))))))
 ·refine rn (zd h e (λ_ h=>?_) (λ_ h=>wk (ws (oT (zU _ ze206 λb8=>rn (ss (an e (zo (lP h Unit () (λq9 g9=>[(8,isv q9.1)]) (λq9 g9=>[boxE b8 (q9.2:Tag)]) (zu (j:=8) e hI zal) k1 λL10 q9 g9 Q79 h hL10 eL10 rL10=>ss (om e (oV (vI e Val.f5 zd4 a_v.more) (oV (za ty24 e) (oV (vN e sl24) (oV (zac e e) (rn (zd h e (λ_ h=>?_) (λ_ h=>xn (eL10 _ _ (zs (zp (ws (ar e (ze (r1 e) k0 (iS h ▸ ⟨e,e⟩))))))))))))))))))))))))
  ·exact ws (ar e (zx (ze (r1 e) k0 (iS h ▸ ⟨e,e⟩))))
  refine wk (zE (jw h Unit (λq45 g45=>[]) (λq45 g45=>[boxE b8 (q45:Tag)]) k1 (λq45 g45 h=>?_) λJ46 h hJ46=>zo (ws (oV (vI e Val.f5 zd4 a_v.more) (oV (za ty24 e) (om e (zb h λy47 hy47 h=>oV (vX e e sl24 hy47) (oV (za ty92 e) (oT (zU _ ze92 λb48=>oT (tS ty92 e e p0 y47 (zO (zaz 9 .here e) (rn (ss (oV (vI e Val.f4 zdF a_v.rule) (oV (za ty3 e) (oV (zC e e) (rn (zd h e (λ_ h=>?_) (λ_ h=>wk (ws (oV (za ty31 e) (om e (oV (vI e Raw.f1 ziV y47.b) (oV (za ty22 e) (zb h λy62 hy62 h=>oT (tC (zlB hy62) hT (s3 e e e) k0 (om e ?_))))))))))))))))))))))))))))
  ·exact zi (om e (zt h λq78 h=>oV (zX e e q78) (oa e (zF (hL10 h () 9)))))
  ·refine ws (oV (za ty31 e) (om e (zb h λy49 hy49 h=>oT (tC (zjO hy49) hT (s2 e e) k0 (oV (vN e sl178) (an e (ss (om e (oV (zbw e e) (rn (jW 10 h (λq50 h=>?_) λJ51 h hJ51=>zd h e (λ_ h=>?_) (λ_ h=>zJ (hJ51 h 0)))))))))))))
   ·refine ss (oV (vI e Raw.f0 zgJ y47.n) (oV (za ty3 e) (om e (oV (zac e e) (om e (jO 4 74 h (λq55 h=>?_) λJ56 h hJ56=>oI h (λg57 h=>?_) λg57 h=>oG g57 (vI e Raw.f0 zgJ y47.n) (oG g57 (za ty3 e) (oG g57 (zcY e e) (oV (zf e g57 e) (hJ56 h 4))))))))))
    ·refine om e (jO 5 80 h (λq58 h=>?_) λJ59 h hJ59=>oI h (λg60 h=>?_) λg60 h=>oG g60 (vI e Raw.f1 ziV y47.b) (oG g60 (za ty22 e) (zb h λy61 hy61 h=>oH g60 (tC (znj hy61) hT (s1 e) k0 (oG g60 (zaA e) (oV (zf e g60 e) (hJ59 h 5)))))))
     ·refine rn (zd h e (λ_ h=>?_) (λ_ h=>wk (xn (zs (hJ46 h () 26)))))
      exact ws (ar e (zx (zx (bn (rL10 _ (bn (ze (r1 e) k0 (iS h ▸ ⟨e,e⟩))))))))
     exact oN g60 (oN g60 (oN g60 (oN g60 (oV (zg e g60 e) (hJ59 h 5)))))
    exact oN g57 (oN g57 (oN g57 (oV (zg e g57 e) (hJ56 h 4))))
   exact zi (oV (vI e Val.f5 zd4 a_v.more) (oV (za ty24 e) (om e (zt h λq52 h=>oV (zdR e e q52) (zb h λy53 hy53 h=>oV (vX e e sl24 hy53) (oV (vI e Raw.f0 zgJ y53.n) (oV (za ty3 e) (zt h λq54 h=>oV (zX e e q54) (oa e (zF (hJ51 h 9)))))))))))
  refine oV (zD e e) (oV (zD e e) (oT (zU _ ze206 λb63=>oT (tS ty206 e e p0 y62.1 (zO (zaz 11 .here e) (an e (ss (om e (oV (zaA e) (om e (jO 4 95 h (λq64 h=>?_) λJ65 h hJ65=>oI h (λg66 h=>?_) λg66 h=>oG g66 (vI e Raw.f0 zgJ y47.n) (oG g66 (za ty3 e) (oG g66 (zaQ e e) (oV (zf e g66 e) (hJ65 h 4)))))))))))))))
  ·refine om e (jO 18 114 h (λq67 h=>?_) λJ68 h hJ68=>oI h (λg69 h=>?_) λg69 h=>oG g69 (vI e GTab.f3 zcE a_t.types) (oG g69 (za ty29 e) (oG g69 (zm e) (zb h λy70 hy70 h=>oG g69 (vX e e sl29 hy70) (oG g69 (vI e GTyp.f0 zbh y70.kind) (oG g69 (za ty3 e) (oG g69 (zC e e) (oG g69 (zm e) (jO 3 107 h (λq71 h=>?_) λJ72 h hJ72=>oI h (λg73 h=>?_) λg73 h=>oN g73 (oN g73 (oG g69 (zf e g73 e) (hJ72 h 3))))))))))))
   ·refine rn (zd h e (λ_ h=>?_) (λ_ h=>wk (zi (oV (za ty206 e) (oT (tS ty206 e e p0 y62.1 (rb (hJ46 h () 28))))))))
    exact ws (ar e (zx (bn (rL10 _ (bn (ze (r1 e) k0 (iS h ▸ ⟨e,e⟩)))))))
   ·exact oN g69 (oN g69 (oN g69 (oN g69 (oN g69 (oN g69 (oN g69 (oN g69 (oU (oU (oN g69 (oN g69 (oU (oU (oU (oU (oN g69 (oV (zg e g69 e) (hJ68 h 18))))))))))))))))))
   ·refine oG g69 (zm e) (jO 5 113 h (λq74 h=>?_) λJ75 h hJ75=>oI h (λg76 h=>?_) λg76 h=>oN g76 (oN g76 (oN g76 (oN g76 (oG g69 (zf e g76 e) (hJ75 h 5))))))
    ·exact oV (zf e g69 e) (hJ68 h 12)
    exact oH g76 (tL ty206 e p0 q9.2 (oG g76 (za ty206 e) (zb h λy77 hy77 h=>oH g76 (tC (zqL hy77) hT (s2 e e) k0 (oG g76 (zaA e) (oG g69 (zg e g76 e) (hJ75 h 5)))))))
   exact oG g73 (zm e) (oG g73 (zbw e e) (oG g69 (zg e g73 e) (hJ72 h 3)))
  exact oN g66 (oN g66 (oN g66 (oV (zg e g66 e) (hJ65 h 4))))
 ·exact oN g4 (oN g4 (oN g4 (oN g4 (oU (oU (oU (oN g4 (oV (zg e g4 e) (hJ3 h 9)))))))))
 ·exact oV (zf e g4 e) (hJ3 h 6)
 refine oI h (λg7 h=>?_) λg7 h=>oN g7 (oN g7 (oN g7 (oG g4 (zf e g7 e) (hJ6 h 4))))
 exact oG g7 (vI e Val.f4 zdF a_v.rule) (oG g7 (za ty3 e) (oG g7 (zaQ e e) (oG g4 (zg e g7 e) (hJ6 h 4))))

end Go.Proofs.Q

