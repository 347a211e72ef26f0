/- Walks, printed by mill.py. -/
import Derived.Test.YtmahnaanhhojkaaGreatDoorNmA
import Derived.Test.YtmahnaanhhojkaaGreatDoorNmB
import Derived.Test.YtmahnaanhhojkaaGreatDoorNmC
import Derived.Test.YtmahnaanhhojkaaGreatDoorNmD
import Derived.Test.YtmahnaanhhojkaaGreatDoorProg
import Derived.Shelf.Strconv.ParseIntPublic10
import Derived.KernelRfl
import Derived.Shelf.Strconv.Itoa4
import Derived.Shelf.Strings.Replace
import Derived.Lib.AppendIntMem
import Derived.Shelf.Unicode.ValidAny
set_option linter.unusedVariables false
set_option linter.unusedSimpArgs false

namespace Go.Proofs.Q
open Go.Sy
set_option maxRecDepth 4000
end Go.Proofs.Q


namespace Go.Proofs.Q
open Go.Sy
set_option maxRecDepth 4000
end Go.Proofs.Q


namespace Go.Proofs.Q
open Go.Sy
set_option maxRecDepth 4000
end Go.Proofs.Q


namespace Go.Proofs.Q
open Go.Sy
set_option maxRecDepth 4000
end Go.Proofs.Q


namespace Go.Proofs.Q
open Go.Sy
open Go.Shelf Go.RowKit
def parRen:Shelf.Ren:=⟨λx=>bif Nat.beq x 129 then 222 else bif Nat.beq x 171 then 208 else bif Nat.beq x 174 then 70 else bif Nat.beq x 205 then 207 else bif Nat.beq x 243 then 232 else bif Nat.beq x 245 then 127 else bif Nat.beq x 246 then 161 else bif Nat.beq x 247 then 126 else bif Nat.beq x 279 then 166 else bif Nat.beq x 280 then 167 else bif Nat.beq x 281 then 168 else bif Nat.beq x 282 then 169 else bif Nat.beq x 283 then 193 else bif Nat.beq x 284 then 194 else bif Nat.beq x 285 then 195 else bif Nat.beq x 286 then 196 else bif Nat.beq x 287 then 165 else bif Nat.beq x 316 then 206 else bif Nat.beq x 317 then 221 else bif Nat.beq x 318 then 223 else bif Nat.beq x 319 then 224 else bif Nat.beq x 320 then 225 else bif Nat.beq x 321 then 204 else bif Nat.beq x 322 then 205 else bif Nat.beq x 337 then 241 else bif Nat.beq x 338 then 242 else x,λx=>bif Nat.beq x 0 then 0 else bif Nat.beq x 2 then 2 else bif Nat.beq x 3 then 3 else bif Nat.beq x 4 then 4 else bif Nat.beq x 5 then 5 else bif Nat.beq x 9 then 9 else bif Nat.beq x 20 then 20 else bif Nat.beq x 21 then 21 else bif Nat.beq x 37 then 22 else bif Nat.beq x 46 then 51 else bif Nat.beq x 51 then 278 else bif Nat.beq x 53 then 102 else bif Nat.beq x 75 then 149 else bif Nat.beq x 80 then 254 else bif Nat.beq x 85 then 150 else bif Nat.beq x 127 then 283 else bif Nat.beq x 143 then 284 else bif Nat.beq x 145 then 286 else bif Nat.beq x 167 then 222 else bif Nat.beq x 168 then 223 else bif Nat.beq x 171 then 240 else bif Nat.beq x 173 then 243 else bif Nat.beq x 175 then 200 else bif Nat.beq x 210 then 258 else bif Nat.beq x 212 then 277 else bif Nat.beq x 213 then 279 else bif Nat.beq x 232 then 303 else bif Nat.beq x 233 then 304 else x,λx=>bif Nat.beq x 15 then 2 else bif Nat.beq x 16 then 3 else bif Nat.beq x 17 then 4 else bif Nat.beq x 18 then 6 else bif Nat.beq x 19 then 7 else x⟩
set_option maxRecDepth 100000 in
theorem parLays:LaysC.n174 Tryz.prog parRen:={
 mixed:=by kernel_rfl
 f129:=Tryz.func222.trans (by kernel_rfl)
 f171:=Tryz.func208.trans (by kernel_rfl)
 f174:=Tryz.func70.trans (by kernel_rfl)
 f205:=Tryz.func207.trans (by kernel_rfl)
 f243:=Tryz.func232.trans (by kernel_rfl)
 f245:=Tryz.func127.trans (by kernel_rfl)
 f246:=Tryz.func161.trans (by kernel_rfl)
 f247:=Tryz.func126.trans (by kernel_rfl)
 f279:=Tryz.func166.trans (by kernel_rfl)
 f280:=Tryz.func167.trans (by kernel_rfl)
 f281:=Tryz.func168.trans (by kernel_rfl)
 f282:=Tryz.func169.trans (by kernel_rfl)
 f283:=Tryz.func193.trans (by kernel_rfl)
 f284:=Tryz.func194.trans (by kernel_rfl)
 f285:=Tryz.func195.trans (by kernel_rfl)
 f286:=Tryz.func196.trans (by kernel_rfl)
 f287:=Tryz.func165.trans (by kernel_rfl)
 f316:=Tryz.func206.trans (by kernel_rfl)
 f317:=Tryz.func221.trans (by kernel_rfl)
 f318:=Tryz.func223.trans (by kernel_rfl)
 f319:=Tryz.func224.trans (by kernel_rfl)
 f320:=Tryz.func225.trans (by kernel_rfl)
 f321:=Tryz.func204.trans (by kernel_rfl)
 f322:=Tryz.func205.trans (by kernel_rfl)
 f337:=Tryz.func241.trans (by kernel_rfl)
 f338:=Tryz.func242.trans (by kernel_rfl)
 t0:=Tryz.underlying0
 a0:=Tryz.isAgg0
 z0:=Tryz.sizeOf0
 v0:=Tryz.zeroValue0
 t2:=Tryz.underlying2
 a2:=Tryz.isAgg2
 z2:=Tryz.sizeOf2
 v2:=Tryz.zeroValue2
 t3:=Tryz.underlying3
 a3:=Tryz.isAgg3
 z3:=Tryz.sizeOf3
 v3:=Tryz.zeroValue3
 t4:=Tryz.underlying4
 a4:=Tryz.isAgg4
 z4:=Tryz.sizeOf4
 v4:=Tryz.zeroValue4
 t5:=Tryz.underlying5
 a5:=Tryz.isAgg5
 z5:=Tryz.sizeOf5
 v5:=Tryz.zeroValue5
 t9:=Tryz.underlying9
 a9:=Tryz.isAgg9
 z9:=Tryz.sizeOf9
 v9:=Tryz.zeroValue9
 t20:=Tryz.underlying20
 a20:=Tryz.isAgg20
 z20:=Tryz.sizeOf20
 v20:=Tryz.zeroValue20
 t21:=Tryz.underlying21
 a21:=Tryz.isAgg21
 z21:=Tryz.sizeOf21
 v21:=Tryz.zeroValue21
 t37:=Tryz.underlying22
 a37:=Tryz.isAgg22
 z37:=Tryz.sizeOf22
 v37:=Tryz.zeroValue22
 t46:=Tryz.underlying51
 a46:=Tryz.isAgg51
 z46:=Tryz.sizeOf51
 v46:=Tryz.zeroValue51
 t51:=Tryz.underlying278
 a51:=Tryz.isAgg278
 z51:=Tryz.sizeOf278
 v51:=Tryz.zeroValue278
 t53:=Tryz.underlying102
 a53:=Tryz.isAgg102
 z53:=Tryz.sizeOf102
 v53:=Tryz.zeroValue102
 t75:=Tryz.underlying149
 a75:=Tryz.isAgg149
 z75:=Tryz.sizeOf149
 v75:=Tryz.zeroValue149
 t85:=Tryz.underlying150
 a85:=Tryz.isAgg150
 z85:=Tryz.sizeOf150
 v85:=Tryz.zeroValue150
 t127:=Tryz.underlying283
 a127:=Tryz.isAgg283
 z127:=Tryz.sizeOf283
 v127:=Tryz.zeroValue283
 t143:=Tryz.underlying284
 a143:=Tryz.isAgg284
 z143:=Tryz.sizeOf284
 v143:=Tryz.zeroValue284
 t145:=Tryz.underlying286
 a145:=Tryz.isAgg286
 z145:=Tryz.sizeOf286
 v145:=Tryz.zeroValue286
 t167:=Tryz.underlying222
 a167:=Tryz.isAgg222
 z167:=Tryz.sizeOf222
 v167:=Tryz.zeroValue222
 t168:=Tryz.underlying223
 a168:=Tryz.isAgg223
 z168:=Tryz.sizeOf223
 v168:=Tryz.zeroValue223
 t171:=Tryz.underlying240
 a171:=Tryz.isAgg240
 z171:=Tryz.sizeOf240
 v171:=Tryz.zeroValue240
 t173:=Tryz.underlying243
 a173:=Tryz.isAgg243
 z173:=Tryz.sizeOf243
 v173:=Tryz.zeroValue243
 t175:=Tryz.underlying200
 a175:=Tryz.isAgg200
 z175:=Tryz.sizeOf200
 v175:=Tryz.zeroValue200
 t210:=Tryz.underlying258
 a210:=Tryz.isAgg258
 z210:=Tryz.sizeOf258
 v210:=Tryz.zeroValue258
 t212:=Tryz.underlying277
 a212:=Tryz.isAgg277
 z212:=Tryz.sizeOf277
 v212:=Tryz.zeroValue277
 t213:=Tryz.underlying279
 a213:=Tryz.isAgg279
 z213:=Tryz.sizeOf279
 t232:=Tryz.underlying303
 a232:=Tryz.isAgg303
 z232:=Tryz.sizeOf303
 v232:=Tryz.zeroValue303
 t233:=Tryz.underlying304
 a233:=Tryz.isAgg304
 z233:=Tryz.sizeOf304
 v233:=Tryz.zeroValue304
 g15:=by kernel_rfl
 g16:=by kernel_rfl
 g17:=by kernel_rfl
 g18:=by kernel_rfl
 g19:=by kernel_rfl
 t80:=Tryz.underlying254
 a80:=Tryz.isAgg254
 z80:=Tryz.sizeOf254
 v80:=Tryz.zeroValue254
 i0:=by kernel_rfl
 i2:=by kernel_rfl
 i3:=by kernel_rfl
 i4:=by kernel_rfl
 i5:=by kernel_rfl
 i9:=by kernel_rfl
 i20:=by kernel_rfl
 i21:=by kernel_rfl
 i37:=by kernel_rfl
 i46:=by kernel_rfl
 i51:=by kernel_rfl
 i53:=by kernel_rfl
 i75:=by kernel_rfl
 i80:=by kernel_rfl
 i85:=by kernel_rfl
 i127:=by kernel_rfl
 i143:=by kernel_rfl
 i145:=by kernel_rfl
 i167:=by kernel_rfl
 i168:=by kernel_rfl
 i171:=by kernel_rfl
 i173:=by kernel_rfl
 i175:=by kernel_rfl
 i210:=by kernel_rfl
 i212:=by kernel_rfl
 i232:=by kernel_rfl
 i233:=by kernel_rfl
 m15:=by kernel_rfl
 m16:=by kernel_rfl
 m17:=by kernel_rfl
 m18:=by kernel_rfl
 m19:=by kernel_rfl
 c0:=by kernel_rfl
 c2:=by kernel_rfl
 c3:=by kernel_rfl
 c4:=by kernel_rfl
 c5:=by kernel_rfl
 c9:=by kernel_rfl
 c20:=by kernel_rfl
 c21:=by kernel_rfl
 c37:=by kernel_rfl
 c46:=by kernel_rfl
 c51:=by kernel_rfl
 c53:=by kernel_rfl
 c75:=by kernel_rfl
 c80:=by kernel_rfl
 c85:=by kernel_rfl
 c127:=by kernel_rfl
 c143:=by kernel_rfl
 c145:=by kernel_rfl
 c167:=by kernel_rfl
 c168:=by kernel_rfl
 c171:=by kernel_rfl
 c173:=by kernel_rfl
 c175:=by kernel_rfl
 c210:=by kernel_rfl
 c212:=by kernel_rfl
 c213:=by kernel_rfl
 c232:=by kernel_rfl
 c233:=by kernel_rfl }
theorem zhU {S:Frz} {w w':World} (hk:Below w.heap.size w w') (hs:S.sub w):Step (keys []) S S w w' :=
 ⟨⟨hk.os,hk.tape,hk.output,hk.size,λk hk' _=>hk.block k hk'⟩,Go.Sy.Grow.refl _ _ _,λb cs hb=>by
  obtain ⟨c,T,fr,h1,h2⟩:=hs b cs hb
  exact ⟨c,T,fr,by rw [hk.block b (Array.getElem?_eq_some_iff.1 h1).1];exact h1,h2⟩⟩
theorem zhX:∀ {a_s:Str} {zeO:Int} {zdn:Int} {r:Int × Er},zbj a_s zeO zdn=some r->Ctr Tryz.prog 70 [isv (a_s),isv (zeO),isv (zdn)] [] (λR H=>R=oneOf [isv (r.1),isv (r.2)]/\H=[]):=by
 intro s b z r h
 unfold zbj at h
 cases hc:(decide (b=10) && decide (z=64) && Nat.ble s.b.length 281474976710656) with
 | false=>rw [hc] at h;cases h
 | true =>
  rw [hc,zCt] at h
  rw [zBa,zBa] at hc
  have hb:=zOT hc.1.1
  have hz:=zOT hc.1.2
  have hln:=Nat.le_of_ble_eq_true hc.2
  subst hb;subst hz
  refine ⟨⟨_,Tryz.func70,rfl,by decide +kernel⟩,λS w vs hT hs hv ho=>?_⟩
  match vs,hv with
  | [v1,v2,v3],⟨hv1,hv2,hv3,_⟩ =>
   obtain ⟨rfl,hl⟩:=zdr.1 hv1
   obtain ⟨rfl,_⟩:=zax.1 hv2
   obtain ⟨rfl,_⟩:=zax.1 hv3
   have hsz:s.ba.size <= 281474976710656:=by rw [Str.ba_size];exact hln
   have ed:s.ba.data.toList=s.b:=rfl
   have hE:=(hT.tabs w hs).2
   have gs : Tryz.prog.globals.findIdx? (·.name == "strconv.ErrSyntax") = some (parRen.g 15) := by kernel_rfl
   have gr : Tryz.prog.globals.findIdx? (·.name == "strconv.ErrRange") = some (parRen.g 16) := by kernel_rfl
   cases hp:Lib.parseIntB 64 s.b with
   | ok v =>
    rw [hp] at h
    obtain rfl:=Option.some.inj h
    refine (Any.strconv_ParseInt_10_at64_ok parLays s.ba (by omega) v hp w).mono λe w' ⟨he,hw⟩=>?_
    have hk:Below w.heap.size w w':=by
     rcases hw with rfl | ⟨t,rfl⟩
     ·exact Below.refl _ _
     ·exact Lib.bytesWorld_below _ _ _
    have hv64:inI64 v:=zuf hp
    exact ⟨_,S,_,[],⟨rfl,rfl⟩,he,⟨[.int .i64 v,.nilIface],rfl,zax.2 ⟨rfl,hv64⟩,⟨rfl,rfl⟩,trivial⟩,zhU hk hs,zex _ _ _ _⟩
   | range =>
    rw [hp] at h
    obtain rfl:=Option.some.inj h
    obtain ⟨ev,e1,e2⟩:=hE _ (.inr gr)
    refine (Any.strconv_ParseInt_10_at64_range parLays s.ba hsz hp ev w e1 e2).mono λe w' ⟨N,he,_,_,hk⟩=>?_
    exact ⟨_,S,_,[],⟨rfl,rfl⟩,he,⟨[.int .i64 _,.iface _ _],rfl,zax.2 ⟨rfl,sat64 _⟩,⟨rfl,_,_,rfl⟩,trivial⟩,zhU hk hs,zex _ _ _ _⟩
   | _ =>
    rw [hp] at h
    obtain rfl:=Option.some.inj h
    obtain ⟨ev,e1,e2⟩:=hE _ (.inl gs)
    refine (Any.strconv_ParseInt_10_at64_syntax parLays s.ba hsz hp ev w e1 e2).mono λe w' ⟨N,he,_,_,hk⟩=>?_
    exact ⟨_,S,_,[],⟨rfl,rfl⟩,he,⟨[.int .i64 0,.iface _ _],rfl,zax.2 ⟨rfl,zlc (by omega) (by omega)⟩,⟨rfl,_,_,rfl⟩,trivial⟩,zhU hk hs,zex _ _ _ _⟩
end Go.Proofs.Q


namespace Go.Proofs.Q
open Go.Sy
open Go.Shelf Go.RowKit
def fmtRen:Shelf.Ren:=⟨λx=>bif Nat.beq x 129 then 222 else bif Nat.beq x 173 then 113 else bif Nat.beq x 246 then 161 else bif Nat.beq x 283 then 193 else bif Nat.beq x 284 then 194 else bif Nat.beq x 285 then 195 else bif Nat.beq x 286 then 196 else bif Nat.beq x 317 then 221 else bif Nat.beq x 318 then 223 else bif Nat.beq x 319 then 224 else bif Nat.beq x 320 then 225 else bif Nat.beq x 337 then 241 else bif Nat.beq x 338 then 242 else x,λx=>bif Nat.beq x 0 then 0 else bif Nat.beq x 2 then 2 else bif Nat.beq x 3 then 3 else bif Nat.beq x 4 then 4 else bif Nat.beq x 5 then 5 else bif Nat.beq x 9 then 9 else bif Nat.beq x 20 then 20 else bif Nat.beq x 37 then 22 else bif Nat.beq x 46 then 51 else bif Nat.beq x 51 then 278 else bif Nat.beq x 53 then 102 else bif Nat.beq x 171 then 240 else bif Nat.beq x 173 then 243 else bif Nat.beq x 212 then 277 else bif Nat.beq x 213 then 279 else bif Nat.beq x 232 then 303 else bif Nat.beq x 233 then 304 else x,λx=>bif Nat.beq x 17 then 4 else bif Nat.beq x 18 then 6 else bif Nat.beq x 19 then 7 else x⟩
set_option maxRecDepth 100000 in
theorem fmtLays:LaysM.n173 Tryz.prog fmtRen:={
 mixed:=by kernel_rfl
 f129:=Tryz.func222.trans (by kernel_rfl)
 f173:=Tryz.func113.trans (by kernel_rfl)
 f246:=Tryz.func161.trans (by kernel_rfl)
 f283:=Tryz.func193.trans (by kernel_rfl)
 f284:=Tryz.func194.trans (by kernel_rfl)
 f285:=Tryz.func195.trans (by kernel_rfl)
 f286:=Tryz.func196.trans (by kernel_rfl)
 f317:=Tryz.func221.trans (by kernel_rfl)
 f318:=Tryz.func223.trans (by kernel_rfl)
 f319:=Tryz.func224.trans (by kernel_rfl)
 f320:=Tryz.func225.trans (by kernel_rfl)
 f337:=Tryz.func241.trans (by kernel_rfl)
 f338:=Tryz.func242.trans (by kernel_rfl)
 t0:=Tryz.underlying0
 a0:=Tryz.isAgg0
 z0:=Tryz.sizeOf0
 v0:=Tryz.zeroValue0
 t2:=Tryz.underlying2
 a2:=Tryz.isAgg2
 z2:=Tryz.sizeOf2
 v2:=Tryz.zeroValue2
 t3:=Tryz.underlying3
 a3:=Tryz.isAgg3
 z3:=Tryz.sizeOf3
 v3:=Tryz.zeroValue3
 t4:=Tryz.underlying4
 a4:=Tryz.isAgg4
 z4:=Tryz.sizeOf4
 v4:=Tryz.zeroValue4
 t5:=Tryz.underlying5
 a5:=Tryz.isAgg5
 z5:=Tryz.sizeOf5
 v5:=Tryz.zeroValue5
 t9:=Tryz.underlying9
 a9:=Tryz.isAgg9
 z9:=Tryz.sizeOf9
 v9:=Tryz.zeroValue9
 t20:=Tryz.underlying20
 a20:=Tryz.isAgg20
 z20:=Tryz.sizeOf20
 v20:=Tryz.zeroValue20
 t37:=Tryz.underlying22
 a37:=Tryz.isAgg22
 z37:=Tryz.sizeOf22
 v37:=Tryz.zeroValue22
 t46:=Tryz.underlying51
 a46:=Tryz.isAgg51
 z46:=Tryz.sizeOf51
 v46:=Tryz.zeroValue51
 t51:=Tryz.underlying278
 a51:=Tryz.isAgg278
 z51:=Tryz.sizeOf278
 v51:=Tryz.zeroValue278
 t53:=Tryz.underlying102
 a53:=Tryz.isAgg102
 z53:=Tryz.sizeOf102
 v53:=Tryz.zeroValue102
 t171:=Tryz.underlying240
 a171:=Tryz.isAgg240
 z171:=Tryz.sizeOf240
 v171:=Tryz.zeroValue240
 t173:=Tryz.underlying243
 a173:=Tryz.isAgg243
 z173:=Tryz.sizeOf243
 v173:=Tryz.zeroValue243
 t212:=Tryz.underlying277
 a212:=Tryz.isAgg277
 z212:=Tryz.sizeOf277
 v212:=Tryz.zeroValue277
 t213:=Tryz.underlying279
 a213:=Tryz.isAgg279
 z213:=Tryz.sizeOf279
 t232:=Tryz.underlying303
 a232:=Tryz.isAgg303
 z232:=Tryz.sizeOf303
 v232:=Tryz.zeroValue303
 t233:=Tryz.underlying304
 a233:=Tryz.isAgg304
 z233:=Tryz.sizeOf304
 v233:=Tryz.zeroValue304
 g17:=by kernel_rfl
 g18:=by kernel_rfl
 g19:=by kernel_rfl
 i0:=by kernel_rfl
 i2:=by kernel_rfl
 i3:=by kernel_rfl
 i4:=by kernel_rfl
 i5:=by kernel_rfl
 i9:=by kernel_rfl
 i20:=by kernel_rfl
 i37:=by kernel_rfl
 i46:=by kernel_rfl
 i51:=by kernel_rfl
 i53:=by kernel_rfl
 i171:=by kernel_rfl
 i173:=by kernel_rfl
 i212:=by kernel_rfl
 i232:=by kernel_rfl
 i233:=by kernel_rfl
 m17:=by kernel_rfl
 m18:=by kernel_rfl
 m19:=by kernel_rfl }
def repRen:Shelf.Ren:=⟨λx=>bif Nat.beq x 138 then 197 else bif Nat.beq x 143 then 199 else bif Nat.beq x 154 then 162 else bif Nat.beq x 155 then 115 else bif Nat.beq x 165 then 198 else bif Nat.beq x 166 then 200 else bif Nat.beq x 169 then 202 else bif Nat.beq x 195 then 226 else bif Nat.beq x 197 then 201 else bif Nat.beq x 217 then 245 else bif Nat.beq x 218 then 227 else bif Nat.beq x 219 then 230 else bif Nat.beq x 224 then 247 else bif Nat.beq x 225 then 246 else bif Nat.beq x 240 then 228 else bif Nat.beq x 241 then 229 else bif Nat.beq x 260 then 231 else bif Nat.beq x 266 then 252 else bif Nat.beq x 267 then 248 else bif Nat.beq x 276 then 243 else bif Nat.beq x 277 then 244 else bif Nat.beq x 314 then 253 else x,λx=>bif Nat.beq x 0 then 0 else bif Nat.beq x 3 then 3 else bif Nat.beq x 4 then 4 else bif Nat.beq x 5 then 5 else bif Nat.beq x 9 then 9 else bif Nat.beq x 20 then 20 else bif Nat.beq x 21 then 21 else bif Nat.beq x 37 then 22 else bif Nat.beq x 46 then 51 else bif Nat.beq x 51 then 278 else bif Nat.beq x 70 then 246 else bif Nat.beq x 72 then 248 else bif Nat.beq x 75 then 149 else bif Nat.beq x 76 then 250 else bif Nat.beq x 80 then 254 else bif Nat.beq x 105 then 252 else bif Nat.beq x 119 then 97 else bif Nat.beq x 127 then 283 else bif Nat.beq x 138 then 99 else bif Nat.beq x 139 then 100 else bif Nat.beq x 146 then 305 else bif Nat.beq x 164 then 299 else x,λx=>bif Nat.beq x 1 then 5 else bif Nat.beq x 3 then 0 else bif Nat.beq x 4 then 1 else x⟩
set_option maxRecDepth 100000 in
theorem repLays:Lays.n155 Tryz.prog repRen:={
 mixed:=by kernel_rfl
 f138:=Tryz.func197.trans (by kernel_rfl)
 f143:=Tryz.func199.trans (by kernel_rfl)
 f154:=Tryz.func162.trans (by kernel_rfl)
 f155:=Tryz.func115.trans (by kernel_rfl)
 f165:=Tryz.func198.trans (by kernel_rfl)
 f166:=Tryz.func200.trans (by kernel_rfl)
 f169:=Tryz.func202.trans (by kernel_rfl)
 f195:=Tryz.func226.trans (by kernel_rfl)
 f197:=Tryz.func201.trans (by kernel_rfl)
 f217:=Tryz.func245.trans (by kernel_rfl)
 f218:=Tryz.func227.trans (by kernel_rfl)
 f219:=Tryz.func230.trans (by kernel_rfl)
 f224:=Tryz.func247.trans (by kernel_rfl)
 f225:=Tryz.func246.trans (by kernel_rfl)
 f240:=Tryz.func228.trans (by kernel_rfl)
 f241:=Tryz.func229.trans (by kernel_rfl)
 f260:=Tryz.func231.trans (by kernel_rfl)
 f266:=Tryz.func252.trans (by kernel_rfl)
 f267:=Tryz.func248.trans (by kernel_rfl)
 f276:=Tryz.func243.trans (by kernel_rfl)
 f277:=Tryz.func244.trans (by kernel_rfl)
 f314:=Tryz.func253.trans (by kernel_rfl)
 t0:=Tryz.underlying0
 a0:=Tryz.isAgg0
 z0:=Tryz.sizeOf0
 v0:=Tryz.zeroValue0
 t3:=Tryz.underlying3
 a3:=Tryz.isAgg3
 z3:=Tryz.sizeOf3
 v3:=Tryz.zeroValue3
 t4:=Tryz.underlying4
 a4:=Tryz.isAgg4
 z4:=Tryz.sizeOf4
 v4:=Tryz.zeroValue4
 t5:=Tryz.underlying5
 a5:=Tryz.isAgg5
 z5:=Tryz.sizeOf5
 v5:=Tryz.zeroValue5
 t9:=Tryz.underlying9
 a9:=Tryz.isAgg9
 z9:=Tryz.sizeOf9
 v9:=Tryz.zeroValue9
 t20:=Tryz.underlying20
 a20:=Tryz.isAgg20
 z20:=Tryz.sizeOf20
 v20:=Tryz.zeroValue20
 t21:=Tryz.underlying21
 a21:=Tryz.isAgg21
 z21:=Tryz.sizeOf21
 v21:=Tryz.zeroValue21
 t37:=Tryz.underlying22
 a37:=Tryz.isAgg22
 z37:=Tryz.sizeOf22
 v37:=Tryz.zeroValue22
 t46:=Tryz.underlying51
 a46:=Tryz.isAgg51
 z46:=Tryz.sizeOf51
 v46:=Tryz.zeroValue51
 t51:=Tryz.underlying278
 a51:=Tryz.isAgg278
 z51:=Tryz.sizeOf278
 v51:=Tryz.zeroValue278
 t70:=Tryz.underlying246
 a70:=Tryz.isAgg246
 z70:=Tryz.sizeOf246
 v70:=Tryz.zeroValue246
 t72:=Tryz.underlying248
 a72:=Tryz.isAgg248
 z72:=Tryz.sizeOf248
 v72:=Tryz.zeroValue248
 t75:=Tryz.underlying149
 a75:=Tryz.isAgg149
 z75:=Tryz.sizeOf149
 v75:=Tryz.zeroValue149
 t76:=Tryz.underlying250
 a76:=Tryz.isAgg250
 z76:=Tryz.sizeOf250
 v76:=Tryz.zeroValue250
 t105:=Tryz.underlying252
 a105:=Tryz.isAgg252
 z105:=Tryz.sizeOf252
 v105:=Tryz.zeroValue252
 t119:=Tryz.underlying97
 a119:=Tryz.isAgg97
 z119:=Tryz.sizeOf97
 t127:=Tryz.underlying283
 a127:=Tryz.isAgg283
 z127:=Tryz.sizeOf283
 v127:=Tryz.zeroValue283
 t138:=Tryz.underlying99
 a138:=Tryz.isAgg99
 z138:=Tryz.sizeOf99
 v138:=Tryz.zeroValue99
 t139:=Tryz.underlying100
 a139:=Tryz.isAgg100
 z139:=Tryz.sizeOf100
 v139:=Tryz.zeroValue100
 t146:=Tryz.underlying305
 a146:=Tryz.isAgg305
 z146:=Tryz.sizeOf305
 v146:=Tryz.zeroValue305
 t164:=Tryz.underlying299
 a164:=Tryz.isAgg299
 z164:=Tryz.sizeOf299
 v164:=Tryz.zeroValue299
 g1:=by kernel_rfl
 g3:=by kernel_rfl
 g4:=by kernel_rfl }
set_option maxRecDepth 100000 in
theorem repX:Builder.Extra Tryz.prog repRen:={
 sizeBuilder:=by kernel_rfl
 liesBuilder:=by kernel_rfl
 t5:=Tryz.underlying5
 a5:=Tryz.isAgg5
 z5:=Tryz.sizeOf5
 v5:=Tryz.zeroValue5
 infoByte:=by kernel_rfl
 cellsByte:=by kernel_rfl
 sizeByte:=by kernel_rfl
 neB5:=by decide }
theorem zkV:∀ {a_i:Int} {zeO:Int} {r:Str},zeh a_i zeO=some r->Ctr Tryz.prog 113 [isv (a_i),isv (zeO)] [] (λR H=>R=oneOf [isv (r)]/\H=[]):=by
 intro n b r h
 unfold zeh at h
 cases hc:(decide (b=10) && Nat.ble (Lib.itoa n).length 100) with
 | false=>rw [hc] at h;cases h
 | true =>
  rw [hc,zCt] at h
  obtain rfl:=Option.some.inj h
  rw [zBa] at hc
  have hb:=zOT hc.1
  have hln:=Nat.le_of_ble_eq_true hc.2
  subst hb
  refine ⟨⟨_,Tryz.func113,rfl,by decide +kernel⟩,λS w vs hT hs hv ho=>?_⟩
  match vs,hv with
  | [v1,v2],⟨hv1,hv2,_⟩ =>
   obtain ⟨rfl,hn⟩:=zax.1 hv1
   obtain ⟨rfl,_⟩:=zax.1 hv2
   have htab : Lib.TabIs Tryz.prog w "internal/strconv.uint64pow10" .u64 Lib.pow10Tab := by
    have:=hT.glob.pow (by kernel_rfl)
    unfold Lib.TabIs
    rw [this]
    unfold powTab Lib.pow10Tab
    rw [List.map_map]
    rfl
   unfold inI64 at hn
   refine (Any.strconv_FormatInt_10 fmtLays n (by omega) (by omega) w htab).mono λe w' ⟨he,k,os,hw⟩=>?_
   subst hw
   have hml:maxText=4611686018427387904:=rfl
   exact ⟨_,S,_,[],⟨rfl,rfl⟩,he,zdr.2 ⟨rfl,by show (Lib.itoa n).length <= _;omega⟩,zhU (Lib.below_grow _ _ (zNl _) _ _) hs,zex _ _ _ _⟩
theorem zj7:∀ {a_s:Str} {zvN:Str} {zvM:Str} {r:Str},strings_ReplaceAll a_s zvN zvM=some r->Ctr Tryz.prog 115 [isv (a_s),isv (zvN),isv (zvM)] [] (λR H=>R=oneOf [isv (r)]/\H=[]):=by
 intro s o n r h
 unfold strings_ReplaceAll at h
 cases hc:(Nat.ble s.b.length 1000000 && Nat.ble 1 o.b.length && Nat.ble (s.b.length + Lib.count s.b o.b * n.b.length) 140737488355328 && Nat.ble (Lib.replaceAll s.b o.b n.b).length 4294967296) with
 | false=>rw [hc] at h;cases h
 | true =>
  rw [hc,zCt] at h
  obtain rfl:=Option.some.inj h
  rw [zBa,zBa,zBa] at hc
  have h1:=Nat.le_of_ble_eq_true hc.1.1.1
  have h2:=Nat.le_of_ble_eq_true hc.1.1.2
  have h3:=Nat.le_of_ble_eq_true hc.1.2
  have h4:=Nat.le_of_ble_eq_true hc.2
  refine ⟨⟨_,Tryz.func115,rfl,by decide +kernel⟩,λS w vs hT hs hv ho=>?_⟩
  match vs,hv with
  | [v1,v2,v3],⟨hv1,hv2,hv3,_⟩ =>
   obtain ⟨rfl,_⟩:=zdr.1 hv1
   obtain ⟨rfl,_⟩:=zdr.1 hv2
   obtain ⟨rfl,_⟩:=zdr.1 hv3
   obtain ⟨m,hm⟩:=hT.glob.most (repRen.g 1) (by kernel_rfl)
   have e1:s.ba.size=s.b.length:=Str.ba_size s
   have e2:o.ba.size=o.b.length:=Str.ba_size o
   have e3:n.ba.size=n.b.length:=Str.ba_size n
   refine (Any.strings_ReplaceAll repLays repX s.ba o.ba n.ba m w (by omega) hm (by omega) (by rw [e1,e3];exact h3)).mono λe w' ⟨he,hw⟩=>?_
   have hml:maxText=4611686018427387904:=rfl
   exact ⟨_,S,_,[],⟨rfl,rfl⟩,he,zdr.2 ⟨rfl,by show (Lib.replaceAll s.b o.b n.b).length <= _;omega⟩,zhU hw hs,zex _ _ _ _⟩
end Go.Proofs.Q


namespace Go.Proofs.Q
open Go.Sy
def valRen:Shelf.Ren:=⟨λx=>bif Nat.beq x 196 then 20 else bif Nat.beq x 259 then 42 else x,λx=>bif Nat.beq x 0 then 0 else bif Nat.beq x 3 then 3 else bif Nat.beq x 4 then 4 else bif Nat.beq x 5 then 5 else bif Nat.beq x 9 then 9 else bif Nat.beq x 12 then 12 else bif Nat.beq x 46 then 51 else bif Nat.beq x 53 then 102 else bif Nat.beq x 119 then 97 else bif Nat.beq x 138 then 99 else bif Nat.beq x 139 then 100 else x,λx=>bif Nat.beq x 3 then 0 else bif Nat.beq x 4 then 1 else x⟩
set_option maxRecDepth 100000 in
theorem valLays:Lays.n196 Tryz.prog valRen:={
 mixed:=by kernel_rfl
 f196:=Tryz.func20.trans (by kernel_rfl)
 f259:=Tryz.func42.trans (by kernel_rfl)
 t0:=Tryz.underlying0
 a0:=Tryz.isAgg0
 z0:=Tryz.sizeOf0
 v0:=Tryz.zeroValue0
 t3:=Tryz.underlying3
 a3:=Tryz.isAgg3
 z3:=Tryz.sizeOf3
 v3:=Tryz.zeroValue3
 t4:=Tryz.underlying4
 a4:=Tryz.isAgg4
 z4:=Tryz.sizeOf4
 v4:=Tryz.zeroValue4
 t5:=Tryz.underlying5
 a5:=Tryz.isAgg5
 z5:=Tryz.sizeOf5
 v5:=Tryz.zeroValue5
 t9:=Tryz.underlying9
 a9:=Tryz.isAgg9
 z9:=Tryz.sizeOf9
 v9:=Tryz.zeroValue9
 t12:=Tryz.underlying12
 a12:=Tryz.isAgg12
 z12:=Tryz.sizeOf12
 v12:=Tryz.zeroValue12
 t46:=Tryz.underlying51
 a46:=Tryz.isAgg51
 z46:=Tryz.sizeOf51
 v46:=Tryz.zeroValue51
 t53:=Tryz.underlying102
 a53:=Tryz.isAgg102
 z53:=Tryz.sizeOf102
 v53:=Tryz.zeroValue102
 t119:=Tryz.underlying97
 a119:=Tryz.isAgg97
 z119:=Tryz.sizeOf97
 t138:=Tryz.underlying99
 a138:=Tryz.isAgg99
 z138:=Tryz.sizeOf99
 v138:=Tryz.zeroValue99
 t139:=Tryz.underlying100
 a139:=Tryz.isAgg100
 z139:=Tryz.sizeOf100
 v139:=Tryz.zeroValue100
 g3:=by kernel_rfl
 g4:=by kernel_rfl }
theorem zly:∀ {a_s:Str} {r:Bool},utf8_ValidString a_s=some r->Ctr Tryz.prog 20 [isv (a_s)] [] (λR H=>R=oneOf [isv (r)]/\H=[]):=by
 intro s r h
 obtain rfl:=Option.some.inj h
 refine ⟨⟨_,Tryz.func20,rfl,by decide +kernel⟩,λS w vs hT hs hv ho=>?_⟩
 match vs,hv with
 | [v],⟨hv,_⟩ =>
  obtain ⟨rfl,hl⟩:=zdr.1 hv
  have hb:=Any.utf8_ValidString valLays s.ba w (by rw [Str.ba_size];unfold maxText at hl;omega) ((hT.tabs w hs).1 _ _ valLays.g3 valLays.g4)
  refine hb.mono λe w' ⟨he,hk⟩=>⟨.bool (Lib.validD s.ba.data.toList),S,_,[],⟨rfl,rfl⟩,he,?_,⟨⟨hk.os,hk.tape,hk.output,hk.size,λk hk' _=>hk.block k hk'⟩,Go.Sy.Grow.refl _ _ _,λb cs hb=>?_⟩,zex _ _ _ _⟩
  ·refine zbE.2 ?_
   show Value.bool (Lib.validD s.b.toArray.toList)=_
   rfl
  ·obtain ⟨c,T,fr,h1,h2⟩:=hs b cs hb
   exact ⟨c,T,fr,by rw [hk.block b (Array.getElem?_eq_some_iff.1 h1).1];exact h1,h2⟩
end Go.Proofs.Q


namespace Go.Proofs.Q
open Go.Sy
set_option maxRecDepth 4000
@[reducible] def zkL:Fld ((List GTok) × Int × (Str × Int × (TList Str) × (TList Int) × Vh) × Int × Int) (List GTok):=pf0
@[reducible] def ziQ:Fld ((List GTok) × Int × (Str × Int × (TList Str) × (TList Int) × Vh) × Int × Int) Int:=pf1
@[reducible] def zcF:Fld ((List GTok) × Int × (Str × Int × (TList Str) × (TList Int) × Vh) × Int × Int) Int:=pf3
@[reducible] def zoJ:Fld ((List GTok) × Int × (Str × Int × (TList Str) × (TList Int) × Vh) × Int × Int) Int:=pl4
@[reducible] def zdF:Fld ((List GTok) × Int × (Str × Int × (TList Str) × (TList Int) × Vh) × Int × Int) (Str × Int × (TList Str) × (TList Int) × Vh):=pf2
@[reducible] def ztj:Fld (Str × Int × (TList Str) × (TList Int) × Vh) Str:=pf0
@[reducible] def zqe:Fld (Str × Int × (TList Str) × (TList Int) × Vh) Int:=pf1
@[reducible] def znJ:Fld (Str × Int × (TList Str) × (TList Int) × Vh) (TList Str):=pf2
@[reducible] def zke:Fld (Str × Int × (TList Str) × (TList Int) × Vh) Vh:=pl4
@[reducible] def zmx:Fld (Int × Str × GMark × GCon × (TList GItem) × (TList GFld) × Int × Bool × Int) GMark:=pf2
@[reducible] def zea:Fld (Int × Str × GMark × GCon × (TList GItem) × (TList GFld) × Int × Bool × Int) Int:=pf0
@[reducible] def zkQ:Fld (Int × Str × GMark × GCon × (TList GItem) × (TList GFld) × Int × Bool × Int) GCon:=pf3
@[reducible] def zhI:Fld (Int × Str × GMark × GCon × (TList GItem) × (TList GFld) × Int × Bool × Int) (TList GItem):=pf4
@[reducible] def zgY:Fld (Int × Str × GMark × GCon × (TList GItem) × (TList GFld) × Int × Bool × Int) Bool:=pf7
@[reducible] def zkE:Fld (Int × Str × GMark × GCon × (TList GItem) × (TList GFld) × Int × Bool × Int) Int:=pf6
@[reducible] def ziR:Fld (Int × Str × GMark × GCon × (TList GItem) × (TList GFld) × Int × Bool × Int) (TList GFld):=pf5
@[reducible] def ztb:Fld (Int × Str × GMark × GCon × (TList GItem) × (TList GFld) × Int × Bool × Int) Int:=pl8
@[reducible] def zsp:Fld (Int × Str × GMark × GCon × (TList GItem) × (TList GFld) × Int × Bool × Int) Str:=pf1
@[reducible] def zp6:Fld (Str × Int × (TList Str) × (TList Int) × Vh) (TList Int):=pf3
@[reducible] def zsV:Fld ((List GTok) × Int × (Str × Int × (TList Str) × (TList Int) × (List GNode)) × Int × Int) (Str × Int × (TList Str) × (TList Int) × (List GNode)):=pf2
theorem ze57:ZeroOk Tryz.prog 57 ((GMod.mk (Str.mk []) (0:Int) ([]:(List Str)) ([]:(List Int)) ([]:(List GNode))):GMod):=zbZ (cs:=[.string ⟨#[]⟩,.int .i64 0,.slice none 0 0,.slice none 0 0,.slice none 0 0]) rfl (by kernel_rfl) (zE zfF (zE zbg (zE zbn (zE zbn zbn))))
theorem st9:StrB Tryz.prog 9=true:=by kernel_rfl
theorem eq5:EqOk Tryz.prog 5 UInt8:=EqOk.u8
theorem zms:FldB Tryz.prog 80 2 2 1 false=true:=by kernel_rfl
theorem bu80:BuildB Tryz.prog 80=true:=by kernel_rfl
theorem ze80:ZeroOk Tryz.prog 80 ((GTok.mk (0:Int) (Str.mk []) (0:Int)):GTok):=zbZ (cs:=[.int .i64 0,.string ⟨#[]⟩,.int .i64 0]) rfl (by kernel_rfl) (zE zbg (zE zfF zbg))
theorem el69:elB Tryz.prog 69 3=true:=by kernel_rfl
theorem znn:appB Tryz.prog 69 69 3=true:=by kernel_rfl
theorem ty80:TyB Tryz.prog 80 3 true=true:=by kernel_rfl
theorem moOrd:Tryz.prog.follows .mixedOrders=true:=by kernel_rfl
theorem zdz:FldB Tryz.prog 80 0 0 1 false=true:=by kernel_rfl
theorem ty3:TyB Tryz.prog 3 1 false=true:=by kernel_rfl
theorem zeM:FldB Tryz.prog 80 1 1 1 false=true:=by kernel_rfl
theorem ty9:TyB Tryz.prog 9 1 false=true:=by kernel_rfl
theorem el27:elB Tryz.prog 27 1=true:=by kernel_rfl
theorem sl27:SlB Tryz.prog 27 1 false=true:=by kernel_rfl
theorem eq9:EqOk Tryz.prog 9 Str:=EqOk.str
theorem bu57:BuildB Tryz.prog 57=true:=by kernel_rfl
theorem ty57:TyB Tryz.prog 57 5 true=true:=by kernel_rfl
theorem zm8:FldB Tryz.prog 105 0 0 1 false=true:=by kernel_rfl
theorem bu105:BuildB Tryz.prog 105=true:=by kernel_rfl
theorem zvi:ZeroOk Tryz.prog 105 ((([]:(List GTok)),(0:Int),((Str.mk []),(0:Int),(TList.mk none ([]:(List Str))),(TList.mk none ([]:(List Int))),(Vh.mk none 0)),(0:Int),(0:Int)):((List GTok) × Int × (Str × Int × (TList Str) × (TList Int) × Vh) × Int × Int)):=zbZ (cs:=[.slice none 0 0,.int .i64 0,.string ⟨#[]⟩,.int .i64 0,.slice none 0 0,.slice none 0 0,.slice none 0 0,.int .i64 0,.int .i64 0]) rfl (by kernel_rfl) (zE zbn (zE zbg (zE (zE zfF (zE zbg (zE zo4 (zE zo4 zrY)))) (zE zbg zbg))))
theorem ty69:TyB Tryz.prog 69 1 false=true:=by kernel_rfl
theorem zmd:FldB Tryz.prog 105 1 1 1 false=true:=by kernel_rfl
theorem sl69:SlB Tryz.prog 69 3 true=true:=by kernel_rfl
theorem zd8:FldB Tryz.prog 105 3 7 1 false=true:=by kernel_rfl
theorem ty38:TyB Tryz.prog 38 1 false=true:=by kernel_rfl
theorem zr9:FldB Tryz.prog 105 4 8 1 false=true:=by kernel_rfl
theorem zfb:FldB Tryz.prog 105 2 2 5 true=true:=by kernel_rfl
theorem ztk:FldB Tryz.prog 57 0 0 1 false=true:=by kernel_rfl
theorem zpO:FldB Tryz.prog 57 1 1 1 false=true:=by kernel_rfl
theorem zgj:FldB Tryz.prog 57 2 2 1 false=true:=by kernel_rfl
theorem ty27:TyB Tryz.prog 27 1 false=true:=by kernel_rfl
theorem zjg:FldB Tryz.prog 57 4 4 1 false=true:=by kernel_rfl
theorem ty55:TyB Tryz.prog 55 1 false=true:=by kernel_rfl
theorem sl55:SlB Tryz.prog 55 16 true=true:=by kernel_rfl
theorem bu174:BuildB Tryz.prog 174=true:=by kernel_rfl
theorem ze174:ZeroOk Tryz.prog 174 ((GNode.mk (0:Int) (Str.mk []) (GMark.mk false (0:Int) (0:Int)) (GCon.mk false false false false (0:Int) (0:Int)) ([]:(List GItem)) ([]:(List GFld)) (0:Int) false (0:Int)):GNode):=zbZ (cs:=[.int .i64 0,.string ⟨#[]⟩,.bool false,.int .i64 0,.int .i64 0,.bool false,.bool false,.bool false,.bool false,.int .i64 0,.int .i64 0,.slice none 0 0,.slice none 0 0,.int .i64 0,.bool false,.int .i64 0]) rfl (by kernel_rfl) (zE zbg (zE zfF (zE (zE zcD (zE zbg zbg)) (zE (zE zcD (zE zcD (zE zcD (zE zcD (zE zbg zbg))))) (zE zbn (zE zbn (zE zbg (zE zcD zbg))))))))
theorem el55:elB Tryz.prog 55 16=true:=by kernel_rfl
theorem zvw:appB Tryz.prog 55 55 16=true:=by kernel_rfl
theorem zr0:ZeroOk Tryz.prog 174 (((0:Int),(Str.mk []),(GMark.mk false (0:Int) (0:Int)),(GCon.mk false false false false (0:Int) (0:Int)),(TList.mk none ([]:(List GItem))),(TList.mk none ([]:(List GFld))),(0:Int),false,(0:Int)):(Int × Str × GMark × GCon × (TList GItem) × (TList GFld) × Int × Bool × Int)):=zbZ (cs:=[.int .i64 0,.string ⟨#[]⟩,.bool false,.int .i64 0,.int .i64 0,.bool false,.bool false,.bool false,.bool false,.int .i64 0,.int .i64 0,.slice none 0 0,.slice none 0 0,.int .i64 0,.bool false,.int .i64 0]) rfl (by kernel_rfl) (zE zbg (zE zfF (zE (zE zcD (zE zbg zbg)) (zE (zE zcD (zE zcD (zE zcD (zE zcD (zE zbg zbg))))) (zE zo4 (zE zo4 (zE zbg (zE zcD zbg))))))))
theorem ty174:TyB Tryz.prog 174 16 true=true:=by kernel_rfl
theorem zr7:FldB Tryz.prog 172 1 1 1 false=true:=by kernel_rfl
theorem zpS:FldB Tryz.prog 172 0 0 1 false=true:=by kernel_rfl
theorem bu172:BuildB Tryz.prog 172=true:=by kernel_rfl
theorem ze172:ZeroOk Tryz.prog 172 ((GMark.mk false (0:Int) (0:Int)):GMark):=zbZ (cs:=[.bool false,.int .i64 0,.int .i64 0]) rfl (by kernel_rfl) (zE zcD (zE zbg zbg))
theorem zih:FldB Tryz.prog 174 2 2 3 true=true:=by kernel_rfl
theorem ty172:TyB Tryz.prog 172 3 true=true:=by kernel_rfl
theorem zni:FldB Tryz.prog 172 2 2 1 false=true:=by kernel_rfl
theorem zdd:FldB Tryz.prog 174 0 0 1 false=true:=by kernel_rfl
theorem ze125:ZeroOk Tryz.prog 125 ((GCon.mk false false false false (0:Int) (0:Int)):GCon):=zbZ (cs:=[.bool false,.bool false,.bool false,.bool false,.int .i64 0,.int .i64 0]) rfl (by kernel_rfl) (zE zcD (zE zcD (zE zcD (zE zcD (zE zbg zbg)))))
theorem bu125:BuildB Tryz.prog 125=true:=by kernel_rfl
theorem ty125:TyB Tryz.prog 125 6 true=true:=by kernel_rfl
theorem znk:FldB Tryz.prog 125 0 0 1 false=true:=by kernel_rfl
theorem zkF:FldB Tryz.prog 125 1 1 1 false=true:=by kernel_rfl
theorem ty4:TyB Tryz.prog 4 1 false=true:=by kernel_rfl
theorem zjG:FldB Tryz.prog 125 4 4 1 false=true:=by kernel_rfl
theorem ty2:TyB Tryz.prog 2 1 false=true:=by kernel_rfl
theorem zky:FldB Tryz.prog 125 2 2 1 false=true:=by kernel_rfl
theorem zjj:FldB Tryz.prog 125 5 5 1 false=true:=by kernel_rfl
theorem zm4:FldB Tryz.prog 125 3 3 1 false=true:=by kernel_rfl
theorem zkG:FldB Tryz.prog 174 3 5 6 true=true:=by kernel_rfl
theorem zg5:FldB Tryz.prog 174 4 11 1 false=true:=by kernel_rfl
theorem ty126:TyB Tryz.prog 126 1 false=true:=by kernel_rfl
theorem sl126:SlB Tryz.prog 126 3 true=true:=by kernel_rfl
theorem zhA:FldB Tryz.prog 174 7 14 1 false=true:=by kernel_rfl
theorem zid:FldB Tryz.prog 174 6 13 1 false=true:=by kernel_rfl
theorem zkx:FldB Tryz.prog 132 0 0 1 false=true:=by kernel_rfl
theorem bu132:BuildB Tryz.prog 132=true:=by kernel_rfl
theorem ze132:ZeroOk Tryz.prog 132 ((GItem.mk (Str.mk []) (0:Int) false):GItem):=zbZ (cs:=[.string ⟨#[]⟩,.int .i64 0,.bool false]) rfl (by kernel_rfl) (zE zfF (zE zbg zcD))
theorem ty132:TyB Tryz.prog 132 3 true=true:=by kernel_rfl
theorem zkB:FldB Tryz.prog 132 2 2 1 false=true:=by kernel_rfl
theorem zep:FldB Tryz.prog 132 1 1 1 false=true:=by kernel_rfl
theorem el126:elB Tryz.prog 126 3=true:=by kernel_rfl
theorem zkN:appB Tryz.prog 126 126 3=true:=by kernel_rfl
theorem zfv:FldB Tryz.prog 174 5 12 1 false=true:=by kernel_rfl
theorem ty127:TyB Tryz.prog 127 1 false=true:=by kernel_rfl
theorem sl127:SlB Tryz.prog 127 11 true=true:=by kernel_rfl
theorem zm6:FldB Tryz.prog 137 5 10 1 false=true:=by kernel_rfl
theorem zkA:FldB Tryz.prog 137 0 0 1 false=true:=by kernel_rfl
theorem bu137:BuildB Tryz.prog 137=true:=by kernel_rfl
theorem ze137:ZeroOk Tryz.prog 137 ((GFld.mk (Str.mk []) (0:Int) false false (Val.mk (0:Int) (0:Int) ([]:(List UInt8)) ([]:(List Val)) (0:Int) ([]:(List Raw))) (0:Int)):GFld):=zbZ (cs:=[.string ⟨#[]⟩,.int .i64 0,.bool false,.bool false,.int .i64 0,.int .i64 0,.slice none 0 0,.slice none 0 0,.int .i64 0,.slice none 0 0,.int .i64 0]) rfl (by kernel_rfl) (zE zfF (zE zbg (zE zcD (zE zcD (zE zpG zbg)))))
theorem ty137:TyB Tryz.prog 137 11 true=true:=by kernel_rfl
theorem zdH:FldB Tryz.prog 137 1 1 1 false=true:=by kernel_rfl
theorem zna:FldB Tryz.prog 137 2 2 1 false=true:=by kernel_rfl
theorem ze26:ZeroOk Tryz.prog 26 ((Val.mk (0:Int) (0:Int) ([]:(List UInt8)) ([]:(List Val)) (0:Int) ([]:(List Raw))):Val):=zbZ (cs:=[.int .i64 0,.int .i64 0,.slice none 0 0,.slice none 0 0,.int .i64 0,.slice none 0 0]) rfl (by kernel_rfl) zpG
theorem zcB:FldB Tryz.prog 26 1 1 1 false=true:=by kernel_rfl
theorem zdy:FldB Tryz.prog 26 0 0 1 false=true:=by kernel_rfl
theorem bu26:BuildB Tryz.prog 26=true:=by kernel_rfl
theorem ty26:TyB Tryz.prog 26 6 true=true:=by kernel_rfl
theorem zdR:FldB Tryz.prog 26 2 2 1 false=true:=by kernel_rfl
theorem el22:elB Tryz.prog 22 1=true:=by kernel_rfl
theorem zkD:appB Tryz.prog 22 22 1=true:=by kernel_rfl
theorem zji:FldB Tryz.prog 137 3 3 1 false=true:=by kernel_rfl
theorem zl3:FldB Tryz.prog 137 4 4 6 true=true:=by kernel_rfl
theorem el127:elB Tryz.prog 127 11=true:=by kernel_rfl
theorem zmv:appB Tryz.prog 127 127 11=true:=by kernel_rfl
theorem zpx:FldB Tryz.prog 174 8 15 1 false=true:=by kernel_rfl
theorem zpf:FldB Tryz.prog 174 1 1 1 false=true:=by kernel_rfl
theorem zpJ:appB Tryz.prog 27 27 1=true:=by kernel_rfl
theorem znX:FldB Tryz.prog 57 3 3 1 false=true:=by kernel_rfl
theorem ty28:TyB Tryz.prog 28 1 false=true:=by kernel_rfl
theorem el28:elB Tryz.prog 28 1=true:=by kernel_rfl
theorem zgh:appB Tryz.prog 28 28 1=true:=by kernel_rfl
abbrev GParOT:Type:=(List GTok) × Int × (Str × Int × (TList Str) × (TList Int) × Vh) × Int × Int
abbrev GParO (x:GPar) (t0:Tok) (t1:Tok) (t2:Vt):GParOT:=(x.l,x.at_,(x.m.name,x.m.tagging,⟨t0,x.m.names⟩,⟨t1,x.m.types⟩,⟨t2,x.m.nodes.length⟩),x.e,x.p)
abbrev GNodeOT:Type:=Int × Str × GMark × GCon × (TList GItem) × (TList GFld) × Int × Bool × Int
abbrev GNodeO (x:GNode) (t0:Tok) (t1:Tok):GNodeOT:=(x.kind,x.name,x.mark,x.con,⟨t0,x.items⟩,⟨t1,x.fields⟩,x.root,x.more,x.of)
end Go.Proofs.Q


namespace Go.Proofs.Q
open Go.Sy
set_option maxRecDepth 4000
theorem sl28:SlB Tryz.prog 28 1 false=true:=by kernel_rfl
theorem el178:elB Tryz.prog 178 1=true:=by kernel_rfl
theorem zoE:appB Tryz.prog 178 178 1=true:=by kernel_rfl
theorem sl178:SlB Tryz.prog 178 1 false=true:=by kernel_rfl
end Go.Proofs.Q


namespace Go.Proofs.Q
open Go.Sy
set_option maxRecDepth 4000
@[reducible] def zgO:Fld (GMod × Vh × Int) GMod:=pf0
@[reducible] def zqB:Fld (Str × (List Str) × (TList Int) × (List GTyp)) Str:=pf0
@[reducible] def zqt:Fld (Str × (List Str) × (TList Int) × (List GTyp)) (List Str):=pf1
@[reducible] def zlE:Fld (Str × (List Str) × (TList Int) × (List GTyp)) (TList Int):=pf2
@[reducible] def zec:Fld (GMod × Vh × Int) Int:=pl2
@[reducible] def zc9:Fld (GMod × Vh × Int) Vh:=pf1
@[reducible] def ztQ:Fld (Str × (List Str) × (TList Int) × (List GTyp)) (List GTyp):=pl3
theorem ze31:ZeroOk Tryz.prog 31 ((GTab.mk (Str.mk []) ([]:(List Str)) ([]:(List Int)) ([]:(List GTyp))):GTab):=zbZ (cs:=[.string ⟨#[]⟩,.slice none 0 0,.slice none 0 0,.slice none 0 0]) rfl (by kernel_rfl) (zE zfF (zE zbn (zE zbn zbn)))
theorem bu31:BuildB Tryz.prog 31=true:=by kernel_rfl
theorem ty31:TyB Tryz.prog 31 4 true=true:=by kernel_rfl
theorem zjE:FldB Tryz.prog 114 0 0 5 true=true:=by kernel_rfl
theorem bu114:BuildB Tryz.prog 114=true:=by kernel_rfl
theorem zuX:ZeroOk Tryz.prog 114 (((GMod.mk (Str.mk []) (0:Int) ([]:(List Str)) ([]:(List Int)) ([]:(List GNode))),(Vh.mk none 0),(0:Int)):(GMod × Vh × Int)):=zbZ (cs:=[.string ⟨#[]⟩,.int .i64 0,.slice none 0 0,.slice none 0 0,.slice none 0 0,.slice none 0 0,.int .i64 0]) rfl (by kernel_rfl) (zE (zE zfF (zE zbg (zE zbn (zE zbn zbn)))) (zE zrY zbg))
theorem zun:FldB Tryz.prog 31 0 0 1 false=true:=by kernel_rfl
theorem ztV:FldB Tryz.prog 31 1 1 1 false=true:=by kernel_rfl
theorem zpC:ZeroOk Tryz.prog 31 (((Str.mk []),([]:(List Str)),(TList.mk none ([]:(List Int))),([]:(List GTyp))):(Str × (List Str) × (TList Int) × (List GTyp))):=zbZ (cs:=[.string ⟨#[]⟩,.slice none 0 0,.slice none 0 0,.slice none 0 0]) rfl (by kernel_rfl) (zE zfF (zE zbn (zE zo4 zbn)))
theorem zpR:FldB Tryz.prog 31 2 2 1 false=true:=by kernel_rfl
theorem zfP:FldB Tryz.prog 114 2 6 1 false=true:=by kernel_rfl
theorem zet:FldB Tryz.prog 114 1 5 1 false=true:=by kernel_rfl
theorem ty29:TyB Tryz.prog 29 1 false=true:=by kernel_rfl
theorem sl29:SlB Tryz.prog 29 13 true=true:=by kernel_rfl
theorem zkJ:FldB Tryz.prog 129 6 11 1 false=true:=by kernel_rfl
theorem zik:FldB Tryz.prog 129 5 10 1 false=true:=by kernel_rfl
theorem zhw:FldB Tryz.prog 129 2 2 6 true=true:=by kernel_rfl
theorem zdI:FldB Tryz.prog 129 0 0 1 false=true:=by kernel_rfl
theorem bu129:BuildB Tryz.prog 129=true:=by kernel_rfl
theorem ze129:ZeroOk Tryz.prog 129 ((GTyp.mk (0:Int) ([]:(List Tag)) (GCon.mk false false false false (0:Int) (0:Int)) ([]:(List GItem)) ([]:(List GFld)) (0:Int) false (0:Int)):GTyp):=zbZ (cs:=[.int .i64 0,.slice none 0 0,.bool false,.bool false,.bool false,.bool false,.int .i64 0,.int .i64 0,.slice none 0 0,.slice none 0 0,.int .i64 0,.bool false,.int .i64 0]) rfl (by kernel_rfl) (zE zbg (zE zbn (zE (zE zcD (zE zcD (zE zcD (zE zcD (zE zbg zbg))))) (zE zbn (zE zbn (zE zbg (zE zcD zbg)))))))
theorem ty129:TyB Tryz.prog 129 13 true=true:=by kernel_rfl
theorem ze206:ZeroOk Tryz.prog 206 (Tag.zero:Tag):=zbZ (cs:=[.int .i64 0,.int .i64 0]) rfl (by kernel_rfl) (zE zbg zbg)
theorem zfQ:FldB Tryz.prog 206 1 1 1 false=true:=by kernel_rfl
theorem bu206:BuildB Tryz.prog 206=true:=by kernel_rfl
theorem ty206:TyB Tryz.prog 206 2 true=true:=by kernel_rfl
theorem el123:elB Tryz.prog 123 2=true:=by kernel_rfl
theorem zg4:FldB Tryz.prog 129 1 1 1 false=true:=by kernel_rfl
theorem ty123:TyB Tryz.prog 123 1 false=true:=by kernel_rfl
theorem el29:elB Tryz.prog 29 13=true:=by kernel_rfl
theorem zsh:appB Tryz.prog 29 29 13=true:=by kernel_rfl
theorem znl:FldB Tryz.prog 129 7 12 1 false=true:=by kernel_rfl
theorem zh7:FldB Tryz.prog 129 3 8 1 false=true:=by kernel_rfl
theorem ty22:TyB Tryz.prog 22 1 false=true:=by kernel_rfl
theorem sl22:SlB Tryz.prog 22 1 false=true:=by kernel_rfl
theorem ty5:TyB Tryz.prog 5 1 false=true:=by kernel_rfl
theorem zqb : Tryz.prog.globals.findIdx? (·.name == "unicode/utf8.first") = some 0 := by kernel_rfl
theorem ar97:ArrB Tryz.prog 97 256 1 false=true:=by kernel_rfl
theorem zjI : Tryz.prog.globals.findIdx? (·.name == "unicode/utf8.acceptRanges") = some 1 := by kernel_rfl
theorem ar100:ArrB Tryz.prog 100 16 2 true=true:=by kernel_rfl
theorem ty99:TyB Tryz.prog 99 2 true=true:=by kernel_rfl
theorem ze99:ZeroOk Tryz.prog 99 (GAcc.zero:GAcc):=zbZ (cs:=[.int .u8 0,.int .u8 0]) rfl (by kernel_rfl) (zE zvO zvO)
theorem zqZ:FldB Tryz.prog 99 0 0 1 false=true:=by kernel_rfl
theorem zrq:FldB Tryz.prog 99 1 1 1 false=true:=by kernel_rfl
theorem sl123:SlB Tryz.prog 123 2 true=true:=by kernel_rfl
theorem zks:FldB Tryz.prog 206 0 0 1 false=true:=by kernel_rfl
theorem zhD:appB Tryz.prog 123 123 2=true:=by kernel_rfl
theorem zbi:FldB Tryz.prog 129 4 9 1 false=true:=by kernel_rfl
theorem el291:elB Tryz.prog 291 1=true:=by kernel_rfl
theorem zso:appB Tryz.prog 291 291 1=true:=by kernel_rfl
theorem sl291:SlB Tryz.prog 291 1 false=true:=by kernel_rfl
theorem eq206:EqOk Tryz.prog 206 Tag:=Tag.eqOk Tryz.underlying206 (by kernel_rfl) (by kernel_rfl) Tryz.underlying3
theorem el263:elB Tryz.prog 263 1=true:=by kernel_rfl
theorem zsR:appB Tryz.prog 263 263 1=true:=by kernel_rfl
theorem sl263:SlB Tryz.prog 263 1 false=true:=by kernel_rfl
theorem zfC:FldB Tryz.prog 31 3 3 1 false=true:=by kernel_rfl
abbrev GMkOT:Type:=GMod × Vh × Int
abbrev GMkO (x:GMk) (t0:Vt):GMkOT:=(x.m,⟨t0,x.l.length⟩,x.e)
end Go.Proofs.Q


namespace Go.Proofs.Q
open Go.Sy
set_option maxRecDepth 4000
theorem ze3:ZeroOk Tryz.prog 3 ((0:Int):Int):=zp5 (v:=.int .i64 0) rfl (by kernel_rfl) zbg
theorem zjn:FldB Tryz.prog 26 5 5 1 false=true:=by kernel_rfl
theorem ty24:TyB Tryz.prog 24 1 false=true:=by kernel_rfl
theorem sl24:SlB Tryz.prog 24 2 true=true:=by kernel_rfl
theorem zmn:FldB Tryz.prog 92 1 1 1 false=true:=by kernel_rfl
theorem zcK:FldB Tryz.prog 26 3 3 1 false=true:=by kernel_rfl
theorem ty23:TyB Tryz.prog 23 1 false=true:=by kernel_rfl
theorem sl23:SlB Tryz.prog 23 6 true=true:=by kernel_rfl
theorem zgJ:FldB Tryz.prog 26 4 4 1 false=true:=by kernel_rfl
theorem ty92:TyB Tryz.prog 92 2 true=true:=by kernel_rfl
theorem zj1:FldB Tryz.prog 92 0 0 1 false=true:=by kernel_rfl
theorem ze92:ZeroOk Tryz.prog 92 (Raw.zero:Raw):=zbZ (cs:=[.int .i64 0,.slice none 0 0]) rfl (by kernel_rfl) (zE zbg zbn)
theorem zgE:FldB Tryz.prog 118 0 0 4 true=true:=by kernel_rfl
theorem bu118:BuildB Tryz.prog 118=true:=by kernel_rfl
theorem ze118:ZeroOk Tryz.prog 118 ((GTbd.mk (GTab.mk (Str.mk []) ([]:(List Str)) ([]:(List Int)) ([]:(List GTyp)))):GTbd):=zbZ (cs:=[.string ⟨#[]⟩,.slice none 0 0,.slice none 0 0,.slice none 0 0]) rfl (by kernel_rfl) (zE zfF (zE zbn (zE zbn zbn)))
theorem zgu:FldB Tryz.prog 120 0 0 4 true=true:=by kernel_rfl
theorem bu120:BuildB Tryz.prog 120=true:=by kernel_rfl
theorem ze120:ZeroOk Tryz.prog 120 ((GChk.mk (GTbd.mk (GTab.mk (Str.mk []) ([]:(List Str)) ([]:(List Int)) ([]:(List GTyp)))) false):GChk):=zbZ (cs:=[.string ⟨#[]⟩,.slice none 0 0,.slice none 0 0,.slice none 0 0,.bool false]) rfl (by kernel_rfl) (zE (zE zfF (zE zbn (zE zbn zbn))) zcD)
theorem zvg:FldB Tryz.prog 120 1 4 1 false=true:=by kernel_rfl
theorem eq102:EqOk Tryz.prog 102 UInt64:=EqOk.u64
theorem ty116:TyB Tryz.prog 116 1 false=true:=by kernel_rfl
theorem zo9:FldB Tryz.prog 272 0 0 1 false=true:=by kernel_rfl
theorem bu272:BuildB Tryz.prog 272=true:=by kernel_rfl
theorem ze272:ZeroOk Tryz.prog 272 ((GTys.mk ([]:(List GTyp))):GTys):=zbZ (cs:=[.slice none 0 0]) rfl (by kernel_rfl) zbn
theorem zu8:ZeroOk Tryz.prog 123 ((TList.mk none ([]:(List Tag))):(TList Tag)):=zp5 (v:=.slice none 0 0) rfl (by kernel_rfl) zo4
end Go.Proofs.Q


namespace Go.Proofs.Q
open Go.Sy
set_option maxRecDepth 4000
theorem zgq:FldB Tryz.prog 141 0 0 1 false=true:=by kernel_rfl
theorem bu141:BuildB Tryz.prog 141=true:=by kernel_rfl
theorem ze141:ZeroOk Tryz.prog 141 ((GLrd.mk (Str.mk []) (0:Int)):GLrd):=zbZ (cs:=[.string ⟨#[]⟩,.int .i64 0]) rfl (by kernel_rfl) (zE zfF zbg)
theorem zaK:FldB Tryz.prog 143 0 0 2 true=true:=by kernel_rfl
theorem bu143:BuildB Tryz.prog 143=true:=by kernel_rfl
theorem ze143:ZeroOk Tryz.prog 143 ((GLex.mk (GLrd.mk (Str.mk []) (0:Int))):GLex):=zbZ (cs:=[.string ⟨#[]⟩,.int .i64 0]) rfl (by kernel_rfl) (zE zfF zbg)
theorem za6:FldB Tryz.prog 141 1 1 1 false=true:=by kernel_rfl
theorem if149:Tryz.prog.underlying 149=some (.interface (Tryz.prog.methodsAt 149)):=by kernel_rfl
end Go.Proofs.Q


namespace Go.Proofs.Q
open Go.Sy
set_option maxRecDepth 4000
@[reducible] def zqL:Fld (GTab × Vh) GTab:=pf0
@[reducible] def zfN:Fld (GTab × Vh) Vh:=pl1
theorem ztW:FldB Tryz.prog 66 0 0 4 true=true:=by kernel_rfl
theorem bu66:BuildB Tryz.prog 66=true:=by kernel_rfl
theorem zwg:ZeroOk Tryz.prog 66 (((GTab.mk (Str.mk []) ([]:(List Str)) ([]:(List Int)) ([]:(List GTyp))),(Vh.mk none 0)):(GTab × Vh)):=zbZ (cs:=[.string ⟨#[]⟩,.slice none 0 0,.slice none 0 0,.slice none 0 0,.slice none 0 0]) rfl (by kernel_rfl) (zE (zE zfF (zE zbn (zE zbn zbn))) zrY)
theorem ty64:TyB Tryz.prog 64 1 false=true:=by kernel_rfl
theorem ziw:FldB Tryz.prog 66 1 4 1 false=true:=by kernel_rfl
theorem zwf:appSB Tryz.prog 22 9=true:=by kernel_rfl
abbrev GNprOT:Type:=GTab × Vh
abbrev GNprO (x:GNpr) (t0:Vt):GNprOT:=(x.t,⟨t0,x.b.length⟩)
end Go.Proofs.Q


namespace Go.Proofs.Q
open Go.Sy
set_option maxRecDepth 4000
theorem el23:elB Tryz.prog 23 6=true:=by kernel_rfl
end Go.Proofs.Q


namespace Go.Proofs.Q
open Go.Sy
set_option maxRecDepth 4000
end Go.Proofs.Q


namespace Go.Proofs.Q
open Go.Sy
set_option maxRecDepth 4000
@[reducible] def zcX:Fld (GStm × GTab × Int × Int) GStm:=pf0
@[reducible] def zn2:Fld (GStm × GTab × Int × Int) GTab:=pf1
@[reducible] def zl1:Fld (GStm × GTab × Int × Int) Int:=pl3
@[reducible] def zqm:Fld (GStm × GTab × Int × Int) Int:=pf2
@[reducible] def zqy:Fld (Int × Int × (List UInt8) × Vh × Int × (List Raw)) Int:=pf0
@[reducible] def zlC:Fld (Int × Int × (List UInt8) × Vh × Int × (List Raw)) Int:=pf1
@[reducible] def zqH:Fld (Int × Int × (List UInt8) × Vh × Int × (List Raw)) (List UInt8):=pf2
@[reducible] def zgk:Fld (Int × Int × (List UInt8) × Vh × Int × (List Raw)) Vh:=pf3
theorem ztU:FldB Tryz.prog 74 0 0 1 false=true:=by kernel_rfl
theorem bu74:BuildB Tryz.prog 74=true:=by kernel_rfl
theorem ze74:ZeroOk Tryz.prog 74 ((GStm.mk ([]:(List GTok)) (0:Int)):GStm):=zbZ (cs:=[.slice none 0 0,.int .i64 0]) rfl (by kernel_rfl) (zE zbn zbg)
theorem ze5:FldB Tryz.prog 76 0 0 2 true=true:=by kernel_rfl
theorem zrr:FldB Tryz.prog 76 1 2 4 true=true:=by kernel_rfl
theorem bu76:BuildB Tryz.prog 76=true:=by kernel_rfl
theorem zwi:ZeroOk Tryz.prog 76 (((GStm.mk ([]:(List GTok)) (0:Int)),(GTab.mk (Str.mk []) ([]:(List Str)) ([]:(List Int)) ([]:(List GTyp))),(0:Int),(0:Int)):(GStm × GTab × Int × Int)):=zbZ (cs:=[.slice none 0 0,.int .i64 0,.string ⟨#[]⟩,.slice none 0 0,.slice none 0 0,.slice none 0 0,.int .i64 0,.int .i64 0]) rfl (by kernel_rfl) (zE (zE zbn zbg) (zE (zE zfF (zE zbn (zE zbn zbn))) (zE zbg zbg)))
theorem ty72:TyB Tryz.prog 72 1 false=true:=by kernel_rfl
theorem zpd:FldB Tryz.prog 76 3 7 1 false=true:=by kernel_rfl
theorem zjt:FldB Tryz.prog 74 1 1 1 false=true:=by kernel_rfl
theorem ztl:FldB Tryz.prog 76 2 6 1 false=true:=by kernel_rfl
theorem zpm:ZeroOk Tryz.prog 26 (((0:Int),(0:Int),([]:(List UInt8)),(Vh.mk none 0),(0:Int),([]:(List Raw))):(Int × Int × (List UInt8) × Vh × Int × (List Raw))):=zbZ (cs:=[.int .i64 0,.int .i64 0,.slice none 0 0,.slice none 0 0,.int .i64 0,.slice none 0 0]) rfl (by kernel_rfl) (zE zbg (zE zbg (zE zbn (zE zrY (zE zbg zbn)))))
theorem zsl:appB Tryz.prog 23 23 6=true:=by kernel_rfl
theorem ty158:TyB Tryz.prog 158 1 false=true:=by kernel_rfl
abbrev GNpsOT:Type:=GStm × GTab × Int × Int
abbrev GNpsO (x:GNps):GNpsOT:=(x.stream,x.t,x.at_,x.e)
abbrev ValOT:Type:=Int × Int × (List UInt8) × Vh × Int × (List Raw)
abbrev ValO (x:Val) (t0:Vt):ValOT:=(x.kind,x.n,x.b,⟨t0,x.l.length⟩,x.rule,x.more)
end Go.Proofs.Q


namespace Go.Proofs.Q
open Go.Sy
set_option maxRecDepth 4000
end Go.Proofs.Q


namespace Go.Proofs.Q
open Go.Sy
set_option maxRecDepth 4000
end Go.Proofs.Q


namespace Go.Proofs.Q
open Go.Sy
set_option maxRecDepth 4000
end Go.Proofs.Q


namespace Go.Proofs.Q
open Go.Sy
set_option maxRecDepth 4000
end Go.Proofs.Q


namespace Go.Proofs.Q
open Go.Sy
set_option maxRecDepth 4000
theorem zhc {a_s a_i r} (h:zgx a_s a_i=some r):Ctr Tryz.prog 131 [isv a_s,isv a_i] [] (Pt [isv r] []):=by
 unfold zgx at h
 refine zi Tryz.func131 e λw0 S0 hT=>ws (an e (ss (om e (oV (zau e e) (om e (jO 5 12 h (λq1 h=>?_) λJ2 h hJ2=>oI h (λg3 h=>?_) λg3 h=>oG g3 (zm e) (oG g3 (zm e) (oG g3 (zcr st9 e) (oG g3 (zdT e e) (oV (zg e g3 e) (hJ2 h 5)))))))))))
 ·refine rn (zd h e (λ_ h=>?_) (λ_ h=>wk (ws (om e (om e (za h λy4 hy4 h=>oV (zcl y4 st9 e e hy4) (ar e (ze (r1 e) k0 (iS h ▸ ⟨e,e⟩)))))))))
  exact ws (ar e (zD (ze (r1 e) k0 (iS h ▸ ⟨e,e⟩))))
 exact oN g3 (oN g3 (oN g3 (oN g3 (oV (zh e g3 e) (hJ2 h 5)))))


theorem zqh {a_s a_i r} (h:ziX a_s a_i=some r):Ctr Tryz.prog 77 [isv a_s,isv a_i] [] (Pt [isv r] []):=by
 unfold ziX at h
 refine zi Tryz.func77 e λw0 S0 hT=>ws (an e (zF (zn (lO 1 h e λL2 q1 Q99 h hL2 eL2 rL2=>ss (om e (om e (oV (zcr st9 e) (oV (zau e e) (rn (zd h e (λ_ h=>?_) (λ_ h=>xn (eL2 _ _ (zw (zp (ws (om e (ar e (ze (r1 e) k0 (iS h ▸ ⟨e,e⟩)))))))))))))))))))
 refine wk (zn (zn (ws (om e (om e (za h λy51 hy51 h=>oV (zcl y51 st9 e e hy51) (oV (zaW eq5 e e) (om e (jO 5 20 h (λq52 h=>?_) λJ53 h hJ53=>oI h (λg54 h=>?_) λg54 h=>oG g54 (zm e) (oG g54 (zm e) (za h λy55 hy55 h=>oG g54 (zcl y55 st9 e e hy55) (oG g54 (zaW eq5 e e) (oV (zg e g54 e) (hJ53 h 5))))))))))))))
 ·refine om e (jO 5 26 h (λq56 h=>?_) λJ57 h hJ57=>oI h (λg58 h=>?_) λg58 h=>oG g58 (zm e) (oG g58 (zm e) (za h λy59 hy59 h=>oG g58 (zcl y59 st9 e e hy59) (oG g58 (zaW eq5 e e) (oV (zg e g58 e) (hJ57 h 5))))))
  ·refine om e (jO 5 32 h (λq60 h=>?_) λJ61 h hJ61=>oI h (λg62 h=>?_) λg62 h=>oG g62 (zm e) (oG g62 (zm e) (za h λy63 hy63 h=>oG g62 (zcl y63 st9 e e hy63) (oG g62 (zaW eq5 e e) (oV (zg e g62 e) (hJ61 h 5))))))
   ·refine an e (zd h e (λ_ h=>?_) (λ_ h=>ws (om e (om e (za h λy65 hy65 h=>oV (zcl y65 st9 e e hy65) (oV (zaW eq5 e e) (om e (jO 6 46 h (λq66 h=>?_) λJ67 h hJ67=>oI h (λg68 h=>?_) λg68 h=>oN g68 (oN g68 (oN g68 (oN g68 (oN g68 (oV (zg e g68 e) (hJ67 h 6))))))))))))))
    ·exact zj (om e (zy h λq64 h=>oV (zaa e e q64) (oa e (rb (zs (hL2 h 19))))))
    ·refine an e (zd h e (λ_ h=>?_) (λ_ h=>ws (om e (ar e (za8 (za8 (rL2 _ (bn (ze (r1 e) k0 (iS h ▸ ⟨e,e⟩))))))))))
     refine ws (om e (zy h λq71 h=>oV (zaa e e q71) (an e (zn (lO 1 h e λL73 q72 Q98 h hL73 eL73 rL73=>ss (om e (om e (oV (zcr st9 e) (oV (zau e e) (om e (jO 5 58 h (λq86 h=>?_) λJ87 h hJ87=>oI h (λg88 h=>?_) λg88 h=>oN g88 (oN g88 (oN g88 (oN g88 (oV (zg e g88 e) (hJ87 h 5))))))))))))))))
     ·refine rn (zd h e (λ_ h=>?_) (λ_ h=>xn (eL73 _ _ (zw (zs (zs (hL2 h 33)))))))
      refine wk (zn (ss (om e (om e (za h λy90 hy90 h=>oV (zcl y90 st9 e e hy90) (oV (zaW eq5 e e) (om e (jO 6 69 h (λq91 h=>?_) λJ92 h hJ92=>oI h (λg93 h=>?_) λg93 h=>oN g93 (oN g93 (oN g93 (oN g93 (oN g93 (oV (zg e g93 e) (hJ92 h 6))))))))))))))
      ·refine rn (zd h e (λ_ h=>?_) (λ_ h=>wk (zj (om e (zy h λq97 h=>oV (zaa e e q97) (oa e (rb (hL73 h 16))))))))
       exact ws (om e (zy h λq96 h=>oV (zaa e e q96) (an e (xn (ziT e (eL73 _ _ (zw (zs (zs (hL2 h 42))))))))))
      exact oG g93 (zm e) (oG g93 (zm e) (zy h λq94 h=>oG g93 (zaa e e q94) (za h λy95 hy95 h=>oH g93 (tC (zhc hy95) hT (s2 e e) k0 (oG g93 (zaW eq5 e e) (oV (zh e g93 e) (hJ92 h 6)))))))
     exact oG g88 (zm e) (oG g88 (zm e) (za h λy89 hy89 h=>oG g88 (zcl y89 st9 e e hy89) (oG g88 (zi3 eq5 e e) (oV (zh e g88 e) (hJ87 h 5)))))
    exact oG g68 (zm e) (oG g68 (zm e) (zy h λq69 h=>oG g68 (zaa e e q69) (za h λy70 hy70 h=>oH g68 (tC (zhc hy70) hT (s2 e e) k0 (oG g68 (zaW eq5 e e) (oV (zh e g68 e) (hJ67 h 6)))))))
   exact oN g62 (oN g62 (oN g62 (oN g62 (oV (zh e g62 e) (hJ61 h 5)))))
  exact oN g58 (oN g58 (oN g58 (oN g58 (oV (zh e g58 e) (hJ57 h 5)))))
 exact oN g54 (oN g54 (oN g54 (oN g54 (oV (zh e g54 e) (hJ53 h 5)))))


theorem zjc {a_c r} (h:zf1 a_c=some r):Ctr Tryz.prog 132 [isv a_c] [] (Pt [isv r] []):=by
 unfold zf1 at h
 refine zi Tryz.func132 e λw0 S0 hT=>ws (an e (ws (om e (oV (zio e e) (om e (jO 3 8 h (λq1 h=>?_) λJ2 h hJ2=>oI h (λg3 h=>?_) λg3 h=>oN g3 (oN g3 (oV (zg e g3 e) (hJ2 h 3)))))))))
 ·refine om e (jO 7 16 h (λq4 h=>?_) λJ5 h hJ5=>oI h (λg6 h=>?_) λg6 h=>oG g6 (zm e) (oG g6 (zio e e) (oG g6 (zm e) (jO 3 15 h (λq7 h=>?_) λJ8 h hJ8=>oI h (λg9 h=>?_) λg9 h=>oN g9 (oN g9 (oG g6 (zg e g9 e) (hJ8 h 3)))))))
  ·exact ar e (ze (r1 e) k0 (iS h ▸ ⟨e,e⟩))
  ·exact oN g6 (oN g6 (oN g6 (oU (oU (oN g6 (oV (zh e g6 e) (hJ5 h 7)))))))
  ·exact oV (zg e g6 e) (hJ5 h 5)
  exact oG g9 (zm e) (oG g9 (zgv e e) (oG g6 (zh e g9 e) (hJ8 h 3)))
 exact oG g3 (zm e) (oG g3 (zgv e e) (oV (zh e g3 e) (hJ2 h 3)))


theorem zg8 {a_c r} (h:zfx a_c=some r):Ctr Tryz.prog 135 [isv a_c] [] (Pt [isv r] []):=by
 unfold zfx at h
 refine zi Tryz.func135 e λw0 S0 hT=>ws (an e (ws (om e (oV (zio e e) (om e (jO 3 8 h (λq1 h=>?_) λJ2 h hJ2=>oI h (λg3 h=>?_) λg3 h=>oN g3 (oN g3 (oV (zg e g3 e) (hJ2 h 3)))))))))
 ·exact ar e (ze (r1 e) k0 (iS h ▸ ⟨e,e⟩))
 exact oG g3 (zm e) (oG g3 (zgv e e) (oV (zh e g3 e) (hJ2 h 3)))


theorem zrb {a_s a_i r} (h:zj2 a_s a_i=some r):Ctr Tryz.prog 133 [isv a_s,isv a_i] [] (Pt [isv r] []):=by
 unfold zj2 at h
 refine zi Tryz.func133 e λw0 S0 hT=>ws (an e (ws (om e (an e (zF (zn (lO 1 h e λL2 q1 Q55 h hL2 eL2 rL2=>ss (om e (om e (oV (zcr st9 e) (oV (zau e e) (om e (jO 24 35 h (λq29 h=>?_) λJ30 h hJ30=>oI h (λg31 h=>?_) λg31 h=>oN g31 (oN g31 (oN g31 (oN g31 (oN g31 (oU (oU (oU (oU (oN g31 (oN g31 (oU (oU ?_)))))))))))))))))))))))))
 ·refine rn (zd h e (λ_ h=>?_) (λ_ h=>xn (eL2 _ _ (zw (zp (ss (om e (om e (zy h λq49 h=>oV (zhh e e q49) (za h λy50 hy50 h=>oV (zcl y50 st9 e e hy50) (oV (zaW eq5 e e) (om e (jO 5 48 h (λq51 h=>?_) λJ52 h hJ52=>oI h (λg53 h=>?_) λg53 h=>oG g53 (zm e) (oG g53 (zm e) (zy h λq54 h=>oG g53 (zhh e e q54) (oG g53 (zcy e e) (oV (zg e g53 e) (hJ52 h 5))))))))))))))))))
  ·exact wk (zn (zj (om e (zy h λq48 h=>oV (zaa e e q48) (oa e (rb (hL2 h 10)))))))
  ·refine rn (zd h e (λ_ h=>?_) (λ_ h=>wk (ws (om e (ar e (ze (r1 e) k0 (iS h ▸ ⟨e,e⟩)))))))
   exact ws (ar e (zD (ze (r1 e) k0 (iS h ▸ ⟨e,e⟩))))
  exact oN g53 (oN g53 (oN g53 (oN g53 (oV (zh e g53 e) (hJ52 h 5)))))
 ·refine oG g31 (zm e) (oG g31 (zm e) (za h λy32 hy32 h=>oG g31 (zcl y32 st9 e e hy32) (za h λy33 hy33 h=>oH g31 (tC (zjc hy33) hT (s1 e) k0 (oG g31 (zm e) (jO 5 21 h (λq34 h=>?_) λJ35 h hJ35=>oI h (λg36 h=>?_) λg36 h=>oG g36 (zm e) (oG g36 (zm e) (za h λy37 hy37 h=>oG g36 (zcl y37 st9 e e hy37) (za h λy38 hy38 h=>oH g36 (tC (zg8 hy38) hT (s1 e) k0 (oG g31 (zg e g36 e) (hJ35 h 5))))))))))))
  ·refine oG g31 (zm e) (jO 12 34 h (λq39 h=>?_) λJ40 h hJ40=>oI h (λg41 h=>?_) λg41 h=>oG g41 (zm e) (oG g41 (zm e) (za h λy42 hy42 h=>oG g41 (zcl y42 st9 e e hy42) (oG g41 (zaW eq5 e e) (oG g41 (zm e) (jO 6 33 h (λq43 h=>?_) λJ44 h hJ44=>oI h (λg45 h=>?_) λg45 h=>oN g45 (oN g45 (oN g45 (oN g45 (oN g45 (oG g41 (zg e g45 e) (hJ44 h 6))))))))))))
   ·exact oV (zh e g31 e) (hJ30 h 9)
   ·exact oN g41 (oN g41 (oN g41 (oN g41 (oN g41 (oU (oU (oU (oU (oU (oN g41 (oG g31 (zh e g41 e) (hJ40 h 12))))))))))))
   ·exact oG g31 (zg e g41 e) (hJ40 h 7)
   exact oG g45 (zm e) (oG g45 (zm e) (zy h λq46 h=>oG g45 (zaa e e q46) (za h λy47 hy47 h=>oH g45 (tC (zhc hy47) hT (s2 e e) k0 (oG g45 (zi3 eq5 e e) (oG g41 (zh e g45 e) (hJ44 h 6)))))))
  exact oN g36 (oN g36 (oN g36 (oN g36 (oG g31 (zh e g36 e) (hJ35 h 5)))))
 exact oU (oU (oU (oU (oU (oU (oU (oU (oU (oN g31 (oV (zg e g31 e) (hJ30 h 24)))))))))))


theorem zqQ:∀  {r:(List Str)},zmB =some r->Ctr Tryz.prog 174 [] [] (λR H=>R=oneOf [isv (r)]/\H=[]):=by
 intro  r h
 unfold zmB at h
 exact zi Tryz.func174 e λw0 S0 hT=>ws (an e (ws (oT (zA (l:=([(Str.mk [68,69,70,73,78,73,84,73,79,78,83]),(Str.mk [69,88,80,76,73,67,73,84]),(Str.mk [73,77,80,76,73,67,73,84]),(Str.mk [65,85,84,79,77,65,84,73,67]),(Str.mk [84,65,71,83]),(Str.mk [66,69,71,73,78]),(Str.mk [69,78,68]),(Str.mk [66,79,79,76,69,65,78]),(Str.mk [73,78,84,69,71,69,82]),(Str.mk [69,78,85,77,69,82,65,84,69,68]),(Str.mk [78,85,76,76]),(Str.mk [79,67,84,69,84]),(Str.mk [83,84,82,73,78,71]),(Str.mk [85,84,70,56,83,116,114,105,110,103]),(Str.mk [83,69,81,85,69,78,67,69]),(Str.mk [83,69,84]),(Str.mk [67,72,79,73,67,69]),(Str.mk [79,70]),(Str.mk [79,80,84,73,79,78,65,76]),(Str.mk [68,69,70,65,85,76,84]),(Str.mk [83,73,90,69]),(Str.mk [77,73,78]),(Str.mk [77,65,88]),(Str.mk [84,82,85,69]),(Str.mk [70,65,76,83,69])]:(List Str))) el27 (.cons e hI (.cons e hI (.cons e hI (.cons e hI (.cons e hI (.cons e hI (.cons e hI (.cons e hI (.cons e hI (.cons e hI (.cons e hI (.cons e hI (.cons e hI (.cons e hI (.cons e hI (.cons e hI (.cons e hI (.cons e hI (.cons e hI (.cons e hI (.cons e hI (.cons e hI (.cons e hI (.cons e hI (.cons e hI .nil))))))))))))))))))))))))) e e (ar e (ze (.as e zx .nil) k0 (iS h ▸ ⟨e,e⟩)))))))


theorem zk4 {a_l a_x r} (h:zf9 a_l a_x=some r):Ctr Tryz.prog 96 [isv a_l,isv a_x] [] (Pt [isv r] []):=by
 unfold zf9 at h
 refine zi Tryz.func96 e λw0 S0 hT=>ws (an e (ss (an e (zn (lO 5 h e λL2 q1 Q7 h hL2 eL2 rL2=>ss (om e (om e (oV (vN e sl27) (oV (zau e e) (rn (zd h e (λ_ h=>?_) (λ_ h=>xn (eL2 _ _ (zw (zp (ws (ar e (ze (r1 e) k0 (iS h ▸ ⟨e,e⟩)))))))))))))))))))
 refine wk (zF (zn (ws (om e (om e (za h λy5 hy5 h=>oV (vX e e sl27 hy5) (oV (zb ty9 e) (om e (oV (zaW eq9 e e) (rn (zd h e (λ_ h=>?_) (λ_ h=>zC (zs (zp (zj (om e (zy h λq6 h=>oV (zaa e e q6) (oa e (zN (hL2 h 14))))))))))))))))))))
 exact ws (ar e (bn (rL2 _ (bn (ze (r1 e) k0 (iS h ▸ ⟨e,e⟩))))))


theorem zri {a_s r} (h:zkb a_s=some r):Ctr Tryz.prog 134 [isv a_s] [] (Pt [isv r] []):=by
 unfold zkb at h
 exact zi Tryz.func134 e λw0 S0 hT=>ws (an e (ws (za h λy1 hy1 h=>oT (tC (zqQ hy1) hT .nil k0 (om e (za h λy2 hy2 h=>oT (tC (zk4 hy2) hT (s2 e e) k0 (ar e (ze (r1 e) k0 (iS h ▸ ⟨e,e⟩))))))))))


theorem zpT {a_s a_i r} (h:zh0 a_s a_i=some r):Ctr Tryz.prog 136 [isv a_s,isv a_i] [] (Pt [isv r] []):=by
 unfold zh0 at h
 refine zi Tryz.func136 e λw0 S0 hT=>ws (an e (ws (om e (om e (za h λy1 hy1 h=>oV (zcl y1 st9 e e hy1) (oV (zaW eq5 e e) (an e (ss (om e (rn (jW 1 h (λq2 h=>?_) λJ3 h hJ3=>zd h e (λ_ h=>?_) (λ_ h=>zC (hJ3 h 0)))))))))))))
 ·refine ws (om e (an e (ws (an e (zF (zn (lP h Unit () (λq5 g5=>[(1,isv q5.1),(7,isv q5.2)]) (λq5 g5=>[]) (zB (j:=1) e hI (zB (j:=7) e hI zay)) k0 λL6 q5 g5 Q91 h hL6 eL6 rL6=>ss (om e (om e (oV (zcr st9 e) (oV (zau e e) (om e (jO 5 26 h (λq49 h=>?_) λJ50 h hJ50=>oI h (λg51 h=>?_) λg51 h=>oN g51 (oN g51 (oN g51 (oN g51 (oV (zg e g51 e) (hJ50 h 5))))))))))))))))))
  ·refine rn (zd h e (λ_ h=>?_) (λ_ h=>xn (eL6 _ _ (zw (zp (ws (om e (om e (zy h λq59 h=>oV (zhh e e q59) (an e (ss (om e (oV (zau e e) (om e (jO 3 49 h (λq60 h=>?_) λJ61 h hJ61=>oI h (λg62 h=>?_) λg62 h=>oG g62 (zm e) (oG g62 (zcy e e) (oV (zg e g62 e) (hJ61 h 3))))))))))))))))))
   ·refine wk (zn (ss (om e (om e (zy h λq54 h=>oV (zhh e e q54) (oV (zau e e) (rn (jW 7 h (λq55 h=>?_) λJ56 h hJ56=>zd h e (λ_ h=>?_) (λ_ h=>zC (hJ56 h 0))))))))))
    ·exact zj (om e (zy h λq58 h=>oV (zaa e e q58) (oa e (rb (hL6 h () 16)))))
    exact zj (om e (oV (zpo e e) (om e (om e (za h λy57 hy57 h=>oV (zcl y57 st9 e e hy57) (oV (zmE e e) (oV (zfw Tryz.underlying5 Tryz.underlying102 e) (oV (zje e e) (oa e (zN (hJ56 h 9)))))))))))
   ·refine om e (jO 9 59 h (λq63 h=>?_) λJ64 h hJ64=>oI h (λg65 h=>?_) λg65 h=>oG g65 (zm e) (oG g65 (zcy e e) (oG g65 (zm e) (jO 5 58 h (λq66 h=>?_) λJ67 h hJ67=>oI h (λg68 h=>?_) λg68 h=>oN g68 (oN g68 (oN g68 (oN g68 (oG g65 (zg e g68 e) (hJ67 h 5)))))))))
    ·refine om e (jO 8 68 h (λq70 h=>?_) λJ71 h hJ71=>oI h (λg72 h=>?_) λg72 h=>oG g72 (zm e) (oG g72 (zm e) (jO 5 67 h (λq73 h=>?_) λJ74 h hJ74=>oI h (λg75 h=>?_) λg75 h=>oN g75 (oN g75 (oN g75 (oN g75 (oG g72 (zg e g75 e) (hJ74 h 5))))))))
     ·refine om e (jO 5 74 h (λq77 h=>?_) λJ78 h hJ78=>oI h (λg79 h=>?_) λg79 h=>oG g79 (zm e) (oG g79 (zm e) (za h λy80 hy80 h=>oH g79 (tC (zhc hy80) hT (s2 e e) k0 (za h λy81 hy81 h=>oH g79 (tC (zjc hy81) hT (s1 e) k0 (oV (zg e g79 e) (hJ78 h 5))))))))
      ·refine om e (jO 3 78 h (λq82 h=>?_) λJ83 h hJ83=>oI h (λg84 h=>?_) λg84 h=>oG g84 (zm e) (oG g84 (znd e e) (oV (zg e g84 e) (hJ83 h 3))))
       ·refine om e (jO 7 86 h (λq85 h=>?_) λJ86 h hJ86=>oI h (λg87 h=>?_) λg87 h=>oG g87 (zm e) (oG g87 (za2 e) (oG g87 (zm e) (jO 3 85 h (λq88 h=>?_) λJ89 h hJ89=>oI h (λg90 h=>?_) λg90 h=>oN g90 (oN g90 (oG g87 (zg e g90 e) (hJ89 h 3)))))))
        ·refine rn (zd h e (λ_ h=>?_) (λ_ h=>wk (ws (om e (ar e (ze (r1 e) k0 (iS h ▸ ⟨e,e⟩)))))))
         exact ws (ar e (zD (ze (r1 e) k0 (iS h ▸ ⟨e,e⟩))))
        ·exact oN g87 (oN g87 (oN g87 (oU (oU (oN g87 (oV (zh e g87 e) (hJ86 h 7)))))))
        ·exact oV (zg e g87 e) (hJ86 h 5)
        exact oG g90 (zm e) (oG g90 (zne e e) (oG g87 (zh e g90 e) (hJ89 h 3)))
       exact oN g84 (oN g84 (oV (zh e g84 e) (hJ83 h 3)))
      exact oN g79 (oN g79 (oN g79 (oN g79 (oV (zh e g79 e) (hJ78 h 5)))))
     ·exact oN g72 (oN g72 (oU (oU (oU (oU (oN g72 (oV (zh e g72 e) (hJ71 h 8))))))))
     ·exact oV (zg e g72 e) (hJ71 h 4)
     exact oG g75 (zm e) (oG g75 (zm e) (za h λy76 hy76 h=>oG g75 (zcl y76 st9 e e hy76) (oG g75 (zaW eq5 e e) (oG g72 (zh e g75 e) (hJ74 h 5)))))
    ·exact oN g65 (oN g65 (oN g65 (oU (oU (oU (oU (oN g65 (oV (zh e g65 e) (hJ64 h 9)))))))))
    ·exact oV (zg e g65 e) (hJ64 h 5)
    exact oG g68 (zm e) (oG g68 (zm e) (za h λy69 hy69 h=>oG g68 (zcl y69 st9 e e hy69) (oG g68 (zaW eq5 e e) (oG g65 (zh e g68 e) (hJ67 h 5)))))
   exact oN g62 (oN g62 (oV (zh e g62 e) (hJ61 h 3)))
  exact oG g51 (zm e) (oG g51 (zm e) (za h λy52 hy52 h=>oG g51 (zcl y52 st9 e e hy52) (za h λy53 hy53 h=>oH g51 (tC (zg8 hy53) hT (s1 e) k0 (oV (zh e g51 e) (hJ50 h 5))))))
 exact zj (om e (zy h λq4 h=>oV (zaa e e q4) (oa e (zN (hJ3 h 3)))))


theorem zsx {a_s a_i r} (h:zlV a_s a_i=some r):Ctr Tryz.prog 137 [isv a_s,isv a_i] [] (Pt [isv r.1,isv r.2] []):=by
 unfold zlV at h
 refine zi Tryz.func137 e λw0 S0 hT=>ws (oa e (an e (ws (om e (zy h λq1 h=>oV (zaa e e q1) (an e (ws (om e (an e (zF (zn (lO 1 h e λL3 q2 Q58 h hL3 eL3 rL3=>ss (om e (om e (oV (zcr st9 e) (oV (zau e e) (om e (jO 17 31 h (λq31 h=>?_) λJ32 h hJ32=>oI h (λg33 h=>?_) λg33 h=>oN g33 (oN g33 (oN g33 (oN g33 (oN g33 (oU (oU ?_))))))))))))))))))))))))
 ·refine rn (zd h e (λ_ h=>?_) (λ_ h=>xn (eL3 _ _ (zw (zp (ss (om e (om e (zy h λq45 h=>oV (zhh e e q45) (zam h λq46 h=>oV (ztG e e q46) (oV (zbz e e) (om e (jO 5 44 h (λq47 h=>?_) λJ48 h hJ48=>oI h (λg49 h=>?_) λg49 h=>oG g49 (zm e) (oG g49 (zm e) (za h λy50 hy50 h=>oH g49 (tC (zhc hy50) hT (s2 e e) k0 (oG g49 (zi3 eq5 e e) (oV (zg e g49 e) (hJ48 h 5)))))))))))))))))))
  ·exact wk (zn (zj (om e (zy h λq44 h=>oV (zaa e e q44) (oa e (rb (hL3 h 10)))))))
  ·refine om e (jO 6 51 h (λq51 h=>?_) λJ52 h hJ52=>oI h (λg53 h=>?_) λg53 h=>oG g53 (zm e) (oG g53 (zm e) (zy h λq54 h=>oG g53 (zaa e e q54) (za h λy55 hy55 h=>oH g53 (tC (zhc hy55) hT (s2 e e) k0 (oG g53 (zi3 eq5 e e) (oV (zg e g53 e) (hJ52 h 6))))))))
   ·refine rn (zd h e (λ_ h=>?_) (λ_ h=>wk (zF (zH (.v 0 (.v 1 (.v 2 (.v 3 (.v 4 (.v 5 (.v 6 (.v 7 .nil)))))))) moOrd (by kernel_rfl) (rm e e (zy h λq56 h=>zl e (zaa e e q56) (rm e e (rm e e (rm e e (zaj h λq57 h=>zl e (zgH st9 e (.inr ⟨_,e,e⟩) (.inr ⟨_,e,e⟩) q57.1 q57.2.1 q57.2.2) (zl e (zaD e) (zl e (zaD e) (zak (zp (zbK (ze (r2 e e) k0 (iS h ▸ ⟨e,e⟩)))))))))))))))))
    exact ws (oa e (ar e (zD (ze (r2 e e) k0 (iS h ▸ ⟨e,e⟩)))))
   exact oN g53 (oN g53 (oN g53 (oN g53 (oN g53 (oV (zh e g53 e) (hJ52 h 6))))))
  exact oN g49 (oN g49 (oN g49 (oN g49 (oV (zh e g49 e) (hJ48 h 5)))))
 ·refine oG g33 (zm e) (oG g33 (zm e) (za h λy34 hy34 h=>oG g33 (zcl y34 st9 e e hy34) (za h λy35 hy35 h=>oH g33 (tC (zg8 hy35) hT (s1 e) k0 (oG g33 (zm e) (jO 11 30 h (λq36 h=>?_) λJ37 h hJ37=>oI h (λg38 h=>?_) λg38 h=>oG g38 (zm e) (oG g38 (zm e) (za h λy39 hy39 h=>oG g38 (zcl y39 st9 e e hy39) (oG g38 (zio e e) (oG g38 (zm e) (jO 5 29 h (λq40 h=>?_) λJ41 h hJ41=>oI h (λg42 h=>?_) λg42 h=>oN g42 (oN g42 (oN g42 (oN g42 (oG g38 (zg e g42 e) (hJ41 h 5))))))))))))))))
  ·exact oV (zh e g33 e) (hJ32 h 7)
  ·exact oN g38 (oN g38 (oN g38 (oN g38 (oN g38 (oU (oU (oU (oU (oN g38 (oG g33 (zh e g38 e) (hJ37 h 11)))))))))))
  ·exact oG g33 (zg e g38 e) (hJ37 h 7)
  exact oG g42 (zm e) (oG g42 (zm e) (za h λy43 hy43 h=>oG g42 (zcl y43 st9 e e hy43) (oG g42 (zgv e e) (oG g38 (zh e g42 e) (hJ41 h 5)))))
 exact oU (oU (oU (oU (oU (oU (oU (oU (oN g33 (oV (zg e g33 e) (hJ32 h 17))))))))))


theorem zpK {a_s a_i r} (h:zh1 a_s a_i=some r):Ctr Tryz.prog 138 [isv a_s,isv a_i] [] (Pt [isv r.1,isv r.2] []):=by
 unfold zh1 at h
 refine zi Tryz.func138 e λw0 S0 hT=>ws (oa e (an e (ws (an e (ss (om e (zy h λq1 h=>oV (zaa e e q1) (an e (zn (lP h Unit () (λq2 g2=>[(1,isv q2.1),(6,isv q2.2)]) (λq2 g2=>[]) (zB (j:=1) e hI (zB (j:=6) e hI zay)) k0 λL3 q2 g2 Q30 h hL3 eL3 rL3=>ss (om e (om e (oV (zcr st9 e) (oV (zau e e) (rn (zd h e (λ_ h=>?_) (λ_ h=>xn (eL3 _ _ (zw (zp (ws (oa e (ar e (ze (r2 e e) k0 (iS h ▸ ⟨e,e⟩)))))))))))))))))))))))))
 refine wk (zF (jw h Unit (λq17 g17=>[(1,isv q17.1),(6,isv q17.2)]) (λq17 g17=>[]) k0 (λq17 g17 h=>?_) λJ18 h hJ18=>zn (ss (om e (om e (za h λy19 hy19 h=>oV (zcl y19 st9 e e hy19) (oV (zi3 eq5 e e) (rn (zd h e (λ_ h=>?_) (λ_ h=>wk (ss (om e (om e (zy h λq23 h=>oV (zaa e e q23) (za h λy24 hy24 h=>oT (tC (zhc hy24) hT (s2 e e) k0 (oV (zi3 eq5 e e) (rn (zd h e (λ_ h=>?_) (λ_ h=>wk (ws (om e (zam h λq27 h=>oV (zla e e q27) (an e (zj ?_)))))))))))))))))))))))))
 ·exact zj (om e (zy h λq29 h=>oV (zaa e e q29) (oa e (zN (hL3 h () 11)))))
 ·exact ws (om e (om e (om e (om e (zy h λq20 h=>oV (zaa e e q20) (zaj h λq21 h=>oV (zgH st9 e (.inr ⟨_,e,e⟩) (.inr ⟨_,e,e⟩) q21.1 q21.2.1 q21.2.2) (zam h λq22 h=>oV (zla e e q22) (an e (xn (zw (hJ18 h () 12)))))))))))
 ·refine ss (om e (za h λy25 hy25 h=>oT (tC (zly hy25) hT (s1 e) k0 (oV (za2 e) (rn (zd h e (λ_ h=>?_) (λ_ h=>wk (ws (om e (zy h λq26 h=>oV (zaa e e q26) (om e (oa e (ar e (zD (bn (rL3 _ (bn (ze (r2 e e) k0 (iS h ▸ ⟨e,e⟩)))))))))))))))))))
  exact ws (oa e (ar e (zD (zD (bn (rL3 _ (bn (ze (r2 e e) k0 (iS h ▸ ⟨e,e⟩)))))))))
 exact om e (zy h λq28 h=>oV (zaa e e q28) (oa e (rb (hJ18 h () 15))))


theorem zrt {a_s a_i r} (h:zkc a_s a_i=some r):Ctr Tryz.prog 139 [isv a_s,isv a_i] [] (Pt [isv r] []):=by
 unfold zkc at h
 refine zi Tryz.func139 e λw0 S0 hT=>ws (an e (ws (om e (om e (zaj h λq1 h=>oV (zgH st9 e (.inr ⟨_,e,e⟩) (.inl ⟨e,e⟩) q1.1 q1.2.1 q1.2.2) (an e (ws (oT (zA (l:=([(Str.mk [58,58,61]),(Str.mk [46,46,46]),(Str.mk [46,46]),(Str.mk [91,91]),(Str.mk [93,93]),(Str.mk [123]),(Str.mk [125]),(Str.mk [91]),(Str.mk [93]),(Str.mk [40]),(Str.mk [41]),(Str.mk [44]),(Str.mk [58])]:(List Str))) el27 (.cons e hI (.cons e hI (.cons e hI (.cons e hI (.cons e hI (.cons e hI (.cons e hI (.cons e hI (.cons e hI (.cons e hI (.cons e hI (.cons e hI (.cons e hI .nil))))))))))))) e e (an e (ss (an e (zn (lO 7 h e λL4 q3 Q19 h hL4 eL4 rL4=>ss (om e (om e (oV (zlX (l:=([(Str.mk [58,58,61]),(Str.mk [46,46,46]),(Str.mk [46,46]),(Str.mk [91,91]),(Str.mk [93,93]),(Str.mk [123]),(Str.mk [125]),(Str.mk [91]),(Str.mk [93]),(Str.mk [40]),(Str.mk [41]),(Str.mk [44]),(Str.mk [58])]:(List Str))) e zx sl27) (oV (zau e e) (rn (zd h e (λ_ h=>?_) (λ_ h=>xn (eL4 _ _ (zw (zp (ws (ar e (ze (r1 e) k0 (iS h ▸ ⟨e,e⟩))))))))))))))))))))))))))))
 refine wk (zF (zn (ws (om e (om e (za h λy12 hy12 h=>oV (zlj (l:=([(Str.mk [58,58,61]),(Str.mk [46,46,46]),(Str.mk [46,46]),(Str.mk [91,91]),(Str.mk [93,93]),(Str.mk [123]),(Str.mk [125]),(Str.mk [91]),(Str.mk [93]),(Str.mk [40]),(Str.mk [41]),(Str.mk [44]),(Str.mk [58])]:(List Str))) e zx e sl27 hy12) (oV (zb ty9 e) (oV (zcr st9 e) (an e (zF (zH (.v 0 (.v 1 (.v 2 (.v 3 (.v 4 (.v 5 (.v 6 (.v 7 (.v 8 (.v 9 (.v 10 (.v 11 (.v 12 (.v 13 .nil)))))))))))))) moOrd (by kernel_rfl) (rm e e (zl e (zcr st9 e) (rm e e (zl e (zdT e e) (rm e e (jD 9 37 h (λq13 h=>?_) λJ14 h hJ14=>rJ h (λg15 h=>?_) λg15 h=>rP e g15 (rP e g15 (rP e g15 (rP e g15 (rP e g15 (rP e g15 (rP e g15 (rP e g15 (zl e (zg e g15 e) (hJ14 h 9))))))))))))))))))))))))))
 ·refine zak (zp (zd h e (λ_ h=>?_) (λ_ h=>zC (zs (zp (zj (om e (zy h λq18 h=>oV (zaa e e q18) (oa e (zN (hL4 h 20)))))))))))
  exact ws (om e (ar e (bn (rL4 _ (bn (ze (r1 e) k0 (iS h ▸ ⟨e,e⟩)))))))
 exact rG e g15 (zm e) (rG e g15 (zm e) (zaj h λq16 h=>rG e g15 (zgH st9 e (.inl ⟨e,e⟩) (.inr ⟨_,e,e⟩) q16.1 q16.2.1 q16.2.2) (rG e g15 (zm e) (rG e g15 (zm e) (za h λy17 hy17 h=>rG e g15 (zlj (l:=([(Str.mk [58,58,61]),(Str.mk [46,46,46]),(Str.mk [46,46]),(Str.mk [91,91]),(Str.mk [93,93]),(Str.mk [123]),(Str.mk [125]),(Str.mk [91]),(Str.mk [93]),(Str.mk [40]),(Str.mk [41]),(Str.mk [44]),(Str.mk [58])]:(List Str))) e zx e sl27 hy17) (rG e g15 (zb ty9 e) (rG e g15 (zaW eq9 e e) (zl e (zh e g15 e) (hJ14 h 9)))))))))


theorem zs5 {a_s a_i r} (h:zlZ a_s a_i=some r):Ctr Tryz.prog 78 [isv a_s,isv a_i] [] (Pt [isv r.1,isv r.2] []):=by
 unfold zlZ at h
 refine zi Tryz.func78 e λw0 S0 hT=>ws (oT (zX _ ze80 λb1=>an e (ws (om e (oV (zao (z:=(GTok.mk (0:Int) (Str.mk []) a_i)) e bu80 ze80 (.cons GTok.f2 zms e hI .nil)) (oT (zX _ ze80 λb2=>oT (tS ty80 e e p0 ⟨0,⟨[]⟩,a_i⟩ (rn (ws (om e (om e (za h λy3 hy3 h=>oV (zcl y3 st9 e e hy3) (an e (ws (an e (zF (jw h Unit (λq4 g4=>[(8,isv q4.1)]) (λq4 g4=>[boxE b2 (q4.2:GTok)]) k1 (λq4 g4 h=>?_) λJ5 h hJ5=>zn (ws (om e (za h λy6 hy6 h=>oT (tC (zjc hy6) hT (s1 e) k0 (an e (zd h e (λ_ h=>?_) (λ_ h=>ws (om e (za h λy12 hy12 h=>?_)))))))))))))))))))))))))))
 ·exact ws (oT (tL ty80 e p0 q4.2 (om e (oT (tS ty80 e e p1 q4.2 (ar e (ze (.cell e .here ty80 (.tmp e .nil)) k0 (iS h ▸ ⟨e,e⟩))))))))
 ·refine ws (om e (om e (za h λy7 hy7 h=>oT (tC (zrb hy7) hT (s2 e e) k0 (an e (ss (om e (oV (zau e e) (rn (zd h e (λ_ h=>?_) (λ_ h=>wk (zF (zH (.v 0 (.v 1 (.v 2 (.v 3 (.v 4 (.t 5 (.v 6 (.t 7 .nil)))))))) moOrd (by kernel_rfl) (rm e e (rm e e (rm e e (zaj h λq8 h=>zl e (zgH st9 e (.inr ⟨_,e,e⟩) (.inr ⟨_,e,e⟩) q8.1 q8.2.1 q8.2.2) (zl e (zu e GTok.f0 zdz) (rT e (tS ty3 e e p0 ⟨2,⟨[]⟩,a_i⟩ (zl e (zu e GTok.f1 zeM) (rT e (tS ty9 e e p0 ⟨2,⟨((a_s.b.take (y7).toNat).drop (a_i).toNat)⟩,a_i⟩ (zak (zp (ss (om e (oV (zgv e e) (rn (jw h Unit (λq9 g9=>[]) (λq9 g9=>[boxE b2 (q9:GTok)]) k1 (λq9 g9 h=>?_) λJ10 h hJ10=>?_))))))))))))))))))))))))))))))
  ·exact ws (oT (tL ty80 e p0 ⟨0,⟨[]⟩,a_i⟩ (oT (tS ty80 e e p1 ⟨0,⟨[]⟩,a_i⟩ (ar e (zD (bn (ze (.cell e .here ty80 (.tmp e .nil)) k0 (iS h ▸ ⟨e,e⟩)))))))))
  ·refine ws (oV (zu e GTok.f1 zeM) (oT (tL ty9 e p0 q9.text (za h λy11 hy11 h=>oT (tC (zri hy11) hT (s1 e) k0 (rn (zd h e (λ_ h=>?_) (λ_ h=>zC (zs (hJ5 h () 20))))))))))
   exact zj (oV (zu e GTok.f0 zdz) (oT (tS ty3 e e p0 ({ q9 with kind:=5 }) (rb (hJ5 h () 21)))))
  refine zd h e (λ_ h=>?_) (λ_ h=>zC (hJ10 h () 0))
  exact zj (oV (zu e GTok.f0 zdz) (oT (tS ty3 e e p0 ⟨1,⟨((a_s.b.take (y7).toNat).drop (a_i).toNat)⟩,a_i⟩ (zN (hJ10 h () 1)))))
 refine oT (tC (zg8 hy12) hT (s1 e) k0 (om e (jO 10 66 h (λq13 h=>?_) λJ14 h hJ14=>oI h (λg15 h=>?_) λg15 h=>oG g15 (zm e) (oG g15 (zaW eq5 e e) (oG g15 (zm e) (jO 6 65 h (λq16 h=>?_) λJ17 h hJ17=>oI h (λg18 h=>?_) λg18 h=>oN g18 (oN g18 (oN g18 (oN g18 (oN g18 (oG g15 (zg e g18 e) (hJ17 h 6))))))))))))
 ·refine an e (zd h e (λ_ h=>?_) (λ_ h=>ws (om e (oV (zaW eq5 e e) (an e (zd h e (λ_ h=>?_) (λ_ h=>ws (om e (oV (zaW eq5 e e) (an e (zd h e (λ_ h=>?_) (λ_ h=>ws (om e (om e (za h λy26 hy26 h=>oT (tC (zrt hy26) hT (s2 e e) k0 (an e (ws (om e (oV (zcy e e) (rn (zd h e (λ_ h=>?_) (λ_ h=>zC (zs (hJ5 h () 20)))))))))))))))))))))))))
  ·refine ws (om e (om e (za h λy22 hy22 h=>oT (tC (zpT hy22) hT (s2 e e) k0 (an e (ss (om e (oV (zau e e) (rn (zd h e (λ_ h=>?_) (λ_ h=>wk (zH (.v 0 (.v 1 (.v 2 (.v 3 (.v 4 (.t 5 (.v 6 (.t 7 .nil)))))))) moOrd (by kernel_rfl) (rm e e (rm e e (rm e e (zaj h λq23 h=>zl e (zgH st9 e (.inr ⟨_,e,e⟩) (.inr ⟨_,e,e⟩) q23.1 q23.2.1 q23.2.2) (zl e (zu e GTok.f0 zdz) (rT e (tS ty3 e e p0 ⟨3,⟨[]⟩,a_i⟩ (zl e (zu e GTok.f1 zeM) (rT e (tS ty9 e e p0 ⟨3,⟨((a_s.b.take (y22).toNat).drop (a_i).toNat)⟩,a_i⟩ (zak (zs (hJ5 h () 20)))))))))))))))))))))))))
   exact ws (oT (tL ty80 e p0 ⟨0,⟨[]⟩,a_i⟩ (oT (tS ty80 e e p1 ⟨0,⟨[]⟩,a_i⟩ (ar e (zD (bn (ze (.cell e .here ty80 (.tmp e .nil)) k0 (iS h ▸ ⟨e,e⟩)))))))))
  ·exact ws (oV (zu e GTok.f0 zdz) (oT (tS ty3 e e p0 ⟨4,⟨[]⟩,a_i⟩ (rn (zj (om e (om e (za h λy24 hy24 h=>oT (tC (zsx hy24) hT (s2 e e) k0 (om e (oV (zr e e) (oV (zr e e) (oa e (oV (zu e GTok.f1 zeM) (oT (tS ty9 e e p0 ⟨4,y24.2,a_i⟩ (rb (hJ5 h () 20))))))))))))))))))
  ·exact ws (oV (zu e GTok.f0 zdz) (oT (tS ty3 e e p0 ⟨7,⟨[]⟩,a_i⟩ (rn (zj (om e (om e (za h λy25 hy25 h=>oT (tC (zpK hy25) hT (s2 e e) k0 (om e (oV (zr e e) (oV (zr e e) (oa e (oV (zu e GTok.f1 zeM) (oT (tS ty9 e e p0 ⟨7,y25.2,a_i⟩ (rb (hJ5 h () 23))))))))))))))))))
  exact zH (.v 0 (.v 1 (.v 2 (.v 3 (.v 4 (.v 5 (.v 6 (.v 7 (.v 8 (.v 9 (.t 10 (.v 11 (.t 12 (.v 13 .nil)))))))))))))) moOrd (by kernel_rfl) (rm e e (rm e e (rm e e (rm e e (zy h λq27 h=>zl e (zaa e e q27) (zaj h λq28 h=>zl e (zgH st9 e (.inr ⟨_,e,e⟩) (.inr ⟨_,e,e⟩) q28.1 q28.2.1 q28.2.2) (rm e e (rm e e (zy h λq29 h=>zl e (zaa e e q29) (zl e (zu e GTok.f0 zdz) (rT e (tS ty3 e e p0 ⟨6,⟨[]⟩,a_i⟩ (zl e (zu e GTok.f1 zeM) (rT e (tS ty9 e e p0 ⟨6,⟨((a_s.b.take ((a_i + y26)).toNat).drop (a_i).toNat)⟩,a_i⟩ (zl e (zaD e) (zak (zs (hJ5 h () 32)))))))))))))))))))
 ·exact oN g15 (oN g15 (oN g15 (oU (oU (oU (oU (oU (oN g15 (oV (zh e g15 e) (hJ14 h 10))))))))))
 ·exact oV (zg e g15 e) (hJ14 h 5)
 exact oG g18 (zm e) (oG g18 (zm e) (zy h λq19 h=>oG g18 (zaa e e q19) (za h λy20 hy20 h=>oH g18 (tC (zhc hy20) hT (s2 e e) k0 (za h λy21 hy21 h=>oH g18 (tC (zg8 hy21) hT (s1 e) k0 (oG g15 (zh e g18 e) (hJ17 h 6))))))))


theorem zpN {zaV r} (h:zg0 zaV=some r):Ctr Tryz.prog 33 [isv zaV] [] (Pt [isv r.1,isv r.2.1,isv r.2.2] []):=by
 unfold zg0 at h
 refine zi Tryz.func33 e λw0 S0 hT=>ws (oa e (oa e (an e (ss (om e (oV (zcr st9 e) (oV (zcy e e) (rn (zd h e (λ_ h=>?_) (λ_ h=>wk (ws (an e (ws (an e (zn (zhf (zbC) (lP h Tok none (λq1 g1=>[(5,appv g1 q1.1),(6,isv q1.2)]) (λq1 g1=>[tokE g1]) (zB (j:=5) e zcs (zB (j:=6) e hI zay)) k1 λL2 q1 g1 Q22 h hL2 eL2 rL2=>zn (ws (om e (om e (za h λy12 hy12 h=>oT (tC (zqh hy12) hT (s2 e e) k0 (an e (ss (om e (om e (oV (zcr st9 e) ?_)))))))))))))))))))))))))))
 ·exact ws (oa e (oa e (ar e (zD (ze (.as e (zeZ (α:=GTok)) (.tmp e (.tmp e .nil))) k0 (iS h ▸ ⟨e,e⟩))))))
 refine oV (zdT e e) (rn (zd h e (λ_ h=>?_) (λ_ h=>wk (ws (om e (om e (za h λy16 hy16 h=>oT (tC (zs5 hy16) hT (s2 e e) k0 (om e (oV (zr e e) (oV (zr e e) (oT (zX _ ze80 λb17=>oT (tS ty80 e e p0 y16.1 (zah (zaJ 7 .here e) (an e (ss (om e (oV (zau e e) (rn (zd h e (λ_ h=>?_) (λ_ h=>wk (ws (om e (oV (zb ty80 e) (oT (zA (l:=([y16.1]:(List GTok))) el69 (.cons e hI .nil) e e (zam h λq20 h=>oT (zcj (l:=q1.1) (m:=([y16.1]:(List GTok))) znn e hI e zx .here q20 λt19=>an e (zj ?_))))))))))))))))))))))))))))))
 ·exact ws (om e (om e (oV (zcr st9 e) (oV (zao (z:=(GTok.mk (0:Int) (Str.mk []) (zaV.b.length:Int))) e bu80 ze80 (.cons GTok.f2 zms e hI .nil)) (oT (zA (l:=([(GTok.mk (0:Int) (Str.mk []) (zaV.b.length:Int))]:(List GTok))) el69 (.cons e hI .nil) e e (zam h λq15 h=>oT (zcj (l:=q1.1) (m:=([(GTok.mk (0:Int) (Str.mk []) (zaV.b.length:Int))]:(List GTok))) znn e hI e zx .here q15 λt14=>oa e (oa e (ar e (zD (za8 (rL2 _ (za8 (ze (.as e zx (.tmp e (.tmp e .nil))) k0 (iS h ▸ ⟨e,e⟩))))))))))))))))
 ·exact ws (om e (oa e (oa e (ar e (zD (za8 (rL2 _ (za8 (ze (.as e (zeZ (α:=GTok)) (.tmp e (.tmp e .nil))) k0 (iS h ▸ ⟨e,e⟩))))))))))
 exact om e (oa e (rb (hL2 h t19 28)))


theorem zbs {a_x zY t_a_x1 t_a_x2 zV r} (h:zaX a_x=some r):Ctr Tryz.prog 47 [ptrv zY (Fld.id GParOT)] [boxE zY (GParO a_x t_a_x1 t_a_x2 zV),tokE t_a_x1,tokE t_a_x2,vecE zV a_x.m.nodes] (Pt2 (λ_ _=>[isv r.1]) λu1 u2=>[boxE zY (GParO r.2 u1 u2 zV),tokE u1,tokE u2,vecE zV r.2.m.nodes]):=by
 unfold zaX at h
 exact zi Tryz.func47 e λw0 S0 hT=>ws (oT (zX _ ze80 λb4=>rn (zF (zc3 0 (.there .here) e (λo5 hn6=>zH (.v 0 (.v 1 (.v 2 (.v 3 (.v 4 (.v 5 (.v 6 (.v 7 (.v 8 (.v 9 (.t 10 .nil))))))))))) moOrd (by kernel_rfl) (rm e e (zl e (zat e) (zl e (zdM e zkL zm8) (zl e (vP ty69 e m0 a_x.l) (rm e e (zl e (zat e) (zl e (zdM e ziQ zmd) (zl e (vP ty3 e m0 a_x.at_) (za h λy7 hy7 h=>zl e (vX e e sl69 hy7) (zl e (zb ty80 e) (rT e (tS ty80 e e p0 y7 (zak (zaO 0 hn6 e (zp (zbK (ze (.cell e (.there .here) ty80 .nil) (a0 (a1 (a1 (a1 k0)))) (iS h ▸ ⟨t_a_x1,t_a_x2,e,e⟩)))))))))))))))))))))))


theorem zcf {a_x a_e a_t zY t_a_x1 t_a_x2 zV r} (h:zbf a_x a_e a_t=some r):Ctr Tryz.prog 48 [ptrv zY (Fld.id GParOT),isv a_e,isv a_t] [boxE zY (GParO a_x t_a_x1 t_a_x2 zV),tokE t_a_x1,tokE t_a_x2,vecE zV a_x.m.nodes] (Pt2 (λ_ _=>[]) λu1 u2=>[boxE zY (GParO r u1 u2 zV),tokE u1,tokE u2,vecE zV r.m.nodes]):=by
 unfold zbf at h
 refine zi Tryz.func48 e λw0 S0 hT=>ws (oT (tB e (rn (ws (om e (oV (zf e) (oV (zu e zcF zd8) (oT (tL ty38 e p0 a_x.e (oV (zP e e) (rn (zd h e (λ_ h=>?_) (λ_ h=>zC (zaQ .nil k4 (iS h ▸ ⟨t_a_x1,t_a_x2,e,e⟩)))))))))))))))
 exact zH (.v 0 (.v 1 (.v 2 (.v 3 (.v 4 (.v 5 (.v 6 (.t 7 (.v 8 (.v 9 (.t 10 .nil))))))))))) moOrd (by kernel_rfl) (rm e e (rm e e (rm e e (zl e (vI e GTok.f2 zms a_t.at_) (zl e (zb ty3 e) (zl e (zf e) (zl e (zu e zcF zd8) (rT e (tS ty38 e e p0 (GParO {a_x with e:=a_e} t_a_x1 t_a_x2 zV) (zl e (zf e) (zl e (zu e zoJ zr9) (rT e (tS ty3 e e p0 (GParO {a_x with e:=a_e,p:=a_t.at_} t_a_x1 t_a_x2 zV) (zak (zaQ .nil k4 (iS h ▸ ⟨t_a_x1,t_a_x2,e,e⟩))))))))))))))))


theorem zc0 {a_x zY t_a_x1 t_a_x2 zV r} (h:zb7 a_x=some r):Ctr Tryz.prog 92 [ptrv zY (Fld.id GParOT)] [boxE zY (GParO a_x t_a_x1 t_a_x2 zV),tokE t_a_x1,tokE t_a_x2,vecE zV a_x.m.nodes] (Pt2 (λ_ _=>[isv r.1]) λu1 u2=>[boxE zY (GParO r.2 u1 u2 zV),tokE u1,tokE u2,vecE zV r.2.m.nodes]):=by
 unfold zb7 at h
 refine zi Tryz.func92 e λw0 S0 hT=>ws (oT (zX _ ze80 λb4=>rn (zF (zc3 0 (.there .here) e (λo5 hn6=>zH (.v 0 (.v 1 (.v 2 (.v 3 (.v 4 (.v 5 (.v 6 (.v 7 (.v 8 (.v 9 (.t 10 (.t 11 .nil)))))))))))) moOrd (by kernel_rfl) (rm e e (zl e (zat e) (zl e (zdM e zkL zm8) (zl e (vP ty69 e m0 a_x.l) (rm e e (zl e (zat e) (zl e (zdM e ziQ zmd) (zl e (vP ty3 e m0 a_x.at_) (za h λy7 hy7 h=>zl e (vX e e sl69 hy7) (zl e (zb ty80 e) (rT e (zX _ ze80 λb8=>rT e (tS ty80 e e p0 y7 (ze2 (zaJ 3 .here e) (zak (zaO 0 hn6 e (zp (zF (zF (zc3 0 .here e (λo9 hn10=>zH (.v 0 (.v 1 (.v 2 (.v 3 (.v 4 (.v 5 (.v 6 (.v 7 (.v 8 (.v 9 (.v 10 .nil))))))))))) moOrd (by kernel_rfl) (rm e e (zl e (zat e) ?_))))))))))))))))))))))))))))
 refine zl e (zdM e ziQ zmd) (zl e (vP ty3 e m0 a_x.at_) (zy h λq11 h=>zl e (zaa e e q11) (rm e e (zl e (zat e) (zl e (zdM e zkL zm8) (zl e (vP ty69 e m0 a_x.l) (zl e (vN e sl69) (zl e (zau e e) (zak (zaO 0 hn10 e (zp (jw h (Tok × Tok) (λq12 g12=>[]) (λq12 g12=>[boxE zY (GParO q12 g12.1 g12.2 zV),tokE g12.1,tokE g12.2,vecE zV q12.m.nodes]) (a0 (a1 (a1 (a1 k0)))) (λq12 g12 h=>?_) λJ13 h hJ13=>zd h e (λ_ h=>?_) (λ_ h=>zC (hJ13 h (t_a_x1,t_a_x2) 0))))))))))))))
 ·exact ws (oV (zb ty80 e) (oT (tS ty80 e e p4 y7 (rn (zbK (ze (.cell e .here ty80 .nil) (a1 (a1 (a1 (a1 k0)))) (iS h ▸ ⟨g12.1,g12.2,e,e⟩)))))))
 exact zj (om e (oV (zf e) (oV (zu e ziQ zmd) (oT (tL ty3 e p0 a_x.at_ (zy h λq14 h=>oV (zaa e e q14) (oV (zf e) (oV (zu e ziQ zmd) (oT (tS ty3 e e p0 (GParO {a_x with at_:=(a_x.at_ + 1)} t_a_x1 t_a_x2 zV) (zN (hJ13 h (t_a_x1,t_a_x2) 7))))))))))))


theorem zej {a_x a_k zY t_a_x1 t_a_x2 zV r} (h:zb6 a_x a_k=some r):Ctr Tryz.prog 44 [ptrv zY (Fld.id GParOT),isv a_k] [boxE zY (GParO a_x t_a_x1 t_a_x2 zV),tokE t_a_x1,tokE t_a_x2,vecE zV a_x.m.nodes] (Pt2 (λ_ _=>[isv r.1]) λu1 u2=>[boxE zY (GParO r.2 u1 u2 zV),tokE u1,tokE u2,vecE zV r.2.m.nodes]):=by
 unfold zb6 at h
 refine zi Tryz.func44 e λw0 S0 hT=>ws (an e (ws (om e (za h λy4 hy4 h=>oT (tC2 (zbs hy4) hT (s1 e) k4 (λt5 t6=>oT (zX _ ze80 λb7=>oT (tS ty80 e e p0 y4.1 (zah (zaJ 5 .here e) (rn (ss (om e (oV (zf e) (oV (zu e zcF zd8) (oT (tL ty38 e p0 y4.2.e (oV (zbz e e) (om e (jO 5 18 h (λq8 h=>?_) λJ9 h hJ9=>oI h (λg10 h=>?_) λg10 h=>oG g10 (vI e GTok.f0 zdz y4.1.kind) (oG g10 (zb ty3 e) (oG g10 (zm e) (oG g10 (zbz e e) (oV (zg e g10 e) (hJ9 h 5))))))))))))))))))))))))
 ·refine rn (zd h e (λ_ h=>?_) (λ_ h=>wk (ws (om e (za h λy14 hy14 h=>oT (tC2 (zc0 hy14) hT (s1 e) k4 (λt15 t16=>oV (zh8 GTok.f1 e zeM e) (ar e (ze (r1 e) k4 (iS h ▸ ⟨t15,t16,e,e⟩))))))))))
  exact ws (om e (oV (zb ty80 e) (za h λy11 hy11 h=>oT (tC2 (zcf hy11) hT (s3 e e e) k4 (λt12 t13=>rn (ws (ar e (zD (ze (r1 e) k4 (iS h ▸ ⟨t12,t13,e,e⟩))))))))))
 exact oN g10 (oN g10 (oN g10 (oN g10 (oV (zh e g10 e) (hJ9 h 5)))))


theorem zQ {a_x a_s zY t_a_x1 t_a_x2 zV r} (h:zL a_x a_s=some r):Ctr Tryz.prog 46 [ptrv zY (Fld.id GParOT),isv a_s] [boxE zY (GParO a_x t_a_x1 t_a_x2 zV),tokE t_a_x1,tokE t_a_x2,vecE zV a_x.m.nodes] (Pt2 (λ_ _=>[isv r.1]) λu1 u2=>[boxE zY (GParO r.2 u1 u2 zV),tokE u1,tokE u2,vecE zV r.2.m.nodes]):=by
 unfold zL at h
 refine zi Tryz.func46 e λw0 S0 hT=>ws (an e (ws (om e (za h λy4 hy4 h=>oT (tC2 (zbs hy4) hT (s1 e) k4 (λt5 t6=>oT (zX _ ze80 λb7=>oT (tS ty80 e e p0 y4.1 (zah (zaJ 5 .here e) (rn (ss (om e (oV (zf e) (oV (zu e zcF zd8) (oT (tL ty38 e p0 y4.2.e (oV (zP e e) (om e (jO 9 22 h (λq8 h=>?_) λJ9 h hJ9=>oI h (λg10 h=>?_) λg10 h=>oN g10 (oN g10 (oN g10 (oN g10 (oU (oU (oU (oN g10 (oV (zg e g10 e) (hJ9 h 9))))))))))))))))))))))))))))
 ·refine om e (jO 5 28 h (λq14 h=>?_) λJ15 h hJ15=>oI h (λg16 h=>?_) λg16 h=>oN g16 (oN g16 (oN g16 (oN g16 (oV (zg e g16 e) (hJ15 h 5))))))
  ·refine rn (zd h e (λ_ h=>?_) (λ_ h=>wk (ws (ar e (ze (r1 e) k4 (iS h ▸ ⟨t5,t6,e,e⟩))))))
   exact ws (om e (za h λy17 hy17 h=>oT (tC2 (zc0 hy17) hT (s1 e) k4 (λt18 t19=>rn (ws (ar e (zD (ze (r1 e) k4 (iS h ▸ ⟨t18,t19,e,e⟩)))))))))
  exact oG g16 (vI e GTok.f1 zeM y4.1.text) (oG g16 (zb ty9 e) (oG g16 (zm e) (oG g16 (zaW eq9 e e) (oV (zh e g16 e) (hJ15 h 5)))))
 refine oG g10 (vI e GTok.f0 zdz y4.1.kind) (oG g10 (zb ty3 e) (oG g10 (zP e e) (oG g10 (zm e) (jO 4 21 h (λq11 h=>?_) λJ12 h hJ12=>oI h (λg13 h=>?_) λg13 h=>oG g13 (vI e GTok.f0 zdz y4.1.kind) (oG g13 (zb ty3 e) (oG g13 (zP e e) (oG g10 (zg e g13 e) (hJ12 h 4))))))))
 ·exact oV (zh e g10 e) (hJ9 h 6)
 exact oN g13 (oN g13 (oN g13 (oG g10 (zh e g13 e) (hJ12 h 4))))


theorem zap {a_x a_s zY t_a_x1 t_a_x2 zV r} (h:zW a_x a_s=some r):Ctr Tryz.prog 45 [ptrv zY (Fld.id GParOT),isv a_s] [boxE zY (GParO a_x t_a_x1 t_a_x2 zV),tokE t_a_x1,tokE t_a_x2,vecE zV a_x.m.nodes] (Pt2 (λ_ _=>[]) λu1 u2=>[boxE zY (GParO r u1 u2 zV),tokE u1,tokE u2,vecE zV r.m.nodes]):=by
 unfold zW at h
 refine zi Tryz.func45 e λw0 S0 hT=>ws (om e (oV (zf e) (oV (zu e zcF zd8) (oT (tL ty38 e p0 a_x.e (oV (zP e e) (om e (jo 5 h (Tok × Tok) (λq4 g4=>[(14,isv q4.1)]) (λq4 g4=>[boxE zY (GParO q4.2 g4.1 g4.2 zV),tokE g4.1,tokE g4.2,vecE zV q4.2.m.nodes]) k4 (λq4 g4 h=>?_) λJ5 h hJ5=>oI h (λg6 h=>?_) λg6 h=>oN g6 (oN g6 (oN g6 (oN g6 (oV (zg e g6 e) (hJ5 h (t_a_x1,t_a_x2) 5)))))))))))))
 ·refine rn (zd h e (λ_ h=>?_) (λ_ h=>zC (zaQ .nil k4 (iS h ▸ ⟨g4.1,g4.2,e,e⟩))))
  exact zj (om e (om e (za h λy10 hy10 h=>oT (tC2 (zbs hy10) hT (s1 e) k4 (λt11 t12=>za h λy13 hy13 h=>oT (tC2 (zcf hy13) hT (s3 e e e) k4 (λt14 t15=>zN (zaQ .nil k4 (iS h ▸ ⟨t14,t15,e,e⟩)))))))))
 exact oG g6 (zm e) (oG g6 (zm e) (za h λy7 hy7 h=>oH g6 (tC2 (zQ hy7) hT (s2 e e) k4 (λt8 t9=>oG g6 (za2 e) (oV (zh e g6 e) (hJ5 h (t8,t9) 5))))))


theorem zpw {a_t r} (h:zhT a_t=some r):Ctr Tryz.prog 93 [isv a_t] [] (Pt [isv r] []):=by
 unfold zhT at h
 refine zi Tryz.func93 e λw0 S0 hT=>ws (oT (tB e (an e (ws (oT (zA (l:=([(Str.mk [91]),(Str.mk [66,79,79,76,69,65,78]),(Str.mk [78,85,76,76]),(Str.mk [85,84,70,56,83,116,114,105,110,103]),(Str.mk [73,78,84,69,71,69,82]),(Str.mk [79,67,84,69,84]),(Str.mk [69,78,85,77,69,82,65,84,69,68]),(Str.mk [83,69,84]),(Str.mk [67,72,79,73,67,69]),(Str.mk [83,69,81,85,69,78,67,69])]:(List Str))) el27 (.cons e hI (.cons e hI (.cons e hI (.cons e hI (.cons e hI (.cons e hI (.cons e hI (.cons e hI (.cons e hI (.cons e hI .nil)))))))))) e e (an e (ss (an e (zn (lO 4 h e λL3 q2 Q20 h hL3 eL3 rL3=>ss (om e (om e (oV (zlX (l:=([(Str.mk [91]),(Str.mk [66,79,79,76,69,65,78]),(Str.mk [78,85,76,76]),(Str.mk [85,84,70,56,83,116,114,105,110,103]),(Str.mk [73,78,84,69,71,69,82]),(Str.mk [79,67,84,69,84]),(Str.mk [69,78,85,77,69,82,65,84,69,68]),(Str.mk [83,69,84]),(Str.mk [67,72,79,73,67,69]),(Str.mk [83,69,81,85,69,78,67,69])]:(List Str))) e zx sl27) (oV (zau e e) (rn (zd h e (λ_ h=>?_) (λ_ h=>xn (eL3 _ _ (zw (zp (ws (oV (vI e GTok.f0 zdz a_t.kind) (oV (zb ty3 e) (oV (zP e e) (ar e (ze (r1 e) k0 (iS h ▸ ⟨e,e⟩))))))))))))))))))))))))))))
 refine wk (zF (zn (zF (zH (.v 0 (.v 1 (.v 2 (.v 3 (.v 4 (.v 5 (.v 6 (.v 7 (.v 8 (.v 9 (.v 10 (.v 11 (.v 12 (.v 13 (.v 14 (.v 15 (.v 16 .nil))))))))))))))))) moOrd (by kernel_rfl) (rm e e (rm e e (za h λy12 hy12 h=>zl e (zlj (l:=([(Str.mk [91]),(Str.mk [66,79,79,76,69,65,78]),(Str.mk [78,85,76,76]),(Str.mk [85,84,70,56,83,116,114,105,110,103]),(Str.mk [73,78,84,69,71,69,82]),(Str.mk [79,67,84,69,84]),(Str.mk [69,78,85,77,69,82,65,84,69,68]),(Str.mk [83,69,84]),(Str.mk [67,72,79,73,67,69]),(Str.mk [83,69,81,85,69,78,67,69])]:(List Str))) e zx e sl27 hy12) (zl e (zb ty9 e) (zl e (vI e GTok.f1 zeM a_t.text) (zl e (zb ty9 e) (zl e (zaW eq9 e e) (rm e e (jD 9 28 h (λq13 h=>?_) λJ14 h hJ14=>rJ h (λg15 h=>?_) λg15 h=>rP e g15 (rP e g15 (rP e g15 (rP e g15 (rU e (rU e (rU e (rP e g15 (zl e (zg e g15 e) (hJ14 h 9))))))))))))))))))))))
 ·refine zak (zp (zd h e (λ_ h=>?_) (λ_ h=>zC (zs (zp (zj (om e (zy h λq19 h=>oV (zaa e e q19) (oa e (zN (hL3 h 17)))))))))))
  exact ws (ar e (bn (rL3 _ (bn (ze (r1 e) k0 (iS h ▸ ⟨e,e⟩))))))
 refine rG e g15 (vI e GTok.f0 zdz a_t.kind) (rG e g15 (zb ty3 e) (rG e g15 (zP e e) (rG e g15 (zm e) (jD 4 27 h (λq16 h=>?_) λJ17 h hJ17=>rJ h (λg18 h=>?_) λg18 h=>rG e g18 (vI e GTok.f0 zdz a_t.kind) (rG e g18 (zb ty3 e) (rG e g18 (zP e e) (rG e g15 (zg e g18 e) (hJ17 h 4))))))))
 ·exact zl e (zh e g15 e) (hJ14 h 6)
 exact rP e g18 (rP e g18 (rP e g18 (rG e g15 (zh e g18 e) (hJ17 h 4))))


theorem zmV {a_s r} (h:zhE a_s=some r):Ctr Tryz.prog 82 [isv a_s] [] (Pt [isv r] []):=by
 unfold zhE at h
 refine zi Tryz.func82 e λw0 S0 hT=>ws (an e (ws (om e (za h λy1 hy1 h=>oV (zcl y1 st9 e e hy1) (oV (zaW eq5 e e) (an e (ss (om e (rn (jW 0 h (λq2 h=>?_) λJ3 h hJ3=>zd h e (λ_ h=>?_) (λ_ h=>zC (hJ3 h 0))))))))))))
 ·refine ws (an e (ss (an e (zn (lP h Unit () (λq5 g5=>[(4,isv q5.1),(5,isv q5.2)]) (λq5 g5=>[]) (zB (j:=4) e hI (zB (j:=5) e hI zay)) k0 λL6 q5 g5 Q19 h hL6 eL6 rL6=>ss (om e (om e (oV (zcr st9 e) (oV (zau e e) (rn (zd h e (λ_ h=>?_) (λ_ h=>xn (eL6 _ _ (zw (zp (ss (om e (rn (zd h e (λ_ h=>?_) (λ_ h=>wk (ws (om e (zy h λq18 h=>oV (zpk Tryz.underlying102 Tryz.underlying2 e q18) (ar e (ze (r1 e) k0 (iS h ▸ ⟨e,e⟩))))))))))))))))))))))))))
  ·exact wk (zF (zn (zj (om e (oV (zpo e e) (om e (om e (za h λy13 hy13 h=>oV (zcl y13 st9 e e hy13) (oV (zmE e e) (oV (zfw Tryz.underlying5 Tryz.underlying102 e) (oV (zje e e) (oa e (rb (zp (zj (om e (zy h λq14 h=>oV (zaa e e q14) (oa e (zN (hL6 h () 18))))))))))))))))))))
  exact ws (om e (oV (zsa e e) (zy h λq15 h=>oV (zpk Tryz.underlying102 Tryz.underlying2 e q15) (zy h λq16 h=>oV (zvP e q16) (zy h λq17 h=>oV (zhh e e q17) (ar e (zD (ze (r1 e) k0 (iS h ▸ ⟨e,e⟩)))))))))
 exact zj (om e (zaj h λq4 h=>oV (zgH st9 e (.inr ⟨_,e,e⟩) (.inl ⟨e,e⟩) q4.1 q4.2.1 q4.2.2) (oa e (zN (hJ3 h 3)))))


theorem zes {a_x zY t_a_x1 t_a_x2 zV r} (h:zcC a_x=some r):Ctr Tryz.prog 94 [ptrv zY (Fld.id GParOT)] [boxE zY (GParO a_x t_a_x1 t_a_x2 zV),tokE t_a_x1,tokE t_a_x2,vecE zV a_x.m.nodes] (Pt2 (λ_ _=>[isv r.1]) λu1 u2=>[boxE zY (GParO r.2 u1 u2 zV),tokE u1,tokE u2,vecE zV r.2.m.nodes]):=by
 unfold zcC at h
 refine zi Tryz.func94 e λw0 S0 hT=>ws (an e (ws (om e (za h λy4 hy4 h=>oT (tC2 (zej hy4) hT (s2 e e) k4 (λt5 t6=>an e (ss (om e (oV (zaW eq9 e e) (rn (zd h e (λ_ h=>?_) (λ_ h=>wk (ws (om e (za h λy7 hy7 h=>oT (tC (zmV hy7) hT (s1 e) k0 (ar e (ze (r1 e) k4 (iS h ▸ ⟨t5,t6,e,e⟩)))))))))))))))))))
 exact ws (ar e (zD (ze (r1 e) k4 (iS h ▸ ⟨t5,t6,e,e⟩))))


theorem zht {a_x zY t_a_x1 t_a_x2 zV r} (h:zdD a_x=some r):Ctr Tryz.prog 146 [ptrv zY (Fld.id GParOT)] [boxE zY (GParO a_x t_a_x1 t_a_x2 zV),tokE t_a_x1,tokE t_a_x2,vecE zV a_x.m.nodes] (Pt2 (λ_ _=>[isv r.1]) λu1 u2=>[boxE zY (GParO r.2 u1 u2 zV),tokE u1,tokE u2,vecE zV r.2.m.nodes]):=by
 unfold zdD at h
 refine zi Tryz.func146 e λw0 S0 hT=>ws (oT (zX _ ze125 λb4=>rn (ws (oV (zao (z:=(GCon.mk true false false false (0:Int) (0:Int))) e bu125 ze125 (.cons GCon.f0 znk e hI .nil)) (oT (zX _ ze125 λb5=>oT (tS ty125 e e p0 ⟨true,false,false,false,0,0⟩ (rn (ss (om e (za h λy6 hy6 h=>oT (tC2 (zQ hy6) hT (s2 e e) (a2 (a2 (a2 (a2 k0)))) (λt7 t8=>oV (za2 e) (rn (jw h (Tok × Tok) (λq9 g9=>[]) (λq9 g9=>[boxE zY (GParO q9.1 g9.1 g9.2 zV),tokE g9.1,tokE g9.2,vecE zV q9.1.m.nodes,boxE b5 (q9.2:GCon)]) (a0 (a3 k3)) (λq9 g9 h=>?_) λJ10 h hJ10=>zd h e (λ_ h=>?_) (λ_ h=>zC (hJ10 h (t7,t8) 0)))))))))))))))))
 ·refine zF (jw h (Tok × Tok) (λq14 g14=>[]) (λq14 g14=>[boxE zY (GParO q14.1 g14.1 g14.2 zV),tokE g14.1,tokE g14.2,vecE zV q14.1.m.nodes,boxE b5 (q14.2:GCon)]) (a0 (a3 k3)) (λq14 g14 h=>?_) λJ15 h hJ15=>zn (ws (om e (za h λy16 hy16 h=>oT (tC2 (zQ hy16) hT (s2 e e) k4 (λt17 t18=>an e (zd h e (λ_ h=>?_) (λ_ h=>ws (oV (zu e GCon.f1 zkF) (oT (tL ty4 e p4 q9.2.hasLow (an e (zd h e (λ_ h=>?_) (λ_ h=>zC (zs (hJ15 h (t17,t18) 6))))))))))))))))
  ·refine ss (om e (za h λy25 hy25 h=>oT (tC2 (zQ hy25) hT (s2 e e) k4 (λt26 t27=>rn (jw h (Tok × Tok) (λq28 g28=>[]) (λq28 g28=>[boxE zY (GParO q28.1 g28.1 g28.2 zV),tokE g28.1,tokE g28.2,vecE zV q28.1.m.nodes,boxE b5 (q28.2:GCon)]) (a0 (a3 k3)) (λq28 g28 h=>?_) λJ29 h hJ29=>zd h e (λ_ h=>?_) (λ_ h=>zC (hJ29 h (t26,t27) 0)))))))
   ·exact ws (oT (tL ty125 e p4 q28.2 (oT (tS ty125 e e (.there p4) q28.2 (rn (zbK (ze (.cell e .here ty125 .nil) (a1 (a1 (a1 (a1 k0)))) (iS h ▸ ⟨g28.1,g28.2,e,e⟩))))))))
   exact ws (om e (za h λy30 hy30 h=>oT (tC2 (zap hy30) hT (s2 e e) k4 (λt31 t32=>rn (zj (oV (zu e GCon.f3 zm4) (oT (tS ty4 e e p4 ({ q14.2 with more:=true }) (zN (hJ29 h (t31,t32) 3))))))))))
  ·refine ws (om e (za h λy19 hy19 h=>oT (tC2 (zQ hy19) hT (s2 e e) k4 (λt20 t21=>oV (za2 e) (rn (zd h e (λ_ h=>?_) (λ_ h=>zC (zs (hJ15 h (t20,t21) 6)))))))))
   exact zj (om e (za h λy22 hy22 h=>oT (tC2 (zes hy22) hT (s1 e) k4 (λt23 t24=>oV (zu e GCon.f2 zky) (oT (tS ty4 e e p4 ({ q9.2 with hasHigh:=true }) (oV (zu e GCon.f5 zjj) (oT (tS ty2 e e p0 ({ { q9.2 with hasHigh:=true } with high:=y22.1 }) (rb (hJ15 h (t23,t24) 10)))))))))))
  exact zj (oV (zu e GCon.f4 zjG) (oT (tL ty2 e p4 q9.2.low (oV (zu e GCon.f2 zky) (oT (tS ty4 e e p4 ({ q9.2 with hasHigh:=true }) (oV (zu e GCon.f5 zjj) (oT (tS ty2 e e p0 ({ { q9.2 with hasHigh:=true } with high:=q9.2.low }) (rb (hJ15 h (t17,t18) 10)))))))))))
 exact zj (om e (za h λy11 hy11 h=>oT (tC2 (zes hy11) hT (s1 e) k4 (λt12 t13=>oV (zu e GCon.f1 zkF) (oT (tS ty4 e e p4 ⟨true,true,false,false,0,0⟩ (oV (zu e GCon.f4 zjG) (oT (tS ty2 e e p0 ⟨true,true,false,false,y11.1,0⟩ (zN (hJ10 h (t12,t13) 4)))))))))))


theorem zgi {a_x zY t_a_x1 t_a_x2 zV r} (h:zdL a_x=some r):Ctr Tryz.prog 145 [ptrv zY (Fld.id GParOT)] [boxE zY (GParO a_x t_a_x1 t_a_x2 zV),tokE t_a_x1,tokE t_a_x2,vecE zV a_x.m.nodes] (Pt2 (λ_ _=>[isv r.1]) λu1 u2=>[boxE zY (GParO r.2 u1 u2 zV),tokE u1,tokE u2,vecE zV r.2.m.nodes]):=by
 unfold zdL at h
 refine zi Tryz.func145 e λw0 S0 hT=>ws (oT (zX _ ze125 λb4=>rn (ss (om e (za h λy5 hy5 h=>oT (tC2 (zQ hy5) hT (s2 e e) (a1 (a1 (a1 (a1 k0)))) (λt6 t7=>oV (za2 e) (rn (zd h e (λ_ h=>?_) (λ_ h=>wk (ws (om e (za h λy8 hy8 h=>oT (tC2 (zap hy8) hT (s2 e e) k4 (λt9 t10=>rn (ws (om e (za h λy11 hy11 h=>oT (tC2 (zap hy11) hT (s2 e e) k4 (λt12 t13=>rn (ws (om e (za h λy14 hy14 h=>oT (tC2 (zht hy14) hT (s1 e) k4 (λt15 t16=>oT (zX _ ze125 λb17=>oT (tS ty125 e e p0 y14.1 (zah (zaJ 3 .here e) (rn ?_)))))))))))))))))))))))))))))
 ·exact ws (oV (zao (z:=(GCon.mk false false false false (0:Int) (0:Int))) e bu125 ze125 .nil) (oT (tS ty125 e e p4 ⟨false,false,false,false,0,0⟩ (rn (zbK (zD (ze (.cell e .here ty125 .nil) (a1 (a1 (a1 (a1 k0)))) (iS h ▸ ⟨t6,t7,e,e⟩))))))))
 exact ws (om e (za h λy18 hy18 h=>oT (tC2 (zap hy18) hT (s2 e e) k4 (λt19 t20=>rn (ws (om e (za h λy21 hy21 h=>oT (tC2 (zap hy21) hT (s2 e e) k4 (λt22 t23=>rn (ws (oV (zb ty125 e) (oT (tS ty125 e e p4 y14.1 (rn (zbK (ze (.cell e .here ty125 .nil) (a1 (a1 (a1 (a1 k0)))) (iS h ▸ ⟨t22,t23,e,e⟩)))))))))))))))))


theorem zls {a_x a_n_ zY t_a_x1 t_a_x2 zV zdB t_a_n_4 t_a_n_5 r} (h:zeA a_x a_n_=some r):Ctr Tryz.prog 147 [ptrv zY (Fld.id GParOT),ptrv zdB (Fld.id GNodeOT)] [boxE zY (GParO a_x t_a_x1 t_a_x2 zV),tokE t_a_x1,tokE t_a_x2,vecE zV a_x.m.nodes,boxE zdB (GNodeO a_n_ t_a_n_4 t_a_n_5),tokE t_a_n_4,tokE t_a_n_5] (Pt4 (λ_ _ _ _=>[]) λu1 u2 u3 u4=>[boxE zY (GParO r.1 u1 u2 zV),tokE u1,tokE u2,vecE zV r.1.m.nodes,boxE zdB (GNodeO r.2 u3 u4),tokE u3,tokE u4]):=by
 unfold zeA at h
 refine zi Tryz.func147 e λw0 S0 hT=>zF (jw h (Tok × Tok × Tok × Tok) (λq6 g6=>[]) (λq6 g6=>[boxE zY (GParO q6.1 g6.1 g6.2.1 zV),tokE g6.1,tokE g6.2.1,vecE zV q6.1.m.nodes,boxE zdB (GNodeO q6.2 g6.2.2.1 g6.2.2.2),tokE g6.2.2.1,tokE g6.2.2.2]) (a0 (a3 k5)) (λq6 g6 h=>?_) λJ7 h hJ7=>zn (lP h (Tok × Tok × Tok × Tok) (t_a_x1,t_a_x2,t_a_n_4,t_a_n_5) (λq8 g8=>[]) (λq8 g8=>[boxE zY (GParO q8.1 g8.1 g8.2.1 zV),tokE g8.1,tokE g8.2.1,vecE zV q8.1.m.nodes,boxE zdB (GNodeO q8.2 g8.2.2.1 g8.2.2.2),tokE g8.2.2.1,tokE g8.2.2.2]) zay k7 λL9 q8 g8 Q82 h hL9 eL9 rL9=>ss (om e (oV (zf e) (oV (zu e zcF zd8) (oT (tL ty38 e p0 q8.1.e (oV (zP e e) (rn (zd h e (λ_ h=>?_) (λ_ h=>xn (eL9 _ _ (zw (hJ7 h (g8.1,g8.2.1,g8.2.2.1,g8.2.2.2) 5))))))))))))))
 ·refine ws (om e (oV (zf e) (oV (zu e zgY zhA) (oT (tL ty4 e p4 q6.2.more (oV (za2 e) (rn (zd h e (λ_ h=>?_) (λ_ h=>zC (zaQ .nil k7 (iS h ▸ ⟨g6.1,g6.2.1,g6.2.2.1,g6.2.2.2,e,e⟩)))))))))))
  exact zj (om e (om e (oV (zf e) (oV (zu e zhI zg5) (oT (zaS (R:=appv g6.2.2.1 q6.2.items) ty126 e p4 isvT1 (oV (zlX (l:=q6.2.items) e zx sl126) (oV (zf e) (oV (zu e zkE zid) (oT (tS ty3 e e p4 (GNodeO {q6.2 with root:=(q6.2.items.length:Int)} g6.2.2.1 g6.2.2.2) (zN (zaQ .nil (a1 (a1 (a1 (a1 k3)))) (iS h ▸ ⟨g6.1,g6.2.1,g6.2.2.1,g6.2.2.2,e,e⟩))))))))))))))
 refine wk (zn (ss (om e (oV (zf e) (oV (zu e zhI zg5) (oT (zaS (R:=appv g8.2.2.1 q8.2.items) ty126 e p4 isvT1 (oV (zlX (l:=q8.2.items) e zx sl126) (oV (zcy e e) (om e (jO 6 22 h (λq46 h=>?_) λJ47 h hJ47=>oI h (λg48 h=>?_) λg48 h=>oN g48 (oN g48 (oN g48 (oN g48 (oN g48 (oV (zg e g48 e) (hJ47 h 6)))))))))))))))))
 ·refine om e (jo 3 h (Tok × Tok) (λq49 g49=>[(26,isv q49.1)]) (λq49 g49=>[boxE zY (GParO q49.2 g49.1 g49.2 zV),tokE g49.1,tokE g49.2,vecE zV q49.2.m.nodes]) k4 (λq49 g49 h=>?_) λJ50 h hJ50=>oI h (λg51 h=>?_) λg51 h=>oN g51 (oN g51 (oV (zg e g51 e) (hJ50 h (g8.1,g8.2.1) 3))))
  ·refine rn (jw h (Tok × Tok × Tok × Tok) (λq55 g55=>[]) (λq55 g55=>[boxE zY (GParO q55.1 g55.1 g55.2.1 zV),tokE g55.1,tokE g55.2.1,vecE zV q55.1.m.nodes,boxE zdB (GNodeO q55.2 g55.2.2.1 g55.2.2.2),tokE g55.2.2.1,tokE g55.2.2.2]) (a0 (a3 k5)) (λq55 g55 h=>?_) λJ56 h hJ56=>zd h e (λ_ h=>?_) (λ_ h=>ws (om e (za h λy57 hy57 h=>oT (tC2 (zej hy57) hT (s2 e e) k4 (λt58 t59=>oV (zao (z:=(GItem.mk y57.1 (0:Int) false)) e bu132 ze132 (.cons GItem.f0 zkx e hI .nil)) (oT (zX _ ze132 λb60=>oT (tS ty132 e e p0 ⟨y57.1,0,false⟩ (rn (ss (om e (za h λy61 hy61 h=>oT (tC2 (zQ hy61) hT (s2 e e) (a1 (a1 (a1 (a1 k0)))) (λt62 t63=>rn (jw h (Tok × Tok) (λq64 g64=>[]) (λq64 g64=>[boxE zY (GParO q64.1 g64.1 g64.2 zV),tokE g64.1,tokE g64.2,vecE zV q64.1.m.nodes,boxE b60 (q64.2:GItem)]) (a0 (a3 k3)) (λq64 g64 h=>?_) λJ65 h hJ65=>zd h e (λ_ h=>?_) (λ_ h=>zC (hJ65 h (t62,t63) 0))))))))))))))))))
   ·refine ws (om e (za h λy79 hy79 h=>oT (tC2 (zQ hy79) hT (s2 e e) k4 (λt80 t81=>oV (za2 e) (rn (zd h e (λ_ h=>?_) (λ_ h=>zC (zs (hL9 h (t80,t81,g55.2.2.1,g55.2.2.2) 18)))))))))
    exact zmo (ziT e (eL9 _ _ (zw (hJ7 h (t80,t81,g55.2.2.1,g55.2.2.2) 18))))
   ·exact zj (om e (om e (om e (oV (zf e) (oV (zu e zhI zg5) (oT (zaS (R:=appv g8.2.2.1 q8.2.items) ty126 e p4 isvT1 (oV (zlX (l:=q8.2.items) e zx sl126) (oV (zf e) (oV (zu e zgY zhA) (oT (tS ty4 e e p4 (GNodeO {q8.2 with more:=true} g8.2.2.1 g8.2.2.2) (oV (zf e) (oV (zu e zkE zid) (oT (tS ty3 e e p0 (GNodeO {q8.2 with root:=(q8.2.items.length:Int),more:=true} g8.2.2.1 g8.2.2.2) (zN (hJ56 h (g49.1,g49.2,g8.2.2.1,g8.2.2.2) 11))))))))))))))))))
   ·refine zc3 4 (.there (.there (.there (.there .here)))) e (λo72 hn73=>zH (.v 0 (.v 1 (.v 2 (.v 3 (.v 5 (.alt 4 (.t 6 (.t 7 (.v 8 (.v 9 (.t 10 .nil))))) (.t 6 (.t 4 (.t 7 (.v 8 (.v 9 (.t 10 .nil)))))))))))) moOrd (by kernel_rfl) (rm e e (rm e e (zl e (zf e) (zl e (zu e zhI zg5) (zl e (vP ty132 e m0 q64.2) (zam h λq76 h=>zfr ?_ (rT e (zA (l:=([q64.2]:(List GItem))) el126 (.cons e hI .nil) e e (rT e (zaS (R:=appv g8.2.2.1 q8.2.items) ty126 e p4 isvT1 (rT e (zcj (l:=q8.2.items) (m:=([q64.2]:(List GItem))) zkN e hI e zx (.there (.there (.there (.there (.there .here))))) q76 λt78=>zl e (zf e) (zl e (zu e zhI zg5) (rT e (tR ty126 e e isvT2 (.there p4) (GNodeO {q8.2 with items:=(q8.2.items ++ ([q64.2]:(List GItem)))} t78 g8.2.2.2) e (zak (zaO 4 hn73 e (hJ56 h (g64.1,g64.2,t78,g8.2.2.2) 18)))))))))))))))))))
    exact rT e (zaS (R:=appv g8.2.2.1 q8.2.items) ty126 e p4 isvT1 (rT e (zA (l:=([q64.2]:(List GItem))) el126 (.cons e hI .nil) e e (rT e (zcj (l:=q8.2.items) (m:=([q64.2]:(List GItem))) zkN e hI e zx (.there (.there (.there (.there (.there .here))))) q76 λt75=>zl e (zf e) (zl e (zu e zhI zg5) (rT e (tR ty126 e e isvT2 (.there p4) (GNodeO {q8.2 with items:=(q8.2.items ++ ([q64.2]:(List GItem)))} t75 g8.2.2.2) e (zak (zaO 4 hn73 e (hJ56 h (g64.1,g64.2,t75,g8.2.2.2) 18)))))))))))
   exact ws (om e (za h λy66 hy66 h=>oT (tC2 (zes hy66) hT (s1 e) k4 (λt67 t68=>oV (zu e GItem.f2 zkB) (oT (tS ty4 e e p4 ⟨y57.1,0,true⟩ (oV (zu e GItem.f1 zep) (oT (tS ty2 e e p0 ⟨y57.1,y66.1,true⟩ (rn (zj (om e (za h λy69 hy69 h=>oT (tC2 (zap hy69) hT (s2 e e) (a1 (a1 (a1 (a1 k0)))) (λt70 t71=>zN (hJ65 h (t70,t71) 6))))))))))))))))
  exact oG g51 (zm e) (za h λy52 hy52 h=>oH g51 (tC2 (zQ hy52) hT (s2 e e) k4 (λt53 t54=>oV (zh e g51 e) (hJ50 h (t53,t54) 3))))
 exact oG g48 (zm e) (oG g48 (zf e) (oG g48 (zu e zgY zhA) (oH g48 (tL ty4 e p4 q8.2.more (oG g48 (za2 e) (oV (zh e g48 e) (hJ47 h 6)))))))


theorem zsM {a_s r} (h:zlS a_s=some r):Ctr Tryz.prog 84 [isv a_s] [] (Pt [isv r] []):=by
 unfold zlS at h
 refine zi Tryz.func84 e λw0 S0 hT=>ws (an e (ws (an e (ss (an e (zn (zhf (zbC) (lP h Tok none (λq1 g1=>[(3,appv g1 q1.1),(4,isv q1.2)]) (λq1 g1=>[tokE g1]) (zB (j:=3) e zcs (zB (j:=4) e hI zay)) k1 λL2 q1 g1 Q60 h hL2 eL2 rL2=>ss (om e (zy h λq31 h=>oV (zaa e e q31) (om e (oV (zcr st9 e) (oV (zau e e) (rn (zd h e (λ_ h=>?_) (λ_ h=>xn (eL2 _ _ (zw (zp (ws (om e (ar e (ze (.as e zx .nil) k0 (iS h ▸ ⟨e,e⟩))))))))))))))))))))))))
 refine wk (zF (zn (ws (an e (ss (om e (an e (zn (lP h Unit () (λq32 g32=>[(5,isv q32.1),(6,isv q32.2)]) (λq32 g32=>[]) (zB (j:=5) e hI (zB (j:=6) e hI zay)) k0 λL33 q32 g32 Q58 h hL33 eL33 rL33=>ss (om e (om e (zy h λq46 h=>oV (zaa e e q46) (oV (zau e e) (rn (zd h e (λ_ h=>?_) (λ_ h=>xn (eL33 _ _ (zw (zp (zj (om e (om e (oT (zA (l:=([q32.1]:(List UInt8))) el22 (.cons e hI .nil) e e (zam h λq56 h=>oT (zcj (l:=q1.1) (m:=([q32.1]:(List UInt8))) zkD e hI e zx .here q56 λt55=>oa e (rb ?_)))))))))))))))))))))))))))
 ·refine wk (zF (zn (ws (om e (om e (za h λy47 hy47 h=>oV (zcl y47 st9 e e hy47) (oV (zmE e e) (an e (ss (om e (om e (za h λy48 hy48 h=>oV (zcl y48 st9 e e hy48) (oV (zio e e) (rn (jW 7 h (λq49 h=>?_) λJ50 h hJ50=>zd h e (λ_ h=>?_) (λ_ h=>zC (hJ50 h 0)))))))))))))))))
  ·exact zj (om e (zam h λq52 h=>oV (zvR e e q52) (om e (oV (zvQ e e) (oa e (rb (zp (zj (om e (zy h λq53 h=>oV (zaa e e q53) (oa e (zN (hL33 h () 24)))))))))))))
  exact zj (om e (om e (za h λy51 hy51 h=>oV (zcl y51 st9 e e hy51) (oV (zmE e e) (oV (ztI e e) (oa e (zN (hJ50 h 6))))))))
 exact zp (zj (om e (zy h λq57 h=>oV (zaa e e q57) (oa e (zN (hL2 h t55 24))))))


theorem zli {a_x zY t_a_x1 t_a_x2 zV r} (h:zew a_x=some r):Ctr Tryz.prog 213 [ptrv zY (Fld.id GParOT)] [boxE zY (GParO a_x t_a_x1 t_a_x2 zV),tokE t_a_x1,tokE t_a_x2,vecE zV a_x.m.nodes] (Pt2 (λ_ _=>[isv r.1]) λu1 u2=>[boxE zY (GParO r.2 u1 u2 zV),tokE u1,tokE u2,vecE zV r.2.m.nodes]):=by
 unfold zew at h
 refine zi Tryz.func213 e λw0 S0 hT=>ws (oT (zX _ ze26 λb4=>rn (ws (om e (za h λy5 hy5 h=>oT (tC2 (zbs hy5) hT (s1 e) (a1 (a1 (a1 (a1 k0)))) (λt6 t7=>oT (zX _ ze80 λb8=>oT (tS ty80 e e p0 y5.1 (zah (zaJ 3 .here e) (rn (zF (jw h (Tok × Tok) (λq9 g9=>[]) (λq9 g9=>[boxE zY (GParO q9 g9.1 g9.2 zV),tokE g9.1,tokE g9.2,vecE zV q9.m.nodes]) k4 (λq9 g9 h=>?_) λJ10 h hJ10=>zn (ws (om e (oV (zf e) (oV (zu e zcF zd8) (oT (tL ty38 e p0 y5.2.e (oV (zbz e e) (an e (zd h e (λ_ h=>?_) (λ_ h=>ws (om e (za h λy11 hy11 h=>oT (tC2 (zQ hy11) hT (s2 e e) k4 (λt12 t13=>an e (zd h e (λ_ h=>?_) (λ_ h=>ws ?_)))))))))))))))))))))))))))))
 ·exact ws (oV (zao (z:=(Val.mk (0:Int) (0:Int) ([]:(List UInt8)) ([]:(List Val)) (0:Int) ([]:(List Raw)))) e bu26 ze26 .nil) (oT (tS ty26 e e p4 ⟨0,0,[],[],0,[]⟩ (rn (zbK (ze (.cell e .here ty26 .nil) (a1 (a1 (a1 (a1 k0)))) (iS h ▸ ⟨g9.1,g9.2,e,e⟩)))))))
 ·exact zC (zs (hJ10 h (t6,t7) 6))
 ·exact ws (oV (zao (z:=(Val.mk (1:Int) (1:Int) ([]:(List UInt8)) ([]:(List Val)) (0:Int) ([]:(List Raw)))) e bu26 ze26 (.cons Val.f0 zdy e hI (.cons Val.f1 zcB e hI .nil))) (oT (tS ty26 e e p4 ⟨1,1,[],[],0,[]⟩ (rn (zbK (bn (ze (.cell e .here ty26 .nil) (a1 (a1 (a1 (a1 k0)))) (iS h ▸ ⟨t12,t13,e,e⟩))))))))
 refine om e (za h λy14 hy14 h=>oT (tC2 (zQ hy14) hT (s2 e e) k4 (λt15 t16=>an e (zd h e (λ_ h=>?_) (λ_ h=>ws (om e (za h λy17 hy17 h=>oT (tC2 (zQ hy17) hT (s2 e e) k4 (λt18 t19=>an e (zd h e (λ_ h=>?_) (λ_ h=>ws (oV (vI e GTok.f0 zdz y5.1.kind) (oV (zb ty3 e) (oV (zP e e) (an e (zd h e (λ_ h=>?_) (λ_ h=>ws (oV (vI e GTok.f0 zdz y5.1.kind) (oV (zb ty3 e) (oV (zP e e) (an e (zd h e (λ_ h=>?_) (λ_ h=>ws (oV (vI e GTok.f0 zdz y5.1.kind) (oV (zb ty3 e) (oV (zP e e) (an e (zd h e (λ_ h=>?_) (λ_ h=>ws ?_)))))))))))))))))))))))))))))
 ·exact ws (oV (zao (z:=(Val.mk (1:Int) (0:Int) ([]:(List UInt8)) ([]:(List Val)) (0:Int) ([]:(List Raw)))) e bu26 ze26 (.cons Val.f0 zdy e hI .nil)) (oT (tS ty26 e e p4 ⟨1,0,[],[],0,[]⟩ (rn (zbK (bn (ze (.cell e .here ty26 .nil) (a1 (a1 (a1 (a1 k0)))) (iS h ▸ ⟨t15,t16,e,e⟩))))))))
 ·exact ws (oV (zao (z:=(Val.mk (4:Int) (0:Int) ([]:(List UInt8)) ([]:(List Val)) (0:Int) ([]:(List Raw)))) e bu26 ze26 (.cons Val.f0 zdy e hI .nil)) (oT (tS ty26 e e p4 ⟨4,0,[],[],0,[]⟩ (rn (zbK (bn (ze (.cell e .here ty26 .nil) (a1 (a1 (a1 (a1 k0)))) (iS h ▸ ⟨t18,t19,e,e⟩))))))))
 ·exact ws (om e (za h λy20 hy20 h=>oT (tC2 (zc0 hy20) hT (s1 e) k4 (λt21 t22=>oV (zh8 GTok.f1 e zeM e) (za h λy23 hy23 h=>oT (tC (zmV hy23) hT (s1 e) k0 (oV (zao (z:=(Val.mk (2:Int) y23 ([]:(List UInt8)) ([]:(List Val)) (0:Int) ([]:(List Raw)))) e bu26 ze26 (.cons Val.f0 zdy e hI (.cons Val.f1 zcB e hI .nil))) (oT (tS ty26 e e p4 ⟨2,y23,[],[],0,[]⟩ (rn (zbK (bn (ze (.cell e .here ty26 .nil) (a1 (a1 (a1 (a1 k0)))) (iS h ▸ ⟨t21,t22,e,e⟩))))))))))))))
 ·exact ws (om e (za h λy24 hy24 h=>oT (tC2 (zc0 hy24) hT (s1 e) k4 (λt25 t26=>oV (zh8 GTok.f1 e zeM e) (zam h λq27 h=>oT (zuS Tryz.underlying9 Tryz.underlying22 Tryz.underlying5 e q27 (oV (zao (z:=(Val.mk (3:Int) (0:Int) y24.1.text.b ([]:(List Val)) (0:Int) ([]:(List Raw)))) e bu26 ze26 (.cons Val.f0 zdy e hI (.cons Val.f2 zdR e hI .nil))) (oT (tS ty26 e e p4 ⟨3,0,y24.1.text.b,[],0,[]⟩ (rn (zbK (bn (ze (.cell e .here ty26 .nil) (a1 (a1 (a1 (a1 k0)))) (iS h ▸ ⟨t25,t26,e,e⟩))))))))))))))
 ·exact ws (om e (za h λy28 hy28 h=>oT (tC2 (zc0 hy28) hT (s1 e) k4 (λt29 t30=>oV (zh8 GTok.f1 e zeM e) (za h λy31 hy31 h=>oT (tC (zsM hy31) hT (s1 e) k0 (oV (zao (z:=(Val.mk (5:Int) (0:Int) y31 ([]:(List Val)) (0:Int) ([]:(List Raw)))) e bu26 ze26 (.cons Val.f0 zdy e hI (.cons Val.f2 zdR e hI .nil))) (oT (tS ty26 e e p4 ⟨5,0,y31,[],0,[]⟩ (rn (zbK (bn (ze (.cell e .here ty26 .nil) (a1 (a1 (a1 (a1 k0)))) (iS h ▸ ⟨t29,t30,e,e⟩))))))))))))))
 refine oV (vI e GTok.f0 zdz y5.1.kind) (oV (zb ty3 e) (oV (zP e e) (an e (zd h e (λ_ h=>?_) (λ_ h=>zj (om e (oV (zb ty80 e) (za h λy36 hy36 h=>oT (tC2 (zcf hy36) hT (s3 e e e) k4 (λt37 t38=>rb (hJ10 h (t37,t38) 34)))))))))))
 exact ws (om e (za h λy32 hy32 h=>oT (tC2 (zc0 hy32) hT (s1 e) k4 (λt33 t34=>oV (zh8 GTok.f1 e zeM e) (zam h λq35 h=>oT (zuS Tryz.underlying9 Tryz.underlying22 Tryz.underlying5 e q35 (oV (zao (z:=(Val.mk (6:Int) (0:Int) y32.1.text.b ([]:(List Val)) (0:Int) ([]:(List Raw)))) e bu26 ze26 (.cons Val.f0 zdy e hI (.cons Val.f2 zdR e hI .nil))) (oT (tS ty26 e e p4 ⟨6,0,y32.1.text.b,[],0,[]⟩ (rn (zbK (bn (ze (.cell e .here ty26 .nil) (a1 (a1 (a1 (a1 k0)))) (iS h ▸ ⟨t33,t34,e,e⟩))))))))))))))

end Go.Proofs.Q


namespace Go.Proofs.Q
open Go.Sy
set_option maxRecDepth 4000
def zdp (f':GPar->GNode->Int->Int->Option (GPar × GNode)):Prop :=
 ∀ {a_x a_n_ zJ ze9 zY t_a_x1 t_a_x2 zV zdB t_a_n_4 t_a_n_5 r},f' a_x a_n_ zJ ze9=some r->Ctr Tryz.prog 181 [ptrv zY (Fld.id GParOT),ptrv zdB (Fld.id GNodeOT),isv zJ,isv ze9] [boxE zY (GParO a_x t_a_x1 t_a_x2 zV),tokE t_a_x1,tokE t_a_x2,vecE zV a_x.m.nodes,boxE zdB (GNodeO a_n_ t_a_n_4 t_a_n_5),tokE t_a_n_4,tokE t_a_n_5] (Pt5 (λ_ _ _ _ _=>[]) λu1 u2 u3 u4 u5=>[boxE zY (GParO r.1 u1 u2 u3),tokE u1,tokE u2,vecE u3 r.1.m.nodes,boxE zdB (GNodeO r.2 u4 u5),tokE u4,tokE u5])
def zdk (f':GPar->Int->Option (Int × GPar)):Prop :=
 ∀ {a_x zJ zY t_a_x1 t_a_x2 zV r},f' a_x zJ=some r->Ctr Tryz.prog 49 [ptrv zY (Fld.id GParOT),isv zJ] [boxE zY (GParO a_x t_a_x1 t_a_x2 zV),tokE t_a_x1,tokE t_a_x2,vecE zV a_x.m.nodes] (Pt3 (λ_ _ _=>[isv r.1]) λu1 u2 u3=>[boxE zY (GParO r.2 u1 u2 u3),tokE u1,tokE u2,vecE u3 r.2.m.nodes])
def zdK (f':GPar->GNode->Int->Option (GPar × GNode)):Prop :=
 ∀ {a_x a_n_ zJ zY t_a_x1 t_a_x2 zV zdB t_a_n_4 t_a_n_5 r},f' a_x a_n_ zJ=some r->Ctr Tryz.prog 95 [ptrv zY (Fld.id GParOT),ptrv zdB (Fld.id GNodeOT),isv zJ] [boxE zY (GParO a_x t_a_x1 t_a_x2 zV),tokE t_a_x1,tokE t_a_x2,vecE zV a_x.m.nodes,boxE zdB (GNodeO a_n_ t_a_n_4 t_a_n_5),tokE t_a_n_4,tokE t_a_n_5] (Pt5 (λ_ _ _ _ _=>[]) λu1 u2 u3 u4 u5=>[boxE zY (GParO r.1 u1 u2 u3),tokE u1,tokE u2,vecE u3 r.1.m.nodes,boxE zdB (GNodeO r.2 u4 u5),tokE u4,tokE u5])
def zc7 (f':GPar->GNode->Int->Option (GPar × GNode)):Prop :=
 ∀ {a_x a_n_ zJ zY t_a_x1 t_a_x2 zV zdB t_a_n_4 t_a_n_5 r},f' a_x a_n_ zJ=some r->Ctr Tryz.prog 148 [ptrv zY (Fld.id GParOT),ptrv zdB (Fld.id GNodeOT),isv zJ] [boxE zY (GParO a_x t_a_x1 t_a_x2 zV),tokE t_a_x1,tokE t_a_x2,vecE zV a_x.m.nodes,boxE zdB (GNodeO a_n_ t_a_n_4 t_a_n_5),tokE t_a_n_4,tokE t_a_n_5] (Pt5 (λ_ _ _ _ _=>[]) λu1 u2 u3 u4 u5=>[boxE zY (GParO r.1 u1 u2 u3),tokE u1,tokE u2,vecE u3 r.1.m.nodes,boxE zdB (GNodeO r.2 u4 u5),tokE u4,tokE u5])
theorem zkY {zaN za3 za0 zaz} (zd3:zdp zaN) (zeC:zdk za3) (zfc:zdK za0) (zc8:zc7 zaz):zdp (zd5 zaN za3 za0 zaz):=by
 intro a_x a_n_ zJ ze9 zY t_a_x1 t_a_x2 zV zdB t_a_n_4 t_a_n_5 r h
 unfold zd5 at h
 refine zi Tryz.func181 e λw0 S0 hT=>ws (om e (za h λy6 hy6 h=>oT (tC2 (zej hy6) hT (s2 e e) k4 (λt7 t8=>om e (oV (zao (z:=(GFld.mk y6.1 (0:Int) false false (Val.mk (0:Int) (0:Int) ([]:(List UInt8)) ([]:(List Val)) (0:Int) ([]:(List Raw))) ze9)) e bu137 ze137 (.cons GFld.f0 zkA e hI (.cons GFld.f5 zm6 e hI .nil))) (oT (zX _ ze137 λb9=>oT (tS ty137 e e p0 ⟨y6.1,0,false,false,⟨0,0,[],[],0,[]⟩,ze9⟩ (rn (ws (om e (om e (zy h λq10 h=>oV (zaa e e q10) (za h λy11 hy11 h=>oT (tC3 (zeC hy11) hT (s2 e e) (a1 (a1 (a1 (a1 k0)))) (λt12 t13 v14=>oV (zu e GFld.f1 zdH) (oT (tS ty3 e e p4 ⟨y6.1,y11.1,false,false,⟨0,0,[],[],0,[]⟩,ze9⟩ (rn (zF (jw h (Tok × Tok) (λq15 g15=>[]) (λq15 g15=>[boxE b9 (q15.1:GFld),boxE zY (GParO q15.2 g15.1 g15.2 v14),tokE g15.1,tokE g15.2,vecE v14 q15.2.m.nodes]) k5 (λq15 g15 h=>?_) λJ16 h hJ16=>zn (ws (om e (oV (zf e) (oV (zu e zea zdd) (oT (tL ty3 e (.there p4) a_n_.kind (oV (zP e e) (an e ?_)))))))))))))))))))))))))))))
 ·refine zc3 8 .here e (λo26 hn27=>zH (.v 0 (.v 1 (.v 2 (.v 3 (.v 5 (.alt 4 (.t 6 (.t 7 (.v 8 (.v 9 (.t 10 .nil))))) (.t 6 (.t 4 (.t 7 (.v 8 (.v 9 (.t 10 .nil)))))))))))) moOrd (by kernel_rfl) (rm e e (rm e e (zl e (zf e) (zl e (zu e ziR zfv) (zl e (vP ty137 e m0 q15.1) (zam h λq30 h=>zfr ?_ (rT e (zA (l:=([q15.1]:(List GFld))) el127 (.cons e hI .nil) e e (rT e (zaS (R:=appv t_a_n_5 a_n_.fields) ty127 e p4 isvT1 (rT e (zcj (l:=a_n_.fields) (m:=([q15.1]:(List GFld))) zmv e hI e zx (.there (.there (.there (.there (.there (.there .here)))))) q30 λt32=>zl e (zf e) (zl e (zu e ziR zfv) (rT e (tR ty127 e e isvT2 (.there p4) (GNodeO {a_n_ with fields:=(a_n_.fields ++ ([q15.1]:(List GFld)))} t_a_n_4 t32) e (zak (zaO 8 hn27 e (zaQ .nil (a3 (a3 (a3 (a3 (a1 (a2 (a1 k0))))))) (iS h ▸ ⟨g15.1,g15.2,v14,t_a_n_4,t32,e,e⟩))))))))))))))))))))
  exact rT e (zaS (R:=appv t_a_n_5 a_n_.fields) ty127 e p4 isvT1 (rT e (zA (l:=([q15.1]:(List GFld))) el127 (.cons e hI .nil) e e (rT e (zcj (l:=a_n_.fields) (m:=([q15.1]:(List GFld))) zmv e hI e zx (.there (.there (.there (.there (.there (.there .here)))))) q30 λt29=>zl e (zf e) (zl e (zu e ziR zfv) (rT e (tR ty127 e e isvT2 (.there p4) (GNodeO {a_n_ with fields:=(a_n_.fields ++ ([q15.1]:(List GFld)))} t_a_n_4 t29) e (zak (zaO 8 hn27 e (zaQ .nil (a3 (a3 (a3 (a3 (a1 (a2 (a1 k0))))))) (iS h ▸ ⟨g15.1,g15.2,v14,t_a_n_4,t29,e,e⟩))))))))))))
 refine zd h e (λ_ h=>?_) (λ_ h=>ws (om e (za h λy17 hy17 h=>oT (tC2 (zQ hy17) hT (s2 e e) (a1 (a1 (a1 (a1 k0)))) (λt18 t19=>an e (zd h e (λ_ h=>?_) (λ_ h=>ws (om e (za h λy20 hy20 h=>oT (tC2 (zQ hy20) hT (s2 e e) k4 (λt21 t22=>an e (zd h e (λ_ h=>?_) (λ_ h=>zC (zs (hJ16 h (t21,t22) 12)))))))))))))))
 ·exact zC (zs (hJ16 h (t12,t13) 6))
 ·exact zj (oV (zu e GFld.f2 zna) (oT (tS ty4 e e p4 ⟨y6.1,y11.1,true,false,⟨0,0,[],[],0,[]⟩,ze9⟩ (rb (hJ16 h (t18,t19) 10)))))
 exact zj (om e (za h λy23 hy23 h=>oT (tC2 (zli hy23) hT (s1 e) k4 (λt24 t25=>oV (zu e GFld.f3 zji) (oT (tS ty4 e e p4 ⟨y6.1,y11.1,false,true,⟨0,0,[],[],0,[]⟩,ze9⟩ (oV (zu e GFld.f4 zl3) (oT (tS ty26 e e p0 ⟨y6.1,y11.1,false,true,y23.1,ze9⟩ (rb (hJ16 h (t24,t25) 16)))))))))))

theorem zmh {zaN za3 za0 zaz} (zd3:zdp zaN) (zeC:zdk za3) (zfc:zdK za0) (zc8:zc7 zaz):zdk (zev zaN za3 za0 zaz):=by
 intro a_x zJ zY t_a_x1 t_a_x2 zV r h
 unfold zev at h
 refine zi Tryz.func49 e λw0 S0 hT=>ws (an e (ss (om e (oV (zf e) (oV (zu e zcF zd8) (oT (tL ty38 e p0 a_x.e (oV (zbz e e) (rn (zd h e (λ_ h=>?_) (λ_ h=>wk (ss (om e (za h λy4 hy4 h=>oT (tC2 (zbs hy4) hT (s1 e) k4 (λt5 t6=>za h λy7 hy7 h=>oT (tC (zpw hy7) hT (s1 e) k0 (oV (za2 e) (rn (zd h e (λ_ h=>?_) (λ_ h=>wk (ss (om e (oV (zcy e e) (om e (jO 8 32 h (λq14 h=>?_) λJ15 h hJ15=>oI h (λg16 h=>?_) λg16 h=>oG g16 (zm e) (oG g16 (zf e) ?_)))))))))))))))))))))))))))
 ·exact ws (ar e (zD (ze (r1 e) k4 (iS h ▸ ⟨t_a_x1,t_a_x2,zV,e,e⟩))))
 ·exact ws (om e (om e (za h λy8 hy8 h=>oT (tC2 (zbs hy8) hT (s1 e) k4 (λt9 t10=>za h λy11 hy11 h=>oT (tC2 (zcf hy11) hT (s3 e e e) k4 (λt12 t13=>rn (ws (ar e (zD (ze (r1 e) k4 (iS h ▸ ⟨t12,t13,zV,e,e⟩))))))))))))
 ·refine rn (zd h e (λ_ h=>?_) (λ_ h=>wk (ws (om e (oV (zf e) (oV (zu e zdF zfb) (oV (zu e zke zjg) (oT (zaS (R:=vecv zV (y4.2.m.nodes.length)) ty55 e p0 isvV1 (oV (zhZ sl55 e) (an e (ws (om e (om e (oV (zf e) (oV (zu e zdF zfb) (oV (zu e zke zjg) (oT (zaS (R:=vecv zV (y4.2.m.nodes.length)) ty55 e p0 isvV1 (oV (zao (z:=(GNode.mk (0:Int) (Str.mk []) (GMark.mk false (0:Int) (0:Int)) (GCon.mk false false false false (0:Int) (0:Int)) ([]:(List GItem)) ([]:(List GFld)) (0:Int) false (0:Int))) e bu174 ze174 .nil) (oT (zA (l:=([(GNode.mk (0:Int) (Str.mk []) (GMark.mk false (0:Int) (0:Int)) (GCon.mk false false false false (0:Int) (0:Int)) ([]:(List GItem)) ([]:(List GFld)) (0:Int) false (0:Int))]:(List GNode))) el55 (.cons e hI .nil) e e (zam h λq25 h=>oT (zjs (m:=([(GNode.mk (0:Int) (Str.mk []) (GMark.mk false (0:Int) (0:Int)) (GCon.mk false false false false (0:Int) (0:Int)) ([]:(List GItem)) ([]:(List GFld)) (0:Int) false (0:Int))]:(List GNode))) zvw e e zx (.there (.there (.there .here))) (by first | rfl | simp) q25 λv24=>oV (zf e) (oV (zu e zdF zfb) (oV (zu e zke zjg) (oT (tR ty55 e e isvV2 p1 (GParO {y4.2 with m:={y4.2.m with nodes:=(y4.2.m.nodes ++ ([⟨0,⟨[]⟩,⟨false,0,0⟩,⟨false,false,false,false,0,0⟩,[],[],0,false,0⟩]:(List GNode)))}} t5 t6 v24) e (rn (ws (oV (zao (z:=(((0:Int),(Str.mk []),(GMark.mk false (0:Int) (0:Int)),(GCon.mk false false false false (0:Int) (0:Int)),(TList.mk none ([]:(List GItem))),(TList.mk none ([]:(List GFld))),(0:Int),false,(0:Int)):GNodeOT)) e bu174 zr0 .nil) (oT (zX _ zr0 λb26=>?_)))))))))))))))))))))))))))))))))
  ·exact ws (om e (om e (za h λy17 hy17 h=>oT (tC2 (zbs hy17) hT (s1 e) k4 (λt18 t19=>za h λy20 hy20 h=>oT (tC2 (zcf hy20) hT (s3 e e e) k4 (λt21 t22=>rn (ws (ar e (zD (ze (r1 e) k4 (iS h ▸ ⟨t21,t22,zV,e,e⟩))))))))))))
  refine zah (zbC) (zah (zbC) (zah (zbC) (zah (zbC) (oT (tS ty174 e e p4 (0,⟨[]⟩,⟨false,0,0⟩,⟨false,false,false,false,0,0⟩,⟨none,[]⟩,⟨none,[]⟩,0,false,0) (rn (ss (om e (za h λy31 hy31 h=>oT (tC2 (zQ hy31) hT (s2 e e) (.cons (.there p4) (.cons (.there (.there p4)) (.cons (.there (.there p4)) (.cons (.there p4) k0)))) (λt32 t33=>rn (jw h (Tok × Tok × Tok × Tok) (λq34 g34=>[]) (λq34 g34=>[boxE zY (GParO q34.1 g34.1 g34.2.1 v24),tokE g34.1,tokE g34.2.1,vecE v24 q34.1.m.nodes,boxE b26 (GNodeO q34.2 g34.2.2.1 g34.2.2.2),tokE g34.2.2.1,tokE g34.2.2.2]) (a0 (a3 k5)) (λq34 g34 h=>?_) λJ35 h hJ35=>zd h e (λ_ h=>?_) (λ_ h=>zC (hJ35 h (t32,t33,none,none) 0))))))))))))))
  ·refine ws (om e (om e (za h λy63 hy63 h=>oT (tC5 (zfc hy63) hT (s3 e e e) k7 (λt64 t65 v66 t67 t68=>rn (ss (om e (oV (zf e) (oV (zu e zcF zd8) (oT (tL ty38 e p0 y63.1.e (oV (zbz e e) (rn (zd h e (λ_ h=>?_) (λ_ h=>wk (zF (zc3 6 (.there (.there (.there (.there .here)))) e (λo69 hn70=>zc3 0 .here e (λo71 hn72=>zH (.v 0 (.v 1 (.v 2 (.v 3 (.v 4 (.v 5 (.v 6 (.v 7 (.t 8 .nil))))))))) moOrd (by kernel_rfl) (rm e e (zl e (zat e) (zl e (zdM e zdF zfb) (zl e (zdM e zke zjg) (zl e (zse (R:=vecv v66 (y63.1.m.nodes.length)) ty55 e m0 isvV1) (rm e e (zl e (vP ty174 e m1 (GNodeO y63.2 t67 t68)) (ze2 (zcp (R':=isv y63.2) 105 e (Cv.isv e λS=>(λcs h=>GNode.cv (x:=y63.2) cs (((Cv.pair Cv.id (Cv.pair Cv.id (Cv.pair Cv.id (Cv.pair Cv.id (Cv.pair Cv.tl (Cv.pair Cv.tl (Cv.pair Cv.id (Cv.pair Cv.id Cv.id)))))))):Cv S (GNodeO y63.2 t67 t68) (GNode.to y63.2)) cs h)))) (zaj h λq73 h=>zl e (zdw (α:=GNode) sl55 e e q73.1 q73.2) (za h λy74 hy74 h=>?_)))))))))))))))))))))))))))))
   ·exact ws (ar e (zD (ze (r1 e) k4 (iS h ▸ ⟨t64,t65,v66,e,e⟩))))
   exact rT e (zeu ty174 e e (.there (.there .here)) hy74 (zak (zaO 0 hn72 e (zuF (zfS (y:=(GParO {y63.1 with m:={y63.1.m with nodes:=(y63.1.m.nodes.set (((y4.2.m.nodes.length:Nat):Int).toNat) y63.2)}} t64 t65 v66)) .here (λS=>(Cv.pair Cv.id (Cv.pair Cv.id (Cv.pair (Cv.pair Cv.id (Cv.pair Cv.id (Cv.pair Cv.id (Cv.pair Cv.id (Cv.vhe (by first | rfl | simp)))))) (Cv.pair Cv.id Cv.id)))))) (zaO 6 hn70 e (zp (ws (om e (ar e (ze (r1 e) (a1 (a2 (a2 (a1 k0)))) (iS h ▸ ⟨t64,t65,v66,e,e⟩)))))))))))
  refine ws (om e (za h λy36 hy36 h=>oT (tC2 (zbs hy36) hT (s1 e) k4 (λt37 t38=>oT (zX _ ze80 λb39=>oT (tS ty80 e e p0 y36.1 (zah (zaJ 7 .here e) (rn (ws (om e (za h λy40 hy40 h=>oT (tC2 (zes hy40) hT (s1 e) k4 (λt41 t42=>an e (ss (om e (oV (zf e) (oV (zu e zcF zd8) (oT (tL ty38 e p0 y40.2.e (oV (zP e e) (om e (jO 7 74 h (λq43 h=>?_) λJ44 h hJ44=>oI h (λg45 h=>?_) λg45 h=>oN g45 (oN g45 (oN g45 (oU (oU (oN g45 (oV (zg e g45 e) (hJ44 h 7)))))))))))))))))))))))))))))
  ·refine rn (jw h (Tok × Tok) (λq49 g49=>[]) (λq49 g49=>[boxE zY (GParO q49 g49.1 g49.2 v24),tokE g49.1,tokE g49.2,vecE v24 q49.m.nodes]) k4 (λq49 g49 h=>?_) λJ50 h hJ50=>zd h e (λ_ h=>?_) (λ_ h=>zC (hJ50 h (t41,t42) 0)))
   ·refine ws (om e (za h λy54 hy54 h=>oT (tC2 (zap hy54) hT (s2 e e) k4 (λt55 t56=>rn (ws (om e (oV (zao (z:=(GMark.mk true y40.1 (0:Int))) e bu172 ze172 (.cons GMark.f0 zpS e hI (.cons GMark.f1 zr7 e hI .nil))) (oV (zu e zmx zih) (oT (tS ty172 e e p4 (0,⟨[]⟩,⟨true,y40.1,0⟩,⟨false,false,false,false,0,0⟩,⟨none,[]⟩,⟨none,[]⟩,0,false,0) (rn (ws (om e (za h λy57 hy57 h=>oT (tC2 (zQ hy57) hT (s2 e e) (a1 (a1 (a1 (a1 k0)))) (λt58 t59=>rn (zd h e (λ_ h=>?_) (λ_ h=>ws (om e (za h λy60 hy60 h=>oT (tC2 (zQ hy60) hT (s2 e e) k4 (λt61 t62=>rn (zd h e (λ_ h=>?_) (λ_ h=>zC (hJ35 h (t61,t62,none,none) 23)))))))))))))))))))))))))
    ·exact zj (oV (zu e zmx zih) (oV (zu e GMark.f2 zni) (oT (tS ty3 e e p4 (0,⟨[]⟩,⟨true,y40.1,1⟩,⟨false,false,false,false,0,0⟩,⟨none,[]⟩,⟨none,[]⟩,0,false,0) (zN (hJ35 h (t58,t59,none,none) 23))))))
    exact zj (oV (zu e zmx zih) (oV (zu e GMark.f2 zni) (oT (tS ty3 e e p4 (0,⟨[]⟩,⟨true,y40.1,2⟩,⟨false,false,false,false,0,0⟩,⟨none,[]⟩,⟨none,[]⟩,0,false,0) (zN (hJ35 h (t61,t62,none,none) 25))))))
   exact zj (om e (oV (zb ty80 e) (za h λy51 hy51 h=>oT (tC2 (zcf hy51) hT (s3 e e e) k4 (λt52 t53=>zN (hJ50 h (t52,t53) 3))))))
  refine oG g45 (zm e) (oG g45 (zau e e) (oG g45 (zm e) (jO 3 73 h (λq46 h=>?_) λJ47 h hJ47=>oI h (λg48 h=>?_) λg48 h=>oG g48 (zm e) (oG g48 (zcy e e) (oG g45 (zg e g48 e) (hJ47 h 3))))))
  ·exact oV (zh e g45 e) (hJ44 h 5)
  exact oN g48 (oN g48 (oG g45 (zh e g48 e) (hJ47 h 3)))
 ·exact oN g16 (oN g16 (oN g16 (oN g16 (oN g16 (oN g16 (oN g16 (oV (zh e g16 e) (hJ15 h 8))))))))
 exact oG g16 (zu e zdF zfb) (oG g16 (zu e zke zjg) (oH g16 (zaS (R:=vecv zV (y4.2.m.nodes.length)) ty55 e p0 isvV1 (oG g16 (zhZ sl55 e) (oG g16 (zdT e e) (oV (zg e g16 e) (hJ15 h 8)))))))

theorem zlf {zaN za3 za0 zaz} (zd3:zdp zaN) (zeC:zdk za3) (zfc:zdK za0) (zc8:zc7 zaz):zdK (zei zaN za3 za0 zaz):=by
 intro a_x a_n_ zJ zY t_a_x1 t_a_x2 zV zdB t_a_n_4 t_a_n_5 r h
 unfold zei at h
 refine zi Tryz.func95 e λw0 S0 hT=>ws (om e (za h λy6 hy6 h=>oT (tC2 (zbs hy6) hT (s1 e) k4 (λt7 t8=>oT (zX _ ze80 λb9=>oT (tS ty80 e e p0 y6.1 (zah (zaJ 6 .here e) (rn (zn (ws (om e (oV (zf e) (oV (zu e zcF zd8) (oT (tL ty38 e p0 y6.2.e (oV (zbz e e) (an e (zd h e (λ_ h=>?_) (λ_ h=>ws (om e (za h λy10 hy10 h=>oT (tC2 (zQ hy10) hT (s2 e e) k4 (λt11 t12=>an e (zd h e (λ_ h=>?_) (λ_ h=>ws (om e (za h λy13 hy13 h=>oT (tC2 (zQ hy13) hT (s2 e e) k4 (λt14 t15=>an e (zd h e (λ_ h=>?_) (λ_ h=>?_)))))))))))))))))))))))))))))))
 ·exact zC (zs (zaQ .nil k7 (iS h ▸ ⟨t7,t8,zV,t_a_n_4,t_a_n_5,e,e⟩)))
 ·exact zj (om e (oV (zf e) (oV (zu e zea zdd) (oT (tS ty3 e e p4 (GNodeO {a_n_ with kind:=1} t_a_n_4 t_a_n_5) (rb (zaQ .nil (a1 (a1 (a1 (a1 k3)))) (iS h ▸ ⟨t11,t12,zV,t_a_n_4,t_a_n_5,e,e⟩))))))))
 ·exact zj (om e (oV (zf e) (oV (zu e zea zdd) (oT (tS ty3 e e p4 (GNodeO {a_n_ with kind:=4} t_a_n_4 t_a_n_5) (rb (zaQ .nil (a1 (a1 (a1 (a1 k3)))) (iS h ▸ ⟨t14,t15,zV,t_a_n_4,t_a_n_5,e,e⟩))))))))
 refine ws (om e (za h λy16 hy16 h=>oT (tC2 (zQ hy16) hT (s2 e e) k4 (λt17 t18=>an e (zd h e (λ_ h=>?_) (λ_ h=>ws (om e (za h λy22 hy22 h=>oT (tC2 (zQ hy22) hT (s2 e e) k4 (λt23 t24=>an e (zd h e (λ_ h=>?_) (λ_ h=>ws (om e (za h λy34 hy34 h=>oT (tC2 (zQ hy34) hT (s2 e e) k4 (λt35 t36=>an e (zd h e (λ_ h=>?_) (λ_ h=>ws (om e (za h λy43 hy43 h=>oT (tC2 (zQ hy43) hT (s2 e e) k4 (λt44 t45=>an e (zd h e (λ_ h=>?_) (λ_ h=>ws (om e (za h λy57 hy57 h=>oT (tC2 (zQ hy57) hT (s2 e e) k4 (λt58 t59=>an e (zd h e (λ_ h=>?_) (λ_ h=>?_))))))))))))))))))))))))))))))
 ·exact ws (om e (oV (zf e) (oV (zu e zea zdd) (oT (tS ty3 e e p4 (GNodeO {a_n_ with kind:=6} t_a_n_4 t_a_n_5) (rn (zj (om e (om e (za h λy19 hy19 h=>oT (tC2 (zgi hy19) hT (s1 e) (a1 (a1 (a1 (a1 k0)))) (λt20 t21=>oV (zf e) (oV (zu e zkQ zkG) (oT (tS ty125 e e p4 (GNodeO {a_n_ with kind:=6,con:=y19.1} t_a_n_4 t_a_n_5) (rb (zaQ .nil (a1 (a1 (a1 (a1 k3)))) (iS h ▸ ⟨t20,t21,zV,t_a_n_4,t_a_n_5,e,e⟩))))))))))))))))))
 ·refine ws (om e (oV (zf e) (oV (zu e zea zdd) (oT (tS ty3 e e p4 (GNodeO {a_n_ with kind:=2} t_a_n_4 t_a_n_5) (rn (ws (om e (za h λy25 hy25 h=>oT (tC2 (zQ hy25) hT (s2 e e) (a1 (a1 (a1 (a1 k0)))) (λt26 t27=>rn (zd h e (λ_ h=>?_) (λ_ h=>zC (zs (zaQ .nil k7 (iS h ▸ ⟨t26,t27,zV,t_a_n_4,t_a_n_5,e,e⟩))))))))))))))))
  exact ws (om e (om e (za h λy28 hy28 h=>oT (tC2 (zht hy28) hT (s1 e) k4 (λt29 t30=>oV (zf e) (oV (zu e zkQ zkG) (oT (tS ty125 e e p4 (GNodeO {a_n_ with kind:=2,con:=y28.1} t_a_n_4 t_a_n_5) (rn (zj (om e (za h λy31 hy31 h=>oT (tC2 (zap hy31) hT (s2 e e) (a1 (a1 (a1 (a1 k0)))) (λt32 t33=>rb (zaQ .nil k7 (iS h ▸ ⟨t32,t33,zV,t_a_n_4,t_a_n_5,e,e⟩))))))))))))))))
 ·exact ws (om e (za h λy37 hy37 h=>oT (tC2 (zap hy37) hT (s2 e e) k4 (λt38 t39=>rn (ws (om e (oV (zf e) (oV (zu e zea zdd) (oT (tS ty3 e e p4 (GNodeO {a_n_ with kind:=5} t_a_n_4 t_a_n_5) (rn (zj (om e (om e (za h λy40 hy40 h=>oT (tC2 (zgi hy40) hT (s1 e) (a1 (a1 (a1 (a1 k0)))) (λt41 t42=>oV (zf e) (oV (zu e zkQ zkG) (oT (tS ty125 e e p4 (GNodeO {a_n_ with kind:=5,con:=y40.1} t_a_n_4 t_a_n_5) (rb (zaQ .nil (a1 (a1 (a1 (a1 k3)))) (iS h ▸ ⟨t41,t42,zV,t_a_n_4,t_a_n_5,e,e⟩)))))))))))))))))))))))
 ·exact ws (om e (oV (zf e) (oV (zu e zea zdd) (oT (tS ty3 e e p4 (GNodeO {a_n_ with kind:=3} t_a_n_4 t_a_n_5) (rn (ws (om e (za h λy46 hy46 h=>oT (tC2 (zap hy46) hT (s2 e e) (a1 (a1 (a1 (a1 k0)))) (λt47 t48=>rn (ws (om e (om e (za h λy49 hy49 h=>oT (tC4 (zls hy49) hT (s2 e e) k7 (λt50 t51 t52 t53=>rn (zj (om e (za h λy54 hy54 h=>oT (tC2 (zap hy54) hT (s2 e e) k4 (λt55 t56=>rb (zaQ .nil k7 (iS h ▸ ⟨t55,t56,zV,t52,t53,e,e⟩))))))))))))))))))))))))
 ·exact ws (om e (oV (zf e) (oV (zu e zea zdd) (oT (tS ty3 e e p4 (GNodeO {a_n_ with kind:=8} t_a_n_4 t_a_n_5) (rn (ws (om e (za h λy60 hy60 h=>oT (tC2 (zap hy60) hT (s2 e e) (a1 (a1 (a1 (a1 k0)))) (λt61 t62=>rn (zj (om e (om e (om e (za h λy63 hy63 h=>oT (tC5 (zc8 hy63) hT (s3 e e e) k7 (λt64 t65 v66 t67 t68=>rb (zaQ .nil k7 (iS h ▸ ⟨t64,t65,v66,t67,t68,e,e⟩))))))))))))))))))))
 refine ws (om e (za h λy69 hy69 h=>oT (tC2 (zQ hy69) hT (s2 e e) k4 (λt70 t71=>an e (zd h e (λ_ h=>?_) (λ_ h=>ws (om e (za h λy81 hy81 h=>oT (tC2 (zQ hy81) hT (s2 e e) k4 (λt82 t83=>an e (zd h e (λ_ h=>?_) (λ_ h=>ws (oV (vI e GTok.f0 zdz y6.1.kind) (oV (zb ty3 e) (oV (zP e e) (an e (zd h e (λ_ h=>?_) (λ_ h=>zj (om e (oV (zb ty80 e) (za h λy107 hy107 h=>oT (tC2 (zcf hy107) hT (s3 e e e) k4 (λt108 t109=>rb (zaQ .nil k7 (iS h ▸ ⟨t108,t109,zV,t_a_n_4,t_a_n_5,e,e⟩)))))))))))))))))))))))))
 ·exact ws (om e (oV (zf e) (oV (zu e zea zdd) (oT (tS ty3 e e p4 (GNodeO {a_n_ with kind:=9} t_a_n_4 t_a_n_5) (rn (ws (om e (za h λy72 hy72 h=>oT (tC2 (zap hy72) hT (s2 e e) (a1 (a1 (a1 (a1 k0)))) (λt73 t74=>rn (zj (om e (om e (om e (za h λy75 hy75 h=>oT (tC5 (zc8 hy75) hT (s3 e e e) k7 (λt76 t77 v78 t79 t80=>rb (zaQ .nil k7 (iS h ▸ ⟨t76,t77,v78,t79,t80,e,e⟩))))))))))))))))))))
 ·refine ss (om e (za h λy84 hy84 h=>oT (tC2 (zQ hy84) hT (s2 e e) k4 (λt85 t86=>rn (zd h e (λ_ h=>?_) (λ_ h=>wk (ws (om e (oV (zf e) (oV (zu e zea zdd) (oT (tS ty3 e e p4 (GNodeO {a_n_ with kind:=10} t_a_n_4 t_a_n_5) (rn (ws (om e (om e (za h λy93 hy93 h=>oT (tC2 (zgi hy93) hT (s1 e) (a1 (a1 (a1 (a1 k0)))) (λt94 t95=>oV (zf e) (oV (zu e zkQ zkG) (oT (tS ty125 e e p4 (GNodeO {a_n_ with kind:=10,con:=y93.1} t_a_n_4 t_a_n_5) (rn (ws (om e (za h λy96 hy96 h=>oT (tC2 (zap hy96) hT (s2 e e) (a1 (a1 (a1 (a1 k0)))) (λt97 t98=>rn (zj (om e (om e ?_)))))))))))))))))))))))))))))))
  ·exact ws (om e (oV (zf e) (oV (zu e zea zdd) (oT (tS ty3 e e p4 (GNodeO {a_n_ with kind:=7} t_a_n_4 t_a_n_5) (rn (ws (om e (om e (om e (za h λy87 hy87 h=>oT (tC5 (zc8 hy87) hT (s3 e e e) (a1 (a1 (a1 (a1 k3)))) (λt88 t89 v90 t91 t92=>rn (zbK (zD (za8 (ze .nil k7 (iS h ▸ ⟨t88,t89,v90,t91,t92,e,e⟩))))))))))))))))))
  exact om e (zy h λq99 h=>oV (zaa e e q99) (za h λy100 hy100 h=>oT (tC3 (zeC hy100) hT (s2 e e) k4 (λt101 t102 v103=>oV (zf e) (oV (zu e ztb zpx) (oT (tS ty3 e e p4 (GNodeO {a_n_ with kind:=10,con:=y93.1,of:=y100.1} t_a_n_4 t_a_n_5) (rb (zaQ .nil (a1 (a1 (a1 (a1 k3)))) (iS h ▸ ⟨t101,t102,v103,t_a_n_4,t_a_n_5,e,e⟩))))))))))
 exact zF (zH (.v 0 (.v 1 (.v 2 (.v 3 (.v 4 (.v 5 (.t 6 (.v 7 (.v 8 (.t 9 .nil)))))))))) moOrd (by kernel_rfl) (rm e e (rm e e (zl e (vI e GTok.f1 zeM y6.1.text) (zl e (zb ty9 e) (zl e (zf e) (zl e (zu e zea zdd) (rT e (tS ty3 e e p4 (GNodeO {a_n_ with kind:=11} t_a_n_4 t_a_n_5) (zl e (zf e) (zl e (zu e zsp zpf) (rT e (tS ty9 e e p0 (GNodeO {a_n_ with kind:=11,name:=y6.1.text} t_a_n_4 t_a_n_5) (zak (zp (zj (om e (za h λy104 hy104 h=>oT (tC2 (zc0 hy104) hT (s1 e) (a1 (a1 (a1 (a1 k0)))) (λt105 t106=>rb (zaQ .nil k7 (iS h ▸ ⟨t105,t106,zV,t_a_n_4,t_a_n_5,e,e⟩))))))))))))))))))))))

theorem zjV {zaN za3 za0 zaz} (zd3:zdp zaN) (zeC:zdk za3) (zfc:zdK za0) (zc8:zc7 zaz):zc7 (zdP zaN za3 za0 zaz):=by
 intro a_x a_n_ zJ zY t_a_x1 t_a_x2 zV zdB t_a_n_4 t_a_n_5 r h
 unfold zdP at h
 refine zi Tryz.func148 e λw0 S0 hT=>ss (om e (za h λy6 hy6 h=>oT (tC2 (zQ hy6) hT (s2 e e) k4 (λt7 t8=>rn (zd h e (λ_ h=>?_) (λ_ h=>wk (ws (an e (zF (jw h (Tok × Tok × Vt × Tok × Tok) (λq9 g9=>[(6,anyv)]) (λq9 g9=>[boxE zY (GParO q9.1 g9.1 g9.2.1 g9.2.2.1),tokE g9.1,tokE g9.2.1,vecE g9.2.2.1 (q9.1.m.nodes:List GNode),boxE zdB (GNodeO q9.2 g9.2.2.2.1 g9.2.2.2.2),tokE g9.2.2.2.1,tokE g9.2.2.2.2]) (a0 (a3 k5)) (λq9 g9 h=>?_) λJ10 h hJ10=>zn (lP h (Tok × Tok × Vt × Tok × Tok) (t7,t8,zV,t_a_n_4,t_a_n_5) (λq11 g11=>[(6,isv q11.1)]) (λq11 g11=>[boxE zY (GParO q11.2.1 g11.1 g11.2.1 g11.2.2.1),tokE g11.1,tokE g11.2.1,vecE g11.2.2.1 (q11.2.1.m.nodes:List GNode),boxE zdB (GNodeO q11.2.2 g11.2.2.2.1 g11.2.2.2.2),tokE g11.2.2.2.1,tokE g11.2.2.2.2]) (zB (j:=6) e hI zay) k7 λL12 q11 g11 Q113 h hL12 eL12 rL12=>ss (om e (oV (zf e) (oV (zu e zcF zd8) (oT (tL ty38 e p0 q11.2.1.e (oV (zP e e) (rn (zd h e (λ_ h=>?_) (λ_ h=>xn (eL12 _ _ (zw (hJ10 h (g11.1,g11.2.1,g11.2.2.1,g11.2.2.2.1,g11.2.2.2.2) 6)))))))))))))))))))))))
 ·exact zbK (zD (ze .nil k7 (iS h ▸ ⟨t7,t8,zV,t_a_n_4,t_a_n_5,e,e⟩)))
 ·refine ws (om e (za h λy114 hy114 h=>oT (tC2 (zap hy114) hT (s2 e e) k4 (λt115 t116=>rn (ws (om e (oV (zf e) (oV (zu e zgY zhA) (oT (tL ty4 e p4 q9.2.more (oV (za2 e) (rn (zd h e (λ_ h=>?_) (λ_ h=>zC (zaQ .nil k7 (iS h ▸ ⟨t115,t116,g9.2.2.1,g9.2.2.2.1,g9.2.2.2.2,e,e⟩))))))))))))))))
  exact zj (om e (om e (oV (zf e) (oV (zu e ziR zfv) (oT (zaS (R:=appv g9.2.2.2.2 q9.2.fields) ty127 e p4 isvT1 (oV (zlX (l:=q9.2.fields) e zx sl127) (oV (zf e) (oV (zu e zkE zid) (oT (tS ty3 e e p4 (GNodeO {q9.2 with root:=(q9.2.fields.length:Int)} g9.2.2.2.1 g9.2.2.2.2) (zN (zaQ .nil (a1 (a1 (a1 (a1 k3)))) (iS h ▸ ⟨t115,t116,g9.2.2.1,g9.2.2.2.1,g9.2.2.2.2,e,e⟩))))))))))))))
 refine wk (zn (zF (jw h (Tok × Tok × Vt × Tok × Tok) (λq63 g63=>[(6,isv q63.1)]) (λq63 g63=>[boxE zY (GParO q63.2.1 g63.1 g63.2.1 g63.2.2.1),tokE g63.1,tokE g63.2.1,vecE g63.2.2.1 (q63.2.1.m.nodes:List GNode),boxE zdB (GNodeO q63.2.2 g63.2.2.2.1 g63.2.2.2.2),tokE g63.2.2.2.1,tokE g63.2.2.2.2]) (a0 (a3 k5)) (λq63 g63 h=>?_) λJ64 h hJ64=>zn (ws (om e (oV (zf e) (oV (zu e zgY zhA) (oT (tL ty4 e p4 q11.2.2.more (oV (za2 e) (om e (jo 3 h (Tok × Tok) (λq65 g65=>[(27,isv q65.1)]) (λq65 g65=>[boxE zY (GParO q65.2 g65.1 g65.2 g11.2.2.1),tokE g65.1,tokE g65.2,vecE g11.2.2.1 (q65.2.m.nodes:List GNode)]) k4 (λq65 g65 h=>?_) λJ66 h hJ66=>oI h (λg67 h=>?_) λg67 h=>oN g67 (oN g67 (oV (zg e g67 e) (hJ66 h (g11.1,g11.2.1) 3)))))))))))))))
 ·refine ws (om e (za h λy110 hy110 h=>oT (tC2 (zQ hy110) hT (s2 e e) k4 (λt111 t112=>oV (za2 e) (rn (zd h e (λ_ h=>?_) (λ_ h=>zC (zs (hL12 h (t111,t112,g63.2.2.1,g63.2.2.2.1,g63.2.2.2.2) 10)))))))))
  exact zmo (ziT e (eL12 _ _ (zw (hJ10 h (t111,t112,g63.2.2.1,g63.2.2.2.1,g63.2.2.2.2) 10))))
 ·refine an e (zd h e (λ_ h=>?_) (λ_ h=>ws (om e (oV (zf e) (oV (zu e zgY zhA) (oT (tL ty4 e p4 q11.2.2.more (om e (jo 3 h (Tok × Tok) (λq71 g71=>[(47,isv q71.1)]) (λq71 g71=>[boxE zY (GParO q71.2 g71.1 g71.2 g11.2.2.1),tokE g71.1,tokE g71.2,vecE g11.2.2.1 (q71.2.m.nodes:List GNode)]) k4 (λq71 g71 h=>?_) λJ72 h hJ72=>oI h (λg73 h=>?_) λg73 h=>oN g73 (oN g73 (oV (zg e g73 e) (hJ72 h (g65.1,g65.2) 3))))))))))))
  ·exact zj (om e (om e (om e (oV (zf e) (oV (zu e ziR zfv) (oT (zaS (R:=appv g11.2.2.2.2 q11.2.2.fields) ty127 e p4 isvT1 (oV (zlX (l:=q11.2.2.fields) e zx sl127) (oV (zf e) (oV (zu e zgY zhA) (oT (tS ty4 e e p4 (GNodeO {q11.2.2 with more:=true} g11.2.2.2.1 g11.2.2.2.2) (oV (zf e) (oV (zu e zkE zid) (oT (tS ty3 e e p0 (GNodeO {q11.2.2 with root:=(q11.2.2.fields.length:Int),more:=true} g11.2.2.2.1 g11.2.2.2.2) (rb (hJ64 h (g65.1,g65.2,g11.2.2.1,g11.2.2.2.1,g11.2.2.2.2) 19))))))))))))))))))
  ·refine an e (zd h e (λ_ h=>?_) (λ_ h=>zj (om e (om e (om e (za h λy104 hy104 h=>oT (tC5 (zd3 hy104) hT (s4 e e e e) k7 (λt105 t106 v107 t108 t109=>rb (hJ64 h (t105,t106,v107,t108,t109) 19)))))))))
   refine ws (om e (zy h λq77 h=>oV (zaa e e q77) (an e (zF (jw h (Tok × Tok × Vt × Tok × Tok) (λq78 g78=>[]) (λq78 g78=>[boxE zY (GParO q78.1 g78.1 g78.2.1 g78.2.2.1),tokE g78.1,tokE g78.2.1,vecE g78.2.2.1 (q78.1.m.nodes:List GNode),boxE zdB (GNodeO q78.2 g78.2.2.2.1 g78.2.2.2.2),tokE g78.2.2.2.1,tokE g78.2.2.2.2]) (a0 (a3 k5)) (λq78 g78 h=>?_) λJ79 h hJ79=>zn (lP h (Tok × Tok × Vt × Tok × Tok) (g71.1,g71.2,g11.2.2.1,g11.2.2.2.1,g11.2.2.2.2) (λq80 g80=>[]) (λq80 g80=>[boxE zY (GParO q80.1 g80.1 g80.2.1 g80.2.2.1),tokE g80.1,tokE g80.2.1,vecE g80.2.2.1 (q80.1.m.nodes:List GNode),boxE zdB (GNodeO q80.2 g80.2.2.2.1 g80.2.2.2.2),tokE g80.2.2.2.1,tokE g80.2.2.2.2]) zay k7 λL81 q80 g80 Q100 h hL81 eL81 rL81=>ss (om e (oV (zf e) (oV (zu e zcF zd8) (oT (tL ty38 e p0 q80.1.e (oV (zP e e) (rn (zd h e (λ_ h=>?_) (λ_ h=>xn (eL81 _ _ (zw (hJ79 h (g80.1,g80.2.1,g80.2.2.1,g80.2.2.2.1,g80.2.2.2.2) 5))))))))))))))))))
   ·exact zj (om e (za h λy101 hy101 h=>oT (tC2 (zap hy101) hT (s2 e e) k4 (λt102 t103=>rb (hJ64 h (t102,t103,g78.2.2.1,g78.2.2.2.1,g78.2.2.2.2) 20)))))
   refine wk (zn (ws (om e (om e (om e (om e (za h λy91 hy91 h=>oT (tC5 (zd3 hy91) hT (s4 e e e e) k7 (λt92 t93 v94 t95 t96=>rn (ws (om e (za h λy97 hy97 h=>oT (tC2 (zQ hy97) hT (s2 e e) k4 (λt98 t99=>oV (za2 e) (rn (zd h e (λ_ h=>?_) (λ_ h=>zC (zs (hL81 h (t98,t99,v94,t95,t96) 13)))))))))))))))))))
   exact zmo (ziT e (eL81 _ _ (zw (hJ79 h (t98,t99,v94,t95,t96) 13))))
  exact oG g73 (zm e) (za h λy74 hy74 h=>oH g73 (tC2 (zQ hy74) hT (s2 e e) k4 (λt75 t76=>oV (zh e g73 e) (hJ72 h (t75,t76) 3))))
 exact oG g67 (zm e) (za h λy68 hy68 h=>oH g67 (tC2 (zQ hy68) hT (s2 e e) k4 (λt69 t70=>oV (zh e g67 e) (hJ66 h (t69,t70) 3))))

theorem zgg:∀ n,zdp (zdY n)/\zdk (zc5 n)/\zdK (zed n)/\zc7 (zdG n)
  | 0=>⟨λh=>(by cases h),λh=>(by cases h),λh=>(by cases h),λh=>(by cases h)⟩
  | n + 1=>by
    obtain ⟨h0,h1,h2,h3⟩:=zgg n
    exact ⟨zkY h0 h1 h2 h3,zmh h0 h1 h2 h3,zlf h0 h1 h2 h3,zjV h0 h1 h2 h3⟩
theorem zmO (n:Nat):zdk (zc5 n):=(zgg n).2.1
theorem zqr {zaV r} (h:ziJ zaV=some r):Ctr Tryz.prog 22 [isv zaV] [] (Pt [isv r.1,isv r.2.1,isv r.2.2] []):=by
 unfold ziJ at h
 refine zi Tryz.func22 e λw0 S0 hT=>ws (oT (zX _ ze57 λb1=>oa e (an e (ws (om e (za h λy2 hy2 h=>oT (tC (zpN hy2) hT (s1 e) k0 (om e (oV (zr e e) (oV (zr e e) (oV (zr e e) (oa e (oa e (an e (ss (om e (oV (zbz e e) (rn (zd h e (λ_ h=>?_) (λ_ h=>wk (ws (om e (oV (zao (z:=((y2.1,(0:Int),((Str.mk []),(0:Int),(TList.mk none ([]:(List Str))),(TList.mk none ([]:(List Int))),(Vh.mk none 0)),(0:Int),(0:Int)):GParOT)) e bu105 zvi (.cons zkL zm8 e hI .nil)) (oT (zkn (y:=((y2.1,(0:Int),((Str.mk []),(0:Int),(TList.mk none ([]:(List Str))),(TList.mk none ([]:(List Int))),(Vh.mk none 0)),(0:Int),(0:Int)):GParOT)) e hI λb3=>zah (zbC) (zah (zbC) (zah (zgo (α:=GNode)) (an e ?_))))))))))))))))))))))))))))
 ·exact ws (oV (zao (z:=(GMod.mk (Str.mk []) (0:Int) ([]:(List Str)) ([]:(List Int)) ([]:(List GNode)))) e bu57 ze57 .nil) (om e (om e (oT (tS ty57 e e p0 ⟨⟨[]⟩,0,[],[],[]⟩ (oa e (ar e (zD (ze (.cell e .here ty57 (.tmp e (.tmp e .nil))) k0 (iS h ▸ ⟨e,e⟩))))))))))
 refine ws (om e (om e (za h λy7 hy7 h=>oT (tC2 (zej hy7) hT (s2 e e) (a3 (a2 (a1 k1))) (λt8 t9=>oV (zf e) (oV (zu e zdF zfb) (oV (zu e ztj ztk) (oT (tS ty9 e e p0 (GParO {y7.2 with m:={y7.2.m with name:=y7.1}} t8 t9 none) (rn (ws (om e (za h λy10 hy10 h=>oT (tC2 (zap hy10) hT (s2 e e) k4 (λt11 t12=>rn (zF (jw h (Tok × Tok) (λq13 g13=>[]) (λq13 g13=>[boxE b3 (GParO q13 g13.1 g13.2 none),tokE g13.1,tokE g13.2,vecE none q13.m.nodes]) k4 (λq13 g13 h=>?_) λJ14 h hJ14=>zn (ws (om e (za h λy15 hy15 h=>oT (tC2 (zQ hy15) hT (s2 e e) k4 (λt16 t17=>an e (zd h e (λ_ h=>?_) (λ_ h=>ws (om e (za h λy21 hy21 h=>oT (tC2 (zQ hy21) hT (s2 e e) k4 (λt22 t23=>an e (zd h e (λ_ h=>?_) (λ_ h=>?_))))))))))))))))))))))))))))))
 ·refine ws (om e (za h λy33 hy33 h=>oT (tC2 (zap hy33) hT (s2 e e) k4 (λt34 t35=>rn (ws (om e (za h λy36 hy36 h=>oT (tC2 (zap hy36) hT (s2 e e) k4 (λt37 t38=>rn (zF (zn (lP h (Tok × Tok × Vt) (t37,t38,none) (λq39 g39=>[]) (λq39 g39=>[boxE b3 (GParO q39 g39.1 g39.2.1 g39.2.2),tokE g39.1,tokE g39.2.1,vecE g39.2.2 (q39.m.nodes:List GNode)]) zay k4 λL40 q39 g39 Q141 h hL40 eL40 rL40=>ss (om e (oV (zf e) (oV (zu e zcF zd8) (oT (tL ty38 e p0 q39.e (oV (zP e e) (om e (jo 4 h (Tok × Tok) (λq91 g91=>[(70,isv q91.1)]) (λq91 g91=>[boxE b3 (GParO q91.2 g91.1 g91.2 g39.2.2),tokE g91.1,tokE g91.2,vecE g39.2.2 (q91.2.m.nodes:List GNode)]) k4 (λq91 g91 h=>?_) λJ92 h hJ92=>oI h (λg93 h=>?_) λg93 h=>oN g93 (oN g93 (oN g93 (oV (zg e g93 e) (hJ92 h (g39.1,g39.2.1) 4))))))))))))))))))))))))
  ·refine rn (zd h e (λ_ h=>?_) (λ_ h=>xn (eL40 _ _ (zw (zp (ss (om e (oV (zf e) (oV (zu e zcF zd8) (oT (tL ty38 e p0 q91.2.e (oV (zP e e) (om e (jo 5 h (Tok × Tok) (λq125 g125=>[(130,isv q125.1)]) (λq125 g125=>[boxE b3 (GParO q125.2 g125.1 g125.2 g39.2.2),tokE g125.1,tokE g125.2,vecE g39.2.2 (q125.2.m.nodes:List GNode)]) k4 (λq125 g125 h=>?_) λJ126 h hJ126=>oI h (λg127 h=>?_) λg127 h=>oN g127 (oN g127 (oN g127 (oN g127 (oV (zg e g127 e) (hJ126 h (g91.1,g91.2) 5)))))))))))))))))))
   ·refine wk (zn (ws (om e (za h λy97 hy97 h=>oT (tC2 (zbs hy97) hT (s1 e) k4 (λt98 t99=>oT (zX _ ze80 λb100=>oT (tS ty80 e e p0 y97.1 (zah (zaJ 9 .here e) (rn (ws (om e (za h λy101 hy101 h=>oT (tC2 (zej hy101) hT (s2 e e) k4 (λt102 t103=>an e (ss (om e (oV (zf e) (oV (zu e zcF zd8) (oT (tL ty38 e p0 y101.2.e (oV (zP e e) (om e (jO 8 88 h (λq104 h=>?_) λJ105 h hJ105=>oI h (λg106 h=>?_) λg106 h=>oN g106 (oN g106 (oN g106 (oN g106 (oN g106 (oN g106 ?_)))))))))))))))))))))))))))))
    ·refine rn (jw h (Tok × Tok) (λq107 g107=>[]) (λq107 g107=>[boxE b3 (GParO q107 g107.1 g107.2 g39.2.2),tokE g107.1,tokE g107.2,vecE g39.2.2 (q107.m.nodes:List GNode)]) k4 (λq107 g107 h=>?_) λJ108 h hJ108=>zd h e (λ_ h=>?_) (λ_ h=>zC (hJ108 h (t102,t103) 0)))
     ·refine ws (om e (za h λy112 hy112 h=>oT (tC2 (zap hy112) hT (s2 e e) k4 (λt113 t114=>rn (ws (om e (za h λy115 hy115 h=>oT (tC3 (zmO fuel hy115) hT (s2 e e) k4 (λt116 t117 v118=>an e (ws (om e (om e (oV (zf e) (oV (zu e zdF zfb) (oV (zu e znJ zgj) (oT (zaS (R:=appv t116 y115.2.m.names) ty27 e p0 isvT1 (om e (oT (zA (l:=([y101.1]:(List Str))) el27 (.cons e hI .nil) e e (zam h λq121 h=>oT (zcj (l:=y115.2.m.names) (m:=([y101.1]:(List Str))) zpJ e hI e zx (.there .here) q121 λt120=>oV (zf e) (oV (zu e zdF zfb) (oV (zu e znJ zgj) (oT (tR ty27 e e isvT2 p1 (GParO {y115.2 with m:={y115.2.m with names:=(y115.2.m.names ++ ([y101.1]:(List Str)))}} t120 t117 v118) e (rn (zj (om e (om e (oV (zf e) ?_)))))))))))))))))))))))))))))))
      exact oV (zu e zdF zfb) (oV (zu e zp6 znX) (oT (zaS (R:=appv t117 y115.2.m.types) ty28 e p0 isvT1 (om e (oT (zA (l:=([y115.1]:(List Int))) el28 (.cons e hI .nil) e e (zam h λq124 h=>oT (zcj (l:=y115.2.m.types) (m:=([y115.1]:(List Int))) zgh e hI e zx (.there (.there .here)) q124 λt123=>oV (zf e) (oV (zu e zdF zfb) (oV (zu e zp6 znX) (oT (tR ty28 e e isvT2 p1 (GParO {y115.2 with m:={y115.2.m with names:=(y115.2.m.names ++ ([y101.1]:(List Str))),types:=(y115.2.m.types ++ ([y115.1]:(List Int)))}} t120 t123 v118) e (rb (hL40 h (t120,t123,v118) 50))))))))))))))
     exact zj (om e (oV (zb ty80 e) (za h λy109 hy109 h=>oT (tC2 (zcf hy109) hT (s3 e e e) k4 (λt110 t111=>zN (hJ108 h (t110,t111) 3))))))
    ·exact oG g106 (zm e) (oG g106 (zf e) (oG g106 (zu e zdF zfb) (oG g106 (zu e znJ zgj) (oH g106 (zaS (R:=appv t102 y101.2.m.names) ty27 e p0 isvT1 (oG g106 (zlX (l:=y101.2.m.names) e zx sl27) (oG g106 (zdT e e) (oV (zh e g106 e) (hJ105 h 8)))))))))
    exact oN g106 (oV (zg e g106 e) (hJ105 h 8))
   ·refine rn (jw h (Tok × Tok) (λq131 g131=>[]) (λq131 g131=>[boxE b3 (GParO q131 g131.1 g131.2 g39.2.2),tokE g131.1,tokE g131.2,vecE g39.2.2 (q131.m.nodes:List GNode)]) k4 (λq131 g131 h=>?_) λJ132 h hJ132=>zd h e (λ_ h=>?_) (λ_ h=>zC (hJ132 h (g125.1,g125.2) 0)))
    ·refine ss (om e (oV (zf e) (oV (zu e zcF zd8) (oT (tL ty38 e p0 q131.e (oV (zbz e e) (rn (zd h e (λ_ h=>?_) (λ_ h=>wk (ws (om e (oV (zf e) (oV (zu e zdF zfb) (zah (znC (y:=((q131.l,q131.at_,(q131.m.name,q131.m.tagging,(TList.mk g131.1 q131.m.names),(TList.mk g131.2 q131.m.types),q131.m.nodes),q131.e,q131.p):((List GTok) × Int × (Str × Int × (TList Str) × (TList Int) × (List GNode)) × Int × Int))) (.there (.there (.there .here))) .here (λS hv=>(Cv.pair Cv.id (Cv.pair Cv.id (Cv.pair (Cv.pair Cv.id (Cv.pair Cv.id (Cv.pair Cv.id (Cv.pair Cv.id (Cv.vh hv (by first | rfl | simp)))))) (Cv.pair Cv.id Cv.id)))))) (zah (zcp (R':=ptrv b3 ((Fld.id (((List GTok) × Int × (Str × Int × (TList Str) × (TList Int) × (List GNode)) × Int × Int))).comp zsV)) 151 e hI) (oT (zaS (y:=((q131.l,q131.at_,(q131.m.name,q131.m.tagging,(TList.mk g131.1 q131.m.names),(TList.mk g131.2 q131.m.types),q131.m.nodes),q131.e,q131.p):((List GTok) × Int × (Str × Int × (TList Str) × (TList Int) × (List GNode)) × Int × Int))) (R:=isv (((q131.m.name,q131.m.tagging,(TList.mk g131.1 q131.m.names),(TList.mk g131.2 q131.m.types),q131.m.nodes)):((Str × Int × (TList Str) × (TList Int) × (List GNode))))) ty57 e .here (by exact hI) (zah (zcp (R':=isv q131.m) 152 e (Cv.isv e λS=>(λcs h=>GMod.cv (x:=q131.m) cs (((Cv.pair Cv.id (Cv.pair Cv.id (Cv.pair Cv.tl (Cv.pair Cv.tl Cv.id)))):Cv S ((q131.m.name,q131.m.tagging,(TList.mk g131.1 q131.m.names),(TList.mk g131.2 q131.m.types),q131.m.nodes):(Str × Int × (TList Str) × (TList Int) × (List GNode))) (GMod.to q131.m)) cs h)))) (oT (tS ty57 e e p3 q131.m (oa e (ar e (ze (.cell e .here ty57 (.tmp e (.tmp e .nil))) k0 (iS h ▸ ⟨e,e⟩))))))))))))))))))))))))
     exact zF (zc3 8 .here e (λo139 hn140=>zH (.v 0 (.v 1 (.v 2 (.v 3 (.v 4 (.v 5 (.v 6 (.v 7 (.v 8 (.t 9 (.v 10 (.v 11 .nil)))))))))))) moOrd (by kernel_rfl) (zl e (zao (z:=(GMod.mk (Str.mk []) (0:Int) ([]:(List Str)) ([]:(List Int)) ([]:(List GNode)))) e bu57 ze57 .nil) (rm e e (zl e (zat e) (zl e (zdM e zoJ zr9) (zl e (vP ty3 e m0 q131.p) (rm e e (zl e (zat e) (zl e (zdM e zcF zd8) (zl e (vP ty38 e m0 q131.e) (rT e (tS ty57 e e p3 ⟨⟨[]⟩,0,[],[],[]⟩ (zl e (zaD e) (zl e (zaD e) (zak (zaO 8 hn140 e (zp (zbK (zD (ze (.cell e (.there .here) ty57 (.tmp e (.tmp e .nil))) k0 (iS h ▸ ⟨e,e⟩))))))))))))))))))))))
    exact zj (om e (om e (za h λy133 hy133 h=>oT (tC2 (zbs hy133) hT (s1 e) k4 (λt134 t135=>za h λy136 hy136 h=>oT (tC2 (zcf hy136) hT (s3 e e e) k4 (λt137 t138=>zN (hJ132 h (t137,t138) 4))))))))
   exact oG g127 (zm e) (za h λy128 hy128 h=>oH g127 (tC2 (zbs hy128) hT (s1 e) k4 (λt129 t130=>oG g127 (zh8 GTok.f0 e zdz e) (oG g127 (zbz e e) (oV (zh e g127 e) (hJ126 h (t129,t130) 5))))))
  exact oG g93 (zm e) (za h λy94 hy94 h=>oH g93 (tC2 (zQ hy94) hT (s2 e e) k4 (λt95 t96=>oG g93 (za2 e) (oV (zh e g93 e) (hJ92 h (t95,t96) 4)))))
 ·exact zj (om e (za h λy18 hy18 h=>oT (tC2 (zap hy18) hT (s2 e e) k4 (λt19 t20=>rb (hJ14 h (t19,t20) 5)))))
 ·exact ws (om e (oV (zf e) (oV (zu e zdF zfb) (oV (zu e zqe zpO) (oT (tS ty3 e e p0 (GParO {y21.2 with m:={y21.2.m with tagging:=1}} t22 t23 none) (rn (zj (om e (za h λy24 hy24 h=>oT (tC2 (zap hy24) hT (s2 e e) k4 (λt25 t26=>rb (hJ14 h (t25,t26) 12)))))))))))))
 refine ws (om e (za h λy27 hy27 h=>oT (tC2 (zQ hy27) hT (s2 e e) k4 (λt28 t29=>an e (zd h e (λ_ h=>?_) (λ_ h=>zC (zs (hJ14 h (t28,t29) 9))))))))
 exact ws (om e (oV (zf e) (oV (zu e zdF zfb) (oV (zu e zqe zpO) (oT (tS ty3 e e p0 (GParO {y27.2 with m:={y27.2.m with tagging:=2}} t28 t29 none) (rn (zj (om e (za h λy30 hy30 h=>oT (tC2 (zap hy30) hT (s2 e e) k4 (λt31 t32=>rb (hJ14 h (t31,t32) 15)))))))))))))

end Go.Proofs.Q


namespace Go.Proofs.Q
open Go.Sy
set_option maxRecDepth 4000
theorem zjF {a_m zpF r} (h:zlI a_m zpF=some r):Ctr Tryz.prog 100 [isv a_m,isv zpF] [] (Pt [isv r] []):=by
 unfold zlI at h
 refine zi Tryz.func100 e λw0 S0 hT=>ws (oT (tB e (an e (ss (an e (zn (lO 5 h e λL2 q1 Q7 h hL2 eL2 rL2=>ss (om e (oV (vI e GMod.f2 zgj a_m.names) (oV (zb ty27 e) (oV (vN e sl27) (oV (zau e e) (rn (zd h e (λ_ h=>?_) (λ_ h=>xn (eL2 _ _ (zw (zp (ws (ar e (ze (r1 e) k0 (iS h ▸ ⟨e,e⟩))))))))))))))))))))))
 refine wk (zF (zn (ws (oV (vI e GMod.f2 zgj a_m.names) (oV (zb ty27 e) (om e (za h λy5 hy5 h=>oV (vX e e sl27 hy5) (oV (zb ty9 e) (om e (oV (zaW eq9 e e) (rn (zd h e (λ_ h=>?_) (λ_ h=>zC (zs (zp (zj (om e (zy h λq6 h=>oV (zaa e e q6) (oa e (zN (hL2 h 16)))))))))))))))))))))
 exact ws (om e (ar e (bn (rL2 _ (bn (ze (r1 e) k0 (iS h ▸ ⟨e,e⟩)))))))


theorem zjl {a_l a_x r} (h:ziD a_l a_x=some r):Ctr Tryz.prog 99 [isv a_l,isv a_x] [] (Pt [isv r] []):=by
 unfold ziD at h
 refine zi Tryz.func99 e λw0 S0 hT=>ws (an e (ss (an e (zn (lO 5 h e λL2 q1 Q7 h hL2 eL2 rL2=>ss (om e (om e (oV (vN e sl28) (oV (zau e e) (rn (zd h e (λ_ h=>?_) (λ_ h=>xn (eL2 _ _ (zw (zp (ws (ar e (ze (r1 e) k0 (iS h ▸ ⟨e,e⟩)))))))))))))))))))
 refine wk (zF (zn (ws (om e (om e (za h λy5 hy5 h=>oV (vX e e sl28 hy5) (oV (zb ty3 e) (om e (oV (zP e e) (rn (zd h e (λ_ h=>?_) (λ_ h=>zC (zs (zp (zj (om e (zy h λq6 h=>oV (zaa e e q6) (oa e (zN (hL2 h 14))))))))))))))))))))
 exact ws (ar e (bn (rL2 _ (bn (ze (r1 e) k0 (iS h ▸ ⟨e,e⟩))))))


def zjp (f':GMod->Int->Int->(List Int)->Option ((List Int) × Bool)):Prop :=
 ∀ {a_m zlr zJ a_l t_a_l r},f' a_m zlr zJ a_l=some r->Ctr Tryz.prog 97 [isv a_m,isv zlr,isv zJ,appv t_a_l a_l] [tokE t_a_l] (Pt1 (λu1=>[appv u1 r.1,isv r.2]) λu1=>[tokE u1])
theorem zqE {ziB} (zn4:zjp ziB):zjp (zll ziB):=by
 intro a_m zlr zJ a_l t_a_l r h
 unfold zll at h
 refine zi Tryz.func97 e λw0 S0 hT=>ws (oT (tB e (oa e (an e (ss (om e (oV (zau e e) (om e (jO 6 24 h (λq1 h=>?_) λJ2 h hJ2=>oI h (λg3 h=>?_) λg3 h=>oG g3 (zm e) (oG g3 (vI e GMod.f4 zjg a_m.nodes) (oG g3 (zb ty55 e) (oG g3 (vN e sl55) (oG g3 (zdT e e) (oV (zg e g3 e) (hJ2 h 6)))))))))))))))
 ·refine om e (jO 3 28 h (λq4 h=>?_) λJ5 h hJ5=>oI h (λg6 h=>?_) λg6 h=>oG g6 (zm e) (oG g6 (zcy e e) (oV (zg e g6 e) (hJ5 h 3))))
  ·refine rn (zd h e (λ_ h=>?_) (λ_ h=>wk (ws (oV (vI e GMod.f4 zjg a_m.nodes) (oV (zb ty55 e) (om e (za h λy7 hy7 h=>oV (vX e e sl55 hy7) (oV (zb ty174 e) (oT (zX _ ze174 λb8=>oT (tS ty174 e e p0 y7 (zah (zaJ 10 .here e) (rn (ss (oV (vI e GNode.f0 zdd y7.kind) (oV (zb ty3 e) (oV (zP e e) (rn (zd h e (λ_ h=>?_) (λ_ h=>wk (ws (an e (ss (an e (zn (lP h Tok t_a_l (λq16 g16=>[(3,appv g16 q16.1),(12,isv q16.2.1),(13,isv q16.2.2)]) (λq16 g16=>[tokE g16]) (zB (j:=3) e hI (zB (j:=12) e hI (zB (j:=13) e hI zay))) k1 λL17 q16 g16 Q44 h hL17 eL17 rL17=>ss (om e (oV (vI e GNode.f5 zfv y7.fields) ?_))))))))))))))))))))))))))))
   ·exact ws (om e (oa e (ar e (zD (ze (r2 e e) k1 (iS h ▸ ⟨t_a_l,e,e⟩))))))
   ·refine ws (oV (zb ty57 e) (oV (vI e GNode.f1 zpf y7.name) (oV (zb ty9 e) (za h λy9 hy9 h=>oT (tC (zjF hy9) hT (s2 e e) k0 (an e (ss (om e (oV (zau e e) (rn (zd h e (λ_ h=>?_) (λ_ h=>wk (ss (om e (om e (za h λy10 hy10 h=>oT (tC (zjl hy10) hT (.cons e zx (.same e .nil)) k0 (oV (za2 e) (rn (jw h Tok (λq11 g11=>[(3,appv g11 q11)]) (λq11 g11=>[tokE g11]) k1 (λq11 g11 h=>?_) λJ12 h hJ12=>zd h e (λ_ h=>?_) (λ_ h=>zC (hJ12 h t_a_l 0))))))))))))))))))))))
    ·exact ws (om e (oa e (ar e (zD (zD (ze (r2 e e) k1 (iS h ▸ ⟨t_a_l,e,e⟩)))))))
    ·exact ws (om e (oa e (ar e (zD (ze (r2 e e) k1 (iS h ▸ ⟨g11,e,e⟩))))))
    exact zj (om e (om e (oT (zA (l:=([y9]:(List Int))) el28 (.cons e hI .nil) e e (zam h λq15 h=>oT (zcj (l:=a_l) (m:=([y9]:(List Int))) zgh e hI e zx .here q15 λt14=>oa e (zN (hJ12 h t14 5))))))))
   refine oV (zb ty127 e) (oV (vN e sl127) (oV (zau e e) (rn (zd h e (λ_ h=>?_) (λ_ h=>xn (eL17 _ _ (zw (zp (ss (oV (vI e GNode.f0 zdd y7.kind) (oV (zb ty3 e) (oV (zP e e) (rn (jw h Tok (λq36 g36=>[(3,appv g36 q36.1),(12,isv q36.2)]) (λq36 g36=>[tokE g36]) k1 (λq36 g36 h=>?_) λJ37 h hJ37=>zd h e (λ_ h=>?_) (λ_ h=>zC (hJ37 h g16 0))))))))))))))))
   ·refine wk (zF (zn (ws (an e (zF (zH (.v 0 (.v 1 (.v 2 (.v 3 (.v 4 (.v 5 (.v 6 (.v 7 (.v 8 (.v 9 (.t 10 (.v 11 (.v 12 (.v 13 (.v 14 (.v 15 .nil)))))))))))))))) moOrd (by kernel_rfl) (zl e (zb ty57 e) (zl e (vI e GNode.f5 zfv y7.fields) (zl e (zb ty127 e) (rm e e (za h λy28 hy28 h=>zl e (vX e e sl127 hy28) (zl e (vI e GFld.f1 zdH y28.ty) (zl e (zb ty3 e) (rm e e (zy h λq29 h=>zl e (zaa e e q29) (rm e e (za h λy30 hy30 h=>rT e (tC1 (zn4 hy30) hT (s4 e e e e) k1 (λt31=>rm e e (zl e (zr e e) (zl e (zr e e) (zl e (zaD e) (zl e (zaD e) (zak (zp (zj (om e ?_)))))))))))))))))))))))))))
    refine om e (jO 2 78 h (λq32 h=>?_) λJ33 h hJ33=>oI h (λg34 h=>?_) λg34 h=>oG g34 (zm e) (oV (zg e g34 e) (hJ33 h 2)))
    ·exact oa e (rb (zp (zj (om e (zy h λq35 h=>oV (zaa e e q35) (oa e (zN (hL17 h t31 32))))))))
    exact oN g34 (oV (zh e g34 e) (hJ33 h 2))
   ·exact ws (om e (om e (oa e (ar e (ze (r2 e e) k1 (iS h ▸ ⟨g36,e,e⟩))))))
   refine ws (an e (ws (oV (zb ty57 e) (oV (vI e GNode.f8 zpx y7.of) (oV (zb ty3 e) (om e (zy h λq38 h=>oV (zaa e e q38) (om e (za h λy39 hy39 h=>oT (tC1 (zn4 hy39) hT (s4 e e e e) k1 (λt40=>om e (oV (zr e e) (oV (zr e e) (oa e (an e (zj (om e (om e (jO 2 95 h (λq41 h=>?_) λJ42 h hJ42=>oI h (λg43 h=>?_) λg43 h=>oG g43 (zm e) (oV (zg e g43 e) (hJ42 h 2)))))))))))))))))))))
   ·exact oa e (zN (hJ37 h t40 17))
   exact oN g43 (oV (zh e g43 e) (hJ42 h 2))
  exact oN g6 (oN g6 (oV (zh e g6 e) (hJ5 h 3)))
 exact oN g3 (oN g3 (oN g3 (oN g3 (oN g3 (oV (zh e g3 e) (hJ2 h 6))))))

theorem zjY:∀ n,zjp (znP n)
  | 0=>λh=>(by cases h)
  | n + 1=>zqE (zjY n)
theorem zry (n:Nat):zjp (znP n):=(zjY n)

theorem zqV {zlU zfe a_to r} (h:zmH zlU zfe a_to=some r):Ctr Tryz.prog 98 [isv zlU,isv zfe,isv a_to] [] (Pt [isv r] []):=by
 unfold zmH at h
 refine zi Tryz.func98 e λw0 S0 hT=>ws (an e (ws (oT (zA (l:=([]:(List Int))) el28 .nil e e (an e (ws (om e (om e (za h λy2 hy2 h=>oV (vX e e sl178 hy2) (oV (zb ty28 e) (zam h λq4 h=>oT (zpV (m:=y2) zgh e e hI q4 λt3=>an e (zF (zn (zhf (zbC) (lP h (Tok × Tok) (none,t3) (λq5 g5=>[(7,appv g5.1 q5.1),(8,appv g5.2 q5.2)]) (λq5 g5=>[tokE g5.1,tokE g5.2]) (zB (j:=7) e hI (zB (j:=8) e hI zay)) k2 λL6 q5 g5 Q27 h hL6 eL6 rL6=>ss (om e (oV (zlX (l:=q5.2) e zx sl28) (oV (zcy e e) (rn (zd h e (λ_ h=>?_) (λ_ h=>xn (eL6 _ _ (zw (zp (ws ?_))))))))))))))))))))))))))
 ·refine wk (zn (ws (om e (za h λy17 hy17 h=>oV (zlj (l:=q5.2) e zx e sl28 hy17) (oV (zb ty3 e) (an e (ws (om e (zaj h λq18 h=>oT (zwv e sl28 e q18.1 q18.2 (.there .here) λt19=>an e (ss (om e (om e (oV (zP e e) (rn (zd h e (λ_ h=>?_) (λ_ h=>wk (ws (om e (om e (za h λy20 hy20 h=>oT (tC (zjl hy20) hT (.cons e zx (.same e .nil)) k0 (oV (za2 e) (rn (zd h e (λ_ h=>?_) (λ_ h=>zC (zs ?_)))))))))))))))))))))))))))
  ·exact ws (ar e (zD (za8 (rL6 _ (bn (ze (r1 e) k0 (iS h ▸ ⟨e,e⟩)))))))
  ·exact ws (om e (om e (oT (zA (l:=([y17]:(List Int))) el28 (.cons e hI .nil) e e (zam h λq23 h=>oT (zcj (l:=q5.1) (m:=([y17]:(List Int))) zgh e hI e zx (.there .here) q23 λt22=>an e (zj (om e (om e (om e (za h λy24 hy24 h=>oV (vX e e sl178 hy24) (oV (zb ty28 e) (zam h λq26 h=>oT (zcj (l:=(q5.2.drop ((1:Int)).toNat)) (m:=y24) zgh e hI e hI (.there .here) q26 λt25=>oa e (rb (hL6 h (t22,t25) 31))))))))))))))))
  exact hL6 h (g5.1,t19) 19
 exact ar e (ze (r1 e) k0 (iS h ▸ ⟨e,e⟩))


theorem zqw {a_m r} (h:zmQ a_m=some r):Ctr Tryz.prog 50 [isv a_m] [] (Pt [isv r.1,isv r.2.1,isv r.2.2] []):=by
 unfold zmQ at h
 refine zi Tryz.func50 e λw0 S0 hT=>ws (oT (tB e (oa e (oa e (an e (ws (an e (ws (an e (ss (an e (zn (lO 7 h e λL2 q1 Q1603 h hL2 eL2 rL2=>ss (om e (oV (vI e GMod.f2 zgj a_m.names) (oV (zb ty27 e) (oV (vN e sl27) (oV (zau e e) (rn (zd h e (λ_ h=>?_) (λ_ h=>xn (eL2 _ _ (zw (zp (ss (an e (zn (zhf (zbC) ?_))))))))))))))))))))))))))))
 ·refine wk (zF (zn (zF (zH (.v 0 (.v 1 (.v 2 (.v 3 (.v 4 (.v 5 (.v 6 (.v 7 (.v 8 (.t 9 .nil)))))))))) moOrd (by kernel_rfl) (zl e (vI e GMod.f2 zgj a_m.names) (zl e (zb ty27 e) (rm e e (zaj h λq803 h=>zl e (zhR (l:=a_m.names) e hI sl27 (.inl ⟨e,e⟩) (.inr ⟨_,e,e⟩) q803.1 q803.2.1 q803.2.2) (zl e (vI e GMod.f2 zgj a_m.names) (zl e (zb ty27 e) (rm e e (za h λy804 hy804 h=>zl e (vX e e sl27 hy804) (zl e (zb ty9 e) (za h λy805 hy805 h=>rT e (tC (zk4 hy805) hT (s2 e e) k0 (zak (zp (zd h e (λ_ h=>?_) (λ_ h=>zC (zs (zp (zj (om e (zy h λq806 h=>oV (zaa e e q806) (oa e (zN ?_))))))))))))))))))))))))))
  ·exact ws (om e (oa e (oa e (ar e (bn (rL2 _ (bn (ze (.as e (zeZ (α:=Int)) (.tmp e (.tmp e .nil))) k0 (iS h ▸ ⟨e,e⟩)))))))))
  exact hL2 h 19
 refine lP h Tok none (λq807 g807=>[(5,appv g807 q807.1),(6,isv q807.2.1),(8,isv q807.2.2)]) (λq807 g807=>[tokE g807]) (zB (j:=5) e zcs (zB (j:=6) e hI (zB (j:=8) e hI zay))) k1 λL808 q807 g807 Q1602 h hL808 eL808 rL808=>ss (om e (oV (vI e GMod.f2 zgj a_m.names) (oV (zb ty27 e) (oV (vN e sl27) (oV (zau e e) (rn (zd h e (λ_ h=>?_) (λ_ h=>xn (eL808 _ _ (zw (zp (ss (om e (oV (zdT e e) (rn (zd h e (λ_ h=>?_) (λ_ h=>wk (ss (an e (zn (lO 11 h e λL1351 q1350 Q1600 h hL1351 eL1351 rL1351=>ss (om e (oV (vI e GMod.f2 zgj a_m.names) (oV (zb ty27 e) (oV (vN e sl27) (oV (zau e e) (rn ?_)))))))))))))))))))))))))))
 ·refine wk (zF (jw h Tok (λq1337 g1337=>[(5,appv g1337 q1337.1),(6,isv q1337.2)]) (λq1337 g1337=>[tokE g1337]) k1 (λq1337 g1337 h=>?_) λJ1338 h hJ1338=>zn (zF (zH (.v 0 (.v 1 (.v 2 (.v 3 (.v 4 (.v 5 (.t 6 (.v 7 (.v 8 (.v 9 (.v 10 (.v 11 .nil)))))))))))) moOrd (by kernel_rfl) (zl e (zb ty57 e) (zl e (vI e GMod.f3 znX a_m.types) (zl e (zb ty28 e) (rm e e (za h λy1339 hy1339 h=>zl e (vX e e sl28 hy1339) (zl e (zb ty3 e) (ze2 (zbC) (za h λy1341 hy1341 h=>rT e (tC1 (zry fuel hy1341) hT (.same e (.same e (.same e (.cons e zcs .nil)))) k1 (λt1342=>rm e e (zl e (zr e e) (zl e (zr e e) (zl e (zaD e) (zl e (zaD e) (zak (zp (ws (om e (om e (oT (zA (l:=([y1341.1]:(List (List Int)))) el178 (.cons e zx .nil) e e (zam h λq1345 h=>oT (zcj (l:=q807.1) (m:=([y1341.1]:(List (List Int)))) zoE e hI e zx (.there .here) q1345 λt1344=>an e ?_)))))))))))))))))))))))))))
  ·exact zj (om e (zy h λq1349 h=>oV (zaa e e q1349) (oa e (zN (hL808 h g1337 13)))))
  refine ws (om e (om e (jO 3 59 h (λq1346 h=>?_) λJ1347 h hJ1347=>oI h (λg1348 h=>?_) λg1348 h=>oN g1348 (oN g1348 (oV (zg e g1348 e) (hJ1347 h 3))))))
  ·refine rn (zd h e (λ_ h=>?_) (λ_ h=>zC (zs (hJ1338 h t1344 20))))
   exact zj (om e (oa e (rb (hJ1338 h t1344 22))))
  exact oG g1348 (zm e) (oG g1348 (zau e e) (oV (zh e g1348 e) (hJ1347 h 3)))
 ·exact ws (om e (oa e (oa e (ar e (zD (ze (.as e (zeZ (α:=Int)) (.tmp e (.tmp e .nil))) k0 (iS h ▸ ⟨e,e⟩)))))))
 refine zd h e (λ_ h=>?_) (λ_ h=>xn (eL1351 _ _ (zw (zp (ws (an e (zF (zn (zhf (zbC) (lP h Tok none (λq1478 g1478=>[(12,appv g1478 q1478)]) (λq1478 g1478=>[tokE g1478]) (zB (j:=12) e zcs zay) k1 λL1479 q1478 g1478 Q1599 h hL1479 eL1479 rL1479=>ss (om e (oV (zlX (l:=q1478) e zx sl28) (oV (vI e GMod.f2 zgj a_m.names) (oV (zb ty27 e) (oV (vN e sl27) (oV (zau e e) (rn (zd h e (λ_ h=>?_) (λ_ h=>xn (eL1479 _ _ (zw (zp (ws (om e (oa e (oa e (ar e (ze (.as e zx (.tmp e (.tmp e .nil))) k0 (iS h ▸ ⟨e,e⟩)))))))))))))))))))))))))))))
 ·refine wk (zF (zn (ws (om e (om e (om e (za h λy1476 hy1476 h=>oT (tC (zqV hy1476) hT (.cons e zx (.same e (.same e .nil))) k0 (rn (zd h e (λ_ h=>?_) (λ_ h=>zC (zs (zp (zj (om e (zy h λq1477 h=>oV (zaa e e q1477) (oa e (zN (hL1351 h 13)))))))))))))))))))
  exact ws (om e (oa e (oa e (ar e (bn (rL1351 _ (bn (ze (.as e (zeZ (α:=Int)) (.tmp e (.tmp e .nil))) k0 (iS h ▸ ⟨e,e⟩)))))))))
 refine wk (zn (ws (an e (zn (lO 13 h e λL1540 q1539 Q1597 h hL1540 eL1540 rL1540=>ss (om e (oV (vI e GMod.f2 zgj a_m.names) (oV (zb ty27 e) (oV (vN e sl27) (oV (zau e e) (rn (zd h e (λ_ h=>?_) (λ_ h=>xn (eL1540 _ _ (zw (zs (hL1479 h g1478 14)))))))))))))))))
 refine wk (zF (zn (ws (om e (om e (za h λy1569 hy1569 h=>oT (tC (zjl hy1569) hT (.cons e zx (.same e .nil)) k0 (oV (za2 e) (an e (ss (an e (zn (lP h Unit () (λq1570 g1570=>[(14,isv q1570.1),(15,isv q1570.2)]) (λq1570 g1570=>[]) (zB (j:=14) e hI (zB (j:=15) e hI zay)) k0 λL1571 q1570 g1570 Q1596 h hL1571 eL1571 rL1571=>ss (om e (om e (om e (za h λy1584 hy1584 h=>oV (zlj (l:=q807.1) e zx e sl178 hy1584) (oV (zb ty28 e) (oV (vN e sl28) (oV (zau e e) (rn (zd h e (λ_ h=>?_) (λ_ h=>xn (eL1571 _ _ (zw (zp (ws ?_)))))))))))))))))))))))))))
 ·refine wk (zF (zn (zj (om e (om e (jO 10 113 h (λq1585 h=>?_) λJ1586 h hJ1586=>oI h (λg1587 h=>?_) λg1587 h=>oN g1587 (oN g1587 (oN g1587 (oN g1587 (oN g1587 (oN g1587 (oN g1587 (oN g1587 (oN g1587 (oV (zg e g1587 e) (hJ1586 h 10))))))))))))))))
  ·exact oa e (rb (zp (zj (om e (zy h λq1591 h=>oV (zaa e e q1591) (oa e (zN (hL1571 h () 16))))))))
  exact oG g1587 (zm e) (oG g1587 (zm e) (oG g1587 (zm e) (za h λy1588 hy1588 h=>oG g1587 (zlj (l:=q807.1) e zx e sl178 hy1588) (oG g1587 (zb ty28 e) (oG g1587 (zm e) (za h λy1589 hy1589 h=>oG g1587 (vX e e sl28 hy1589) (oG g1587 (zb ty3 e) (za h λy1590 hy1590 h=>oH g1587 (tC (zjl hy1590) hT (.cons e zx (.same e .nil)) k0 (oV (zh e g1587 e) (hJ1586 h 10)))))))))))
 refine om e (rn (zd h e (λ_ h=>?_) (λ_ h=>zC (zs (zp (zj (om e (zy h λq1595 h=>oV (zaa e e q1595) (oa e (zN (hL1540 h 25)))))))))))
 exact ws (om e (om e (oT (zA (l:=([q1539]:(List Int))) el28 (.cons e hI .nil) e e (zam h λq1594 h=>oT (zcj (l:=q1478) (m:=([q1539]:(List Int))) zgh e hI e zx .here q1594 λt1593=>an e (zmo (ziT e (zpZ (eL1540 _ _ (zw (zs (hL1479 h t1593 35)))))))))))))

end Go.Proofs.Q


namespace Go.Proofs.Q
open Go.Sy
set_option maxRecDepth 4000
theorem zcw {a_x a_e zY zaB r} (h:zck a_x a_e=some r):Ctr Tryz.prog 149 [ptrv zY (Fld.id GMkOT),isv a_e] [boxE zY (GMkO a_x zaB),vecE zaB a_x.l] (Pt [] [boxE zY (GMkO r zaB),vecE zaB r.l]):=by
 unfold zck at h
 refine zi Tryz.func149 e λw0 S0 hT=>ws (om e (oV (zf e) (oV (zu e zec zfP) (oT (tL ty38 e p0 a_x.e (oV (zP e e) (rn (zd h e (λ_ h=>?_) (λ_ h=>zC (zaQ .nil k2 (iS h ▸ ⟨e,e⟩)))))))))))
 exact zj (om e (om e (oV (zf e) (oV (zu e zec zfP) (oT (tS ty38 e e p0 (GMkO {a_x with e:=a_e} zaB) (zN (zaQ .nil k2 (iS h ▸ ⟨e,e⟩)))))))))


theorem zm2 {ze1 r} (h:zix ze1=some r):Ctr Tryz.prog 150 [isv ze1] [] (Pt [isv r] []):=by
 unfold zix at h
 refine zi Tryz.func150 e λw0 S0 hT=>ws (oT (zX _ ze206 λb1=>rn (ss (om e (rn (zn (ws (oV (zP e e) (an e (zd h e (λ_ h=>?_) (λ_ h=>ws (oV (zP e e) (an e (zd h e (λ_ h=>?_) (λ_ h=>ws (oV (zP e e) (an e (zd h e (λ_ h=>?_) (λ_ h=>ws (oV (zP e e) (an e (zd h e (λ_ h=>?_) (λ_ h=>ws (oV (zP e e) (an e (zd h e (λ_ h=>?_) (λ_ h=>ws (oV (zP e e) ?_))))))))))))))))))))))))))))
 ·exact ws (oV (zao (z:=(Tag.mk (0:Int) (1:Int))) e bu206 ze206 (.cons Tag.f1 zfQ e hI .nil)) (oT (tS ty206 e e p0 ⟨0,1⟩ (rn (zbK (bn (ze (.cell e .here ty206 .nil) k0 (iS h ▸ ⟨e,e⟩))))))))
 ·exact ws (oV (zao (z:=(Tag.mk (0:Int) (2:Int))) e bu206 ze206 (.cons Tag.f1 zfQ e hI .nil)) (oT (tS ty206 e e p0 ⟨0,2⟩ (rn (zbK (bn (ze (.cell e .here ty206 .nil) k0 (iS h ▸ ⟨e,e⟩))))))))
 ·exact ws (oV (zao (z:=(Tag.mk (0:Int) (4:Int))) e bu206 ze206 (.cons Tag.f1 zfQ e hI .nil)) (oT (tS ty206 e e p0 ⟨0,4⟩ (rn (zbK (bn (ze (.cell e .here ty206 .nil) k0 (iS h ▸ ⟨e,e⟩))))))))
 ·exact ws (oV (zao (z:=(Tag.mk (0:Int) (5:Int))) e bu206 ze206 (.cons Tag.f1 zfQ e hI .nil)) (oT (tS ty206 e e p0 ⟨0,5⟩ (rn (zbK (bn (ze (.cell e .here ty206 .nil) k0 (iS h ▸ ⟨e,e⟩))))))))
 ·exact ws (oV (zao (z:=(Tag.mk (0:Int) (10:Int))) e bu206 ze206 (.cons Tag.f1 zfQ e hI .nil)) (oT (tS ty206 e e p0 ⟨0,10⟩ (rn (zbK (bn (ze (.cell e .here ty206 .nil) k0 (iS h ▸ ⟨e,e⟩))))))))
 refine an e (zd h e (λ_ h=>?_) (λ_ h=>ss (oV (zP e e) (an e (jW 22 h (λq2 h=>?_) λJ3 h hJ3=>zd h e (λ_ h=>?_) (λ_ h=>zj (oV (zP e e) (oa e (zN (hJ3 h 2))))))))))
 ·exact ws (oV (zao (z:=(Tag.mk (0:Int) (12:Int))) e bu206 ze206 (.cons Tag.f1 zfQ e hI .nil)) (oT (tS ty206 e e p0 ⟨0,12⟩ (rn (zbK (bn (ze (.cell e .here ty206 .nil) k0 (iS h ▸ ⟨e,e⟩))))))))
 ·refine zd h e (λ_ h=>?_) (λ_ h=>ws (oV (zP e e) (an e (zd h e (λ_ h=>?_) (λ_ h=>zC (zs (zp (ws (oV (zao (z:=(Tag.mk (0:Int) (0:Int))) e bu206 ze206 .nil) (oT (tS ty206 e e p0 ⟨0,0⟩ (rn (zbK (ze (.cell e .here ty206 .nil) k0 (iS h ▸ ⟨e,e⟩)))))))))))))))
  ·exact ws (oV (zao (z:=(Tag.mk (0:Int) (16:Int))) e bu206 ze206 (.cons Tag.f1 zfQ e hI .nil)) (oT (tS ty206 e e p0 ⟨0,16⟩ (rn (zbK (bn (ze (.cell e .here ty206 .nil) k0 (iS h ▸ ⟨e,e⟩))))))))
  exact ws (oV (zao (z:=(Tag.mk (0:Int) (17:Int))) e bu206 ze206 (.cons Tag.f1 zfQ e hI .nil)) (oT (tS ty206 e e p0 ⟨0,17⟩ (rn (zbK (bn (ze (.cell e .here ty206 .nil) k0 (iS h ▸ ⟨e,e⟩))))))))
 exact zC (hJ3 h 0)


theorem zqI {a_c zpn r} (h:zmK a_c zpn=some r):Ctr Tryz.prog 151 [isv a_c,isv zpn] [] (Pt [isv r] []):=by
 unfold zmK at h
 refine zi Tryz.func151 e λw0 S0 hT=>ws (oT (tB e (an e (ss (oV (vI e GCon.f0 znk a_c.has) (oV (zb ty4 e) (oV (za2 e) (rn (zd h e (λ_ h=>?_) (λ_ h=>wk (ss (oV (vI e GCon.f1 zkF a_c.hasLow) (oV (zb ty4 e) (om e (jO 3 13 h (λq1 h=>?_) λJ2 h hJ2=>oI h (λg3 h=>?_) λg3 h=>oN g3 (oN g3 (oV (zg e g3 e) (hJ2 h 3))))))))))))))))))
 ·exact ws (ar e (zD (ze (r1 e) k0 (iS h ▸ ⟨e,e⟩))))
 ·refine om e (jO 6 20 h (λq4 h=>?_) λJ5 h hJ5=>oI h (λg6 h=>?_) λg6 h=>oN g6 (oN g6 (oN g6 (oN g6 (oN g6 (oV (zg e g6 e) (hJ5 h 6)))))))
  ·refine rn (zd h e (λ_ h=>?_) (λ_ h=>wk (ss (om e (om e (jO 28 50 h (λq7 h=>?_) λJ8 h hJ8=>oI h (λg9 h=>?_) λg9 h=>oN g9 (oN g9 (oN g9 (oN g9 (oU (oU (oU (oN g9 (oN g9 (oU (oU (oU (oN g9 (oN g9 (oU (oU (oU (oU (oU (oU (oU (oU ?_)))))))))))))))))))))))))))
   ·exact ws (ar e (zD (ze (r1 e) k0 (iS h ▸ ⟨e,e⟩))))
   ·refine rn (zd h e (λ_ h=>?_) (λ_ h=>wk (ws (ar e (ze (r1 e) k0 (iS h ▸ ⟨e,e⟩))))))
    exact ws (ar e (zD (ze (r1 e) k0 (iS h ▸ ⟨e,e⟩))))
   ·refine oG g9 (vI e GCon.f1 zkF a_c.hasLow) (oG g9 (zb ty4 e) (oG g9 (za2 e) (oG g9 (zm e) (jO 4 30 h (λq10 h=>?_) λJ11 h hJ11=>oI h (λg12 h=>?_) λg12 h=>oG g12 (vI e GCon.f4 zjG a_c.low) (oG g12 (zb ty2 e) (oG g12 (zau e e) (oG g9 (zg e g12 e) (hJ11 h 4))))))))
    ·refine oG g9 (zm e) (jO 4 35 h (λq13 h=>?_) λJ14 h hJ14=>oI h (λg15 h=>?_) λg15 h=>oG g15 (vI e GCon.f4 zjG a_c.low) (oG g15 (zb ty2 e) (oG g15 (zcy e e) (oG g9 (zg e g15 e) (hJ14 h 4)))))
     ·refine oG g9 (zm e) (jO 13 49 h (λq16 h=>?_) λJ17 h hJ17=>oI h (λg18 h=>?_) λg18 h=>oG g18 (vI e GCon.f2 zky a_c.hasHigh) (oG g18 (zb ty4 e) (oG g18 (zm e) (jO 9 48 h (λq19 h=>?_) λJ20 h hJ20=>oI h (λg21 h=>?_) λg21 h=>oN g21 (oN g21 (oN g21 (oN g21 (oU (oU (oU (oN g21 (oG g18 (zg e g21 e) (hJ20 h 9)))))))))))))
      ·exact oV (zh e g9 e) (hJ8 h 10)
      ·exact oN g18 (oN g18 (oN g18 (oU (oU (oU (oU (oU (oU (oU (oU (oN g18 (oG g9 (zh e g18 e) (hJ17 h 13)))))))))))))
      ·exact oG g9 (zg e g18 e) (hJ17 h 5)
      refine oG g21 (vI e GCon.f5 zjj a_c.high) (oG g21 (zb ty2 e) (oG g21 (zau e e) (oG g21 (zm e) (jO 4 47 h (λq22 h=>?_) λJ23 h hJ23=>oI h (λg24 h=>?_) λg24 h=>oG g24 (vI e GCon.f5 zjj a_c.high) (oG g24 (zb ty2 e) (oG g24 (zcy e e) (oG g21 (zg e g24 e) (hJ23 h 4))))))))
      ·exact oG g18 (zh e g21 e) (hJ20 h 6)
      exact oN g24 (oN g24 (oN g24 (oG g21 (zh e g24 e) (hJ23 h 4))))
     exact oN g15 (oN g15 (oN g15 (oG g9 (zh e g15 e) (hJ14 h 4))))
    exact oN g12 (oN g12 (oN g12 (oG g9 (zh e g12 e) (hJ11 h 4))))
   exact oU (oU (oU (oU (oN g9 (oV (zg e g9 e) (hJ8 h 28))))))
  exact oG g6 (vI e GCon.f4 zjG a_c.low) (oG g6 (zb ty2 e) (oG g6 (vI e GCon.f5 zjj a_c.high) (oG g6 (zb ty2 e) (oG g6 (zcy e e) (oV (zh e g6 e) (hJ5 h 6))))))
 exact oG g3 (vI e GCon.f2 zky a_c.hasHigh) (oG g3 (zb ty4 e) (oV (zh e g3 e) (hJ2 h 3)))


theorem zqC {a_l a_v r} (h:zmR a_l a_v=some r):Ctr Tryz.prog 182 [isv a_l,isv a_v] [] (Pt [isv r] []):=by
 unfold zmR at h
 refine zi Tryz.func182 e λw0 S0 hT=>ws (an e (ss (an e (zn (lO 5 h e λL2 q1 Q15 h hL2 eL2 rL2=>ss (om e (om e (oV (vN e sl126) (oV (zau e e) (rn (zd h e (λ_ h=>?_) (λ_ h=>xn (eL2 _ _ (zw (zp (ws (ar e (ze (r1 e) k0 (iS h ▸ ⟨e,e⟩)))))))))))))))))))
 refine wk (zF (zn (ws (om e (om e (za h λy9 hy9 h=>oV (vX e e sl126 hy9) (oV (vI e GItem.f2 zkB y9.has) (oV (zb ty4 e) (om e (jO 8 25 h (λq10 h=>?_) λJ11 h hJ11=>oI h (λg12 h=>?_) λg12 h=>oN g12 (oN g12 (oN g12 (oN g12 (oN g12 (oN g12 (oN g12 (oV (zg e g12 e) (hJ11 h 8))))))))))))))))))
 ·refine rn (zd h e (λ_ h=>?_) (λ_ h=>zC (zs (zp (zj (om e (zy h λq14 h=>oV (zaa e e q14) (oa e (zN (hL2 h 15))))))))))
  exact ws (ar e (bn (rL2 _ (bn (ze (r1 e) k0 (iS h ▸ ⟨e,e⟩))))))
 exact oG g12 (zm e) (oG g12 (zm e) (za h λy13 hy13 h=>oG g12 (vX e e sl126 hy13) (oG g12 (vI e GItem.f1 zep y13.number) (oG g12 (zb ty2 e) (oG g12 (zm e) (oG g12 (zP e e) (oV (zh e g12 e) (hJ11 h 8))))))))


theorem zie {a_x a_n_ zY zaB r} (h:zho a_x a_n_=some r):Ctr Tryz.prog 152 [ptrv zY (Fld.id GMkOT),isv a_n_] [boxE zY (GMkO a_x zaB),vecE zaB a_x.l] (Pt [isv r.1] [boxE zY (GMkO r.2 zaB),vecE zaB r.2.l]):=by
 unfold zho at h
 refine zi Tryz.func152 e λw0 S0 hT=>ws (oT (tB e (an e (ws (an e (ws (an e (ss (an e (zn (zhf (zbC) (lP h Tok none (λq2 g2=>[(5,appv g2 q2.1),(6,isv q2.2.1),(7,isv q2.2.2)]) (λq2 g2=>[tokE g2]) (zB (j:=5) e zcs (zB (j:=6) e hI (zB (j:=7) e hI zay))) k1 λL3 q2 g2 Q666 h hL3 eL3 rL3=>ss (om e (oV (vI e GNode.f6 zid a_n_.root) (oV (zb ty3 e) (oV (zau e e) (rn (zd h e (λ_ h=>?_) (λ_ h=>xn (eL3 _ _ (zw (zp (ws (an e (ws (oa e (an e (ss ?_))))))))))))))))))))))))))))
 ·refine wk (zF (zn (ws (oV (vI e GNode.f4 zg5 a_n_.items) (oV (zb ty126 e) (om e (za h λy335 hy335 h=>oV (vX e e sl126 hy335) (oV (zb ty132 e) (oT (zX _ ze132 λb336=>oT (tS ty132 e e p0 y335 (rn (ss (oV (zu e GItem.f2 zkB) (oT (tL ty4 e p0 y335.has (oV (za2 e) (rn (jw h Unit (λq337 g337=>[(6,isv q337.1)]) (λq337 g337=>[boxE b336 (q337.2:GItem)]) k1 (λq337 g337 h=>?_) λJ338 h hJ338=>zd h e (λ_ h=>?_) (λ_ h=>zC (hJ338 h () 0)))))))))))))))))))))
  ·exact ws (oV (zu e GItem.f2 zkB) (oT (tS ty4 e e p0 ({ q337.2 with has:=false }) (rn (zj (om e (oT (tL ty132 e p0 ({ q337.2 with has:=false }) (oT (zA (l:=([{ q337.2 with has:=false }]:(List GItem))) el126 (.cons e hI .nil) e e (zam h λq352 h=>oT (zcj (l:=q2.1) (m:=([{ q337.2 with has:=false }]:(List GItem))) zkN e hI e zx (.there .here) q352 λt351=>oa e (rb (zp (zj (om e (zy h λq353 h=>oV (zaa e e q353) (oa e (zN (hL3 h t351 26))))))))))))))))))))
  refine zF (zn (lO 6 h e λL340 q339 Q349 h hL340 eL340 rL340=>ss (oV (vI e GNode.f4 zg5 a_n_.items) (oV (zb ty126 e) (oV (vI e GNode.f6 zid a_n_.root) (oV (zb ty3 e) (zaj h λq345 h=>oV (zhR (l:=a_n_.items) e hI sl126 (.inl ⟨e,e⟩) (.inr ⟨_,e,e⟩) q345.1 q345.2.1 q345.2.2) (om e (za h λy346 hy346 h=>oT (tC (zqC hy346) hT (s2 e e) k0 (rn (zd h e (λ_ h=>?_) (λ_ h=>xn (eL340 _ _ (zw (zp (ws (om e (oV (zu e GItem.f1 zep) (oT (tS ty2 e e p0 ({ y335 with number:=q339 }) (rn (zj (om e (zy h λq348 h=>oV (zaa e e q348) (oa e (zN ?_)))))))))))))))))))))))))))
  ·exact wk (zn (zj (om e (zy h λq347 h=>oV (zaa e e q347) (oa e (rb (hL340 h 11)))))))
  exact hJ338 h () 13
 refine oV (vI e GNode.f6 zid a_n_.root) (oV (zb ty3 e) (an e (zn (lP h Tok g2 (λq354 g354=>[(5,appv g354 q354.1),(9,isv q354.2.1),(10,isv q354.2.2.1),(11,isv q354.2.2.2.1),(12,isv q354.2.2.2.2)]) (λq354 g354=>[tokE g354]) (zB (j:=5) e hI (zB (j:=9) e hI (zB (j:=10) e hI (zB (j:=11) e hI (zB (j:=12) e hI zay))))) k1 λL355 q354 g354 Q664 h hL355 eL355 rL355=>ss (om e (oV (vI e GNode.f4 zg5 a_n_.items) (oV (zb ty126 e) (oV (vN e sl126) (oV (zau e e) (rn (zd h e (λ_ h=>?_) (λ_ h=>xn (eL355 _ _ (zw (zp (ss (an e (zn (lP h Unit () (λq601 g601=>[(11,isv q601.1),(15,isv q601.2)]) (λq601 g601=>[]) (zB (j:=11) e hI (zB (j:=15) e hI zay)) k0 λL602 q601 g601 Q663 h hL602 eL602 rL602=>ss (om e (om e (oV (zlX (l:=q354.1) e zx sl126) (oV (zau e e) (rn (zd h e (λ_ h=>?_) (λ_ h=>xn (eL602 _ _ ?_)))))))))))))))))))))))))))
 ·refine wk (zF (zn (ws (oV (vI e GNode.f4 zg5 a_n_.items) (oV (zb ty126 e) (om e (za h λy558 hy558 h=>oV (vX e e sl126 hy558) (oV (zb ty132 e) (oT (zX _ ze132 λb559=>oT (tS ty132 e e p0 y558 (rn (ss (oV (zu e GItem.f2 zkB) (oT (tL ty4 e p0 y558.has (oV (za2 e) (rn (jw h Unit (λq560 g560=>[(13,ptrv b559 (Fld.id GItem))]) (λq560 g560=>[boxE b559 (q560:GItem)]) k1 (λq560 g560 h=>?_) λJ561 h hJ561=>zd h e (λ_ h=>?_) (λ_ h=>zC (hJ561 h () 0)))))))))))))))))))))
  ·refine ws (om e (om e (jO 8 109 h (λq591 h=>?_) λJ592 h hJ592=>oI h (λg593 h=>?_) λg593 h=>oG g593 (zm e) (oG g593 (zm e) (jO 5 108 h (λq594 h=>?_) λJ595 h hJ595=>oI h (λg596 h=>?_) λg596 h=>oN g596 (oN g596 (oN g596 (oN g596 (oG g593 (zg e g596 e) (hJ595 h 5))))))))))
   ·exact an e (ws (oV (zu e GItem.f2 zkB) (oT (tS ty4 e e p0 ({ q560 with has:=false }) (rn (ws (oV (zu e GItem.f1 zep) (oT (tL ty2 e p0 q560.number (oa e (an e (zj (om e (oT (tL ty132 e p0 ({ q560 with has:=false }) (oT (zA (l:=([{ q560 with has:=false }]:(List GItem))) el126 (.cons e hI .nil) e e (zam h λq599 h=>oT (zcj (l:=q354.1) (m:=([{ q560 with has:=false }]:(List GItem))) zkN e hI e zx (.there .here) q599 λt598=>oa e (rb (zp (zj (om e (zy h λq600 h=>oV (zaa e e q600) (oa e (zN (hL355 h t598 37)))))))))))))))))))))))))))
   ·exact oN g593 (oN g593 (oU (oU (oU (oU (oN g593 (oV (zh e g593 e) (hJ592 h 8))))))))
   ·exact oV (zg e g593 e) (hJ592 h 4)
   exact oG g596 (zu e GItem.f1 zep) (oH g596 (tL ty2 e p0 q560.number (oG g596 (zm e) (oG g596 (zk6 e e) (oG g593 (zh e g596 e) (hJ595 h 5))))))
  refine ws (oV (zu e GItem.f1 zep) (oT (tS ty2 e e p0 ({ y558 with number:=0 }) (rn (ws (an e (zn (lP h Unit () (λq562 g562=>[(13,ptrv b559 (Fld.id GItem)),(14,isv q562.1)]) (λq562 g562=>[boxE b559 (q562.2:GItem)]) (zB (j:=13) e hI (zB (j:=14) e hI zay)) k1 λL563 q562 g562 Q590 h hL563 eL563 rL563=>ss (om e (om e (oV (zlX (l:=q354.1) e zx sl126) (oV (zau e e) (rn (zd h e (λ_ h=>?_) (λ_ h=>xn (eL563 _ _ (zw (hJ561 h () 8))))))))))))))))))
  refine wk (zF (jw h Unit (λq577 g577=>[(13,ptrv b559 (Fld.id GItem))]) (λq577 g577=>[boxE b559 (q577:GItem)]) k1 (λq577 g577 h=>?_) λJ578 h hJ578=>zn (ss (om e (om e (za h λy579 hy579 h=>oV (zlj (l:=q354.1) e zx e sl126 hy579) (oV (vI e GItem.f1 zep y579.number) (oV (zb ty2 e) (oV (zP e e) (rn (zd h e (λ_ h=>?_) (λ_ h=>wk (zF (zc3 13 .here e (λo581 hn582=>zH (.v 0 (.v 1 (.v 2 (.v 3 (.v 4 (.v 5 (.v 6 (.v 7 (.v 8 (.v 9 (.v 10 (.v 11 .nil)))))))))))) moOrd (by kernel_rfl) (rm e e (zl e (zP e e) (rm e e (jD 9 92 h (λq583 h=>?_) λJ584 h hJ584=>rJ h (λg585 h=>?_) λg585 h=>rG e g585 (zm e) (rG e g585 (zm e) (za h λy586 hy586 h=>rG e g585 (zlj (l:=q354.1) e zx e sl126 hy586) (rG e g585 (vI e GItem.f1 zep y586.number) (rG e g585 (zb ty2 e) (rG e g585 (zdM e GItem.f1 zep) ?_))))))))))))))))))))))))
  ·exact zj (om e (zy h λq589 h=>oV (zaa e e q589) (oa e (zN (hL563 h () 10)))))
  ·exact ws (om e (za h λy580 hy580 h=>oT (tC (zcw hy580) hT (s2 e e) (a2 (a2 k0)) (rn (ws (ar e (zD (bn (rL563 _ (bn (bn (rL355 _ (bn (ze (.as e (zeZ (α:=GItem)) .nil) k2 (iS h ▸ ⟨e,e⟩)))))))))))))))
  ·refine zak (zaO 13 hn582 e (zp (zd h e (λ_ h=>?_) (λ_ h=>zC (zs (hJ578 h () 12))))))
   exact zj (om e (om e (za h λy587 hy587 h=>oV (zlj (l:=q354.1) e zx e sl126 hy587) (oV (vI e GItem.f1 zep y587.number) (oV (zb ty2 e) (zy h λq588 h=>oV (zaa e e q588) (oV (zu e GItem.f1 zep) (oT (tS ty2 e e p0 ({ q562.2 with number:=(y587.number + 1) }) (rb (hJ578 h () 19)))))))))))
  ·exact rP e g585 (rP e g585 (rP e g585 (rP e g585 (rP e g585 (rP e g585 (rP e g585 (rP e g585 (zl e (zh e g585 e) (hJ584 h 9)))))))))
  exact rG e g585 (vP ty2 e m0 q562.2.number) (rG e g585 (zdT e e) (zl e (zg e g585 e) (hJ584 h 9)))
 ·refine wk (zF (zn (ws (an e (zn (lP h Unit () (λq633 g633=>[(11,isv q633.1),(16,isv q633.2)]) (λq633 g633=>[]) (zB (j:=11) e hI (zB (j:=16) e hI zay)) k0 λL634 q633 g633 Q659 h hL634 eL634 rL634=>ss (om e (om e (oV (zau e e) (rn (zd h e (λ_ h=>?_) (λ_ h=>xn (eL634 _ _ (zw (zs (zp (zj (om e (zy h λq658 h=>oV (zaa e e q658) (oa e (zN (hL602 h () 15))))))))))))))))))))))
  refine wk (zF (zn (zH (.v 0 (.v 1 (.v 2 (.v 3 (.v 4 (.v 5 (.v 6 (.v 7 (.v 8 (.v 9 (.v 10 (.v 11 (.v 12 (.v 13 (.v 14 (.v 15 (.v 16 (.v 17 (.v 18 (.v 19 (.v 20 (.v 21 (.v 22 (.v 23 (.v 24 (.v 25 (.v 26 (.v 27 .nil)))))))))))))))))))))))))))) moOrd (by kernel_rfl) (rm e e (rm e e (jD 12 141 h (λq647 h=>?_) λJ648 h hJ648=>rJ h (λg649 h=>?_) λg649 h=>rG e g649 (zm e) (rG e g649 (zm e) (za h λy650 hy650 h=>rG e g649 (zlj (l:=q354.1) e zx e sl126 hy650) (rG e g649 (vI e GItem.f0 zkx y650.name) (rG e g649 (zb ty9 e) (rG e g649 (zm e) (rG e g649 (zm e) (za h λy651 hy651 h=>rG e g649 (zlj (l:=q354.1) e zx e sl126 hy651) (rG e g649 (vI e GItem.f0 zkx y651.name) (rG e g649 (zb ty9 e) (rG e g649 (zaW eq9 e e) (zl e (zg e g649 e) (hJ648 h 12))))))))))))))))))
  ·refine rm e e (jD 12 154 h (λq652 h=>?_) λJ653 h hJ653=>rJ h (λg654 h=>?_) λg654 h=>rG e g654 (zm e) (rG e g654 (zm e) (za h λy655 hy655 h=>rG e g654 (zlj (l:=q354.1) e zx e sl126 hy655) (rG e g654 (vI e GItem.f1 zep y655.number) (rG e g654 (zb ty2 e) (rG e g654 (zm e) (rG e g654 (zm e) (za h λy656 hy656 h=>rG e g654 (zlj (l:=q354.1) e zx e sl126 hy656) (rG e g654 (vI e GItem.f1 zep y656.number) (rG e g654 (zb ty2 e) (rG e g654 (zP e e) (zl e (zg e g654 e) (hJ653 h 12)))))))))))))
   ·exact zl e (zaD e) (zak (zs (zp (zj (om e (zy h λq657 h=>oV (zaa e e q657) (oa e (zN (hL634 h () 14)))))))))
   exact rP e g654 (rP e g654 (rP e g654 (rP e g654 (rP e g654 (rP e g654 (rP e g654 (rP e g654 (rP e g654 (rP e g654 (rP e g654 (zl e (zh e g654 e) (hJ653 h 12))))))))))))
  exact rP e g649 (rP e g649 (rP e g649 (rP e g649 (rP e g649 (rP e g649 (rP e g649 (rP e g649 (rP e g649 (rP e g649 (rP e g649 (zl e (zh e g649 e) (hJ648 h 12))))))))))))
 refine zw (zp (ss (om e (rn (jw h Unit (λq660 g660=>[]) (λq660 g660=>[boxE zY (GMkO q660 zaB),vecE zaB q660.l]) (a1 (a1 k0)) (λq660 g660 h=>?_) λJ661 h hJ661=>zd h e (λ_ h=>?_) (λ_ h=>zC (hJ661 h () 0)))))))
 ·exact ws (om e (ar e (ze (.as e zx .nil) k2 (iS h ▸ ⟨e,e⟩))))
 exact zj (om e (za h λy662 hy662 h=>oT (tC (zcw hy662) hT (s2 e e) (a1 (a1 k0)) (zN (hJ661 h () 2)))))


theorem zmb {a_c a_v r} (h:zjA a_c a_v=some r):Ctr Tryz.prog 89 [isv a_c,isv a_v] [] (Pt [isv r] []):=by
 unfold zjA at h
 refine zi Tryz.func89 e λw0 S0 hT=>ws (oT (tB e (an e (ws (oV (vI e GCon.f0 znk a_c.has) (oV (zb ty4 e) (oV (za2 e) (om e (jO 21 29 h (λq1 h=>?_) λJ2 h hJ2=>oI h (λg3 h=>?_) λg3 h=>oG g3 (vI e GCon.f1 zkF a_c.hasLow) (oG g3 (zb ty4 e) (oG g3 (za2 e) (oG g3 (zm e) (jO 5 17 h (λq4 h=>?_) λJ5 h hJ5=>oI h (λg6 h=>?_) λg6 h=>oG g6 (zm e) (oG g6 (vI e GCon.f4 zjG a_c.low) (oG g6 (zb ty2 e) (oG g6 (zdT e e) (oG g3 (zg e g6 e) (hJ5 h 5))))))))))))))))))
 ·exact ar e (ze (r1 e) k0 (iS h ▸ ⟨e,e⟩))
 ·exact oN g3 (oN g3 (oN g3 (oN g3 (oU (oU (oU (oU (oN g3 (oN g3 (oU (oU (oU (oU (oU (oU (oU (oU (oU (oN g3 (oV (zh e g3 e) (hJ2 h 21)))))))))))))))))))))
 ·refine oG g3 (zm e) (jO 10 28 h (λq7 h=>?_) λJ8 h hJ8=>oI h (λg9 h=>?_) λg9 h=>oN g9 (oN g9 (oN g9 (oN g9 (oU (oU (oU (oU (oN g9 (oG g3 (zg e g9 e) (hJ8 h 10)))))))))))
  ·exact oV (zg e g3 e) (hJ2 h 8)
  refine oG g9 (vI e GCon.f2 zky a_c.hasHigh) (oG g9 (zb ty4 e) (oG g9 (za2 e) (oG g9 (zm e) (jO 5 27 h (λq10 h=>?_) λJ11 h hJ11=>oI h (λg12 h=>?_) λg12 h=>oG g12 (zm e) (oG g12 (vI e GCon.f5 zjj a_c.high) (oG g12 (zb ty2 e) (oG g12 (zk6 e e) (oG g9 (zg e g12 e) (hJ11 h 5)))))))))
  ·exact oG g3 (zh e g9 e) (hJ8 h 6)
  exact oN g12 (oN g12 (oN g12 (oN g12 (oG g9 (zh e g12 e) (hJ11 h 5)))))
 exact oN g6 (oN g6 (oN g6 (oN g6 (oG g3 (zh e g6 e) (hJ5 h 5)))))


theorem zcZ {a_s r} (h:zbr a_s=some r):Ctr Tryz.prog 143 [isv a_s] [] (Pt [isv r] []):=by
 unfold zbr at h
 refine zi Tryz.func143 e λw0 S0 hT=>ws (an e (zF (ztT e e (wk (zF (zH (.v 0 (.v 1 (.v 2 (.v 3 (.v 4 (.v 5 (.v 6 (.v 7 (.v 8 (.v 9 (.v 10 (.v 11 (.v 12 (.v 13 (.v 14 (.v 15 (.v 16 (.v 17 (.v 18 (.v 19 (.v 20 (.v 21 (.v 22 (.v 23 (.v 24 (.v 25 (.v 26 (.v 27 (.v 28 (.v 29 (.v 30 (.v 31 (.v 32 (.v 33 (.v 34 (.v 35 (.v 36 (.v 37 (.v 38 (.v 39 (.v 40 (.v 41 (.v 42 (.v 43 (.v 44 (.v 45 (.v 46 .nil))))))))))))))))))))))))))))))))))))))))))))))) moOrd (by kernel_rfl) (rm e e (za h λy1 hy1 h=>zl e (vX e e sl22 hy1) (zl e (zb ty5 e) (zl e (zfw Tryz.underlying5 Tryz.underlying102 e) (rm e e (za h λy2 hy2 h=>zl e (vX e e sl22 hy2) (zl e (zb ty5 e) (zl e (zfw Tryz.underlying5 Tryz.underlying102 e) (zam h λq3 h=>zl e (zg7 e e q3) (zl e (zg2 e e) (rm e e (za h λy4 hy4 h=>zl e (vX e e sl22 hy4) (zl e (zb ty5 e) (zl e (zfw Tryz.underlying5 Tryz.underlying102 e) (zam h λq5 h=>zl e (zg7 e e q5) (zl e (zg2 e e) (rm e e ?_)))))))))))))))))))))))
 refine za h λy6 hy6 h=>zl e (vX e e sl22 hy6) (zl e (zb ty5 e) (zl e (zfw Tryz.underlying5 Tryz.underlying102 e) (zam h λq7 h=>zl e (zg7 e e q7) (zl e (zg2 e e) (rm e e (za h λy8 hy8 h=>zl e (vX e e sl22 hy8) (zl e (zb ty5 e) (zl e (zfw Tryz.underlying5 Tryz.underlying102 e) (zam h λq9 h=>zl e (zg7 e e q9) (zl e (zg2 e e) (rm e e (za h λy10 hy10 h=>zl e (vX e e sl22 hy10) (zl e (zb ty5 e) (zl e (zfw Tryz.underlying5 Tryz.underlying102 e) (zam h λq11 h=>zl e (zg7 e e q11) (zl e (zg2 e e) (rm e e (za h λy12 hy12 h=>zl e (vX e e sl22 hy12) (zl e (zb ty5 e) (zl e (zfw Tryz.underlying5 Tryz.underlying102 e) (zam h λq13 h=>zl e (zg7 e e q13) ?_)))))))))))))))))))))
 exact zl e (zg2 e e) (rm e e (za h λy14 hy14 h=>zl e (vX e e sl22 hy14) (zl e (zb ty5 e) (zl e (zfw Tryz.underlying5 Tryz.underlying102 e) (zam h λq15 h=>zl e (zg7 e e q15) (zl e (zg2 e e) (zl e (zaD e) (zak (zp (zbK (ze (r1 e) k0 (iS h ▸ ⟨e,e⟩))))))))))))


theorem zjk {a_p r} (h:zdo a_p=some r):Ctr Tryz.prog 90 [isv a_p] [] (Pt [isv r] []):=by
 unfold zdo at h
 refine zi Tryz.func90 e λw0 S0 hT=>ws (an e (ws (om e (om e (oV (vN e sl22) (om e (oV (vN e sl22) (zaj h λq1 h=>oV (zwy (l:=a_p) e hI sl22 e e q1.1 q1.2) (an e (zF (zn (lO 0 h e λL3 q2 Q194 h hL3 eL3 rL3=>ss (om e (oV (vN e sl22) (oV (zcy e e) (rn (zd h e (λ_ h=>?_) (λ_ h=>xn (eL3 _ _ (zw (zp (ws (ar e (ze (r1 e) k0 (iS h ▸ ⟨e,e⟩)))))))))))))))))))))))))
 refine wk (zn (ws (om e (za h λy99 hy99 h=>oV (vX e e sl22 hy99) (oV (zb ty5 e) (an e (ss (om e (oV (zfX e e) (rn (zd h e (λ_ h=>?_) (λ_ h=>wk (ws (om e (oV (zwF zqb ar97 e) (oV (zwn hT ty5 e _ zjI) (an e (ws (om e (oV (znS e e) (oV (zp8 Tryz.underlying5 Tryz.underlying3 e) (an e (ws (om e (zam h λq140 h=>oV (zrj e e q140) (zam h λq141 h=>oV (zwH zjI ar100 e q141) ?_))))))))))))))))))))))))))
 ·refine ws (om e (zaj h λq100 h=>oV (zhR (l:=q2) e hI sl22 (.inr ⟨_,e,e⟩) (.inl ⟨e,e⟩) q100.1 q100.2.1 q100.2.2) (an e (ss (om e (oV (vN e sl22) (oV (zcy e e) (om e (jO 5 31 h (λq101 h=>?_) λJ102 h hJ102=>oI h (λg103 h=>?_) λg103 h=>oN g103 (oN g103 (oN g103 (oN g103 (oV (zg e g103 e) (hJ102 h 5))))))))))))))
  ·refine rn (jW 0 h (λq105 h=>?_) λJ106 h hJ106=>zd h e (λ_ h=>?_) (λ_ h=>zC (hJ106 h 0)))
   ·exact xn (zw (hL3 h 19))
   refine ws (om e (zaj h λq107 h=>oV (zhR (l:=((q2.take ((q2.length:Int)).toNat).drop ((1:Int)).toNat)) e hI sl22 (.inr ⟨_,e,e⟩) (.inl ⟨e,e⟩) q107.1 q107.2.1 q107.2.2) (an e (zF (zH (.v 0 (.v 1 (.v 2 (.v 3 (.v 4 (.v 6 (.v 7 (.t 5 (.t 8 (.v 9 (.v 10 (.v 11 (.v 12 .nil))))))))))))) moOrd (by kernel_rfl) (rm e e (zl e (vN e sl22) (zl e (zcy e e) (rm e e (jD 9 46 h (λq108 h=>?_) λJ109 h hJ109=>rJ h (λg110 h=>?_) λg110 h=>rP e g110 (rP e g110 (rP e g110 (zey e e (dj:=37) e g110 (zey e e (dj:=37) e g110 (rP e g110 (rP e g110 (rP e g110 (zl e (zg e g110 e) (hJ109 h 9)))))))))))))))))))
   ·refine zak (zp (zd h e (λ_ h=>?_) (λ_ h=>zC (hJ106 h 8))))
    refine ws (om e (zaj h λq114 h=>oV (zhR (l:=((((q2.take ((q2.length:Int)).toNat).drop ((1:Int)).toNat).take ((((q2.take ((q2.length:Int)).toNat).drop ((1:Int)).toNat).length:Int)).toNat).drop ((8:Int)).toNat)) e hI sl22 (.inr ⟨_,e,e⟩) (.inl ⟨e,e⟩) q114.1 q114.2.1 q114.2.2) (an e (zn (lO 0 h e λL116 q115 Q139 h hL116 eL116 rL116=>zF (zF (zH (.v 0 (.v 1 (.v 2 (.v 3 (.v 4 (.v 6 (.v 7 (.v 10 (.v 11 (.v 13 (.v 14 (.t 5 (.t 8 (.v 9 (.t 12 (.t 15 (.v 16 (.v 17 (.v 18 (.v 19 (.v 20 .nil))))))))))))))))))))) moOrd (by kernel_rfl) (rm e e (zl e (vN e sl22) (zl e (zcy e e) (rm e e (jD 17 69 h (λq128 h=>?_) λJ129 h hJ129=>rJ h (λg130 h=>?_) λg130 h=>rP e g130 (rP e g130 (rP e g130 (rP e g130 (rP e g130 (rP e g130 (rP e g130 (zey e e (dj:=52) e g130 (zey e e (dj:=52) e g130 (rP e g130 (zey e e (dj:=52) e g130 (zey e e (dj:=52) e g130 (rP e g130 (rP e g130 ?_)))))))))))))))))))))))))
    ·refine zak (zp (zd h e (λ_ h=>?_) (λ_ h=>xn (eL116 _ _ (zw (hJ106 h 17))))))
     exact wk (zn (zj (om e (zaj h λq138 h=>oV (zhR (l:=q115) e hI sl22 (.inr ⟨_,e,e⟩) (.inl ⟨e,e⟩) q138.1 q138.2.1 q138.2.2) (oa e (rb (hL116 h 9)))))))
    ·exact rG e g130 (zm e) (rG e g130 (zm e) (zaj h λq131 h=>rG e g130 (zhR (l:=q115) e hI sl22 (.inr ⟨_,e,e⟩) (.inl ⟨e,e⟩) q131.1 q131.2.1 q131.2.2) (rG e g130 (zm e) (zaj h λq132 h=>rG e g130 (zhR (l:=q115) e hI sl22 (.inr ⟨_,e,e⟩) (.inl ⟨e,e⟩) q132.1 q132.2.1 q132.2.2) (rG e g130 (zm e) (zaj h λq133 h=>rG e g130 (zhR (l:=q115) e hI sl22 (.inr ⟨_,e,e⟩) (.inl ⟨e,e⟩) q133.1 q133.2.1 q133.2.2) (za h λy134 hy134 h=>rH e g130 (tC (zcZ hy134) hT (s1 e) k0 (za h λy135 hy135 h=>rH e g130 (tC (zcZ hy135) hT (s1 e) k0 (rG e g130 (zg2 e e) (za h λy136 hy136 h=>rH e g130 (tC (zcZ hy136) hT (s1 e) k0 (za h λy137 hy137 h=>rH e g130 (tC (zcZ hy137) hT (s1 e) k0 (rG e g130 (zg2 e e) (rG e g130 (zg2 e e) (rG e g130 (zpU e e) (rG e g130 (zne e e) (zl e (zh e g130 e) (hJ129 h 17)))))))))))))))))))))
    exact rP e g130 (rP e g130 (zl e (zg e g130 e) (hJ129 h 17)))
   exact rG e g110 (zm e) (rG e g110 (zm e) (zaj h λq111 h=>rG e g110 (zhR (l:=((((q2.take ((q2.length:Int)).toNat).drop ((1:Int)).toNat).take ((((q2.take ((q2.length:Int)).toNat).drop ((1:Int)).toNat).length:Int)).toNat).drop ((8:Int)).toNat)) e hI sl22 (.inr ⟨_,e,e⟩) (.inl ⟨e,e⟩) q111.1 q111.2.1 q111.2.2) (za h λy112 hy112 h=>rH e g110 (tC (zcZ hy112) hT (s1 e) k0 (za h λy113 hy113 h=>rH e g110 (tC (zcZ hy113) hT (s1 e) k0 (rG e g110 (zg2 e e) (rG e g110 (zpU e e) (rG e g110 (zne e e) (zl e (zh e g110 e) (hJ109 h 9)))))))))))
  exact oG g103 (zm e) (za h λy104 hy104 h=>oH g103 (tC (zcZ hy104) hT (s1 e) k0 (oG g103 (zpU e e) (oG g103 (zne e e) (oV (zh e g103 e) (hJ102 h 5))))))
 refine oV (zwt hT ty99 e q141 _ zqb) (oT (zX _ ze99 λb142=>oT (tS ty99 e e p0 (tab2 (shr8 (tab1 y99) (4:UInt64).toNat)) (zah (zaJ 6 .here e) (rn (ws (om e (rn (zn (ws (oV (zP e e) (an e (zd h e (λ_ h=>?_) (λ_ h=>ws (oV (zP e e) (an e (zd h e (λ_ h=>?_) (λ_ h=>ws (oV (zP e e) (an e (zd h e (λ_ h=>?_) (λ_ h=>ws (ar e (za8 (za8 (rL3 _ (bn (ze (r1 e) k0 (iS h ▸ ⟨e,e⟩)))))))))))))))))))))))))))))
 ·refine zF (zF (zH (.v 0 (.v 1 (.v 2 (.v 3 (.v 4 (.v 5 (.v 6 (.v 7 (.v 8 (.v 9 (.v 10 (.v 11 (.v 12 (.v 13 (.v 14 (.v 15 (.v 16 (.v 17 (.v 18 .nil))))))))))))))))))) moOrd (by kernel_rfl) (rm e e (zl e (vN e sl22) (zl e (zau e e) (rm e e (jD 7 95 h (λq143 h=>?_) λJ144 h hJ144=>rJ h (λg145 h=>?_) λg145 h=>rG e g145 (zm e) (za h λy146 hy146 h=>rG e g145 (vX e e sl22 hy146) (rG e g145 (zb ty5 e) (rG e g145 (vI e GAcc.f0 zqZ ((tab2 (shr8 (tab1 y99) (4:UInt64).toNat)).lo)) (rG e g145 (zb ty5 e) (rG e g145 (zfX e e) (zl e (zg e g145 e) (hJ144 h 7))))))))))))))
  ·refine rm e e (jD 7 103 h (λq147 h=>?_) λJ148 h hJ148=>rJ h (λg149 h=>?_) λg149 h=>rG e g149 (vI e GAcc.f1 zrq ((tab2 (shr8 (tab1 y99) (4:UInt64).toNat)).hi)) (rG e g149 (zb ty5 e) (rG e g149 (zm e) (za h λy150 hy150 h=>rG e g149 (vX e e sl22 hy150) (rG e g149 (zb ty5 e) (rG e g149 (zfX e e) (zl e (zg e g149 e) (hJ148 h 7))))))))
   ·refine zak (zp (zd h e (λ_ h=>?_) (λ_ h=>wk (zj (om e (zaj h λq151 h=>oV (zhR (l:=q2) e hI sl22 (.inr ⟨_,e,e⟩) (.inl ⟨e,e⟩) q151.1 q151.2.1 q151.2.2) (oa e (rb (zs (hL3 h 37))))))))))
    exact ws (ar e (zD (za8 (za8 (rL3 _ (bn (ze (r1 e) k0 (iS h ▸ ⟨e,e⟩))))))))
   exact rP e g149 (rP e g149 (rP e g149 (rP e g149 (rP e g149 (rP e g149 (zl e (zh e g149 e) (hJ148 h 7)))))))
  exact rP e g145 (rP e g145 (rP e g145 (rP e g145 (rP e g145 (rP e g145 (zl e (zh e g145 e) (hJ144 h 7)))))))
 ·refine zF (zF (zH (.v 0 (.v 1 (.v 2 (.v 3 (.v 4 (.v 5 (.v 6 (.v 7 (.v 8 (.v 9 (.v 10 (.v 11 (.v 12 (.v 13 (.v 14 (.v 15 (.v 16 (.v 17 (.v 18 (.v 19 (.v 20 (.v 21 (.v 22 (.v 23 (.v 24 (.v 25 (.v 26 (.v 27 (.v 28 (.v 29 (.v 30 .nil))))))))))))))))))))))))))))))) moOrd (by kernel_rfl) (rm e e (zl e (vN e sl22) (zl e (zau e e) (rm e e (jD 7 118 h (λq152 h=>?_) λJ153 h hJ153=>rJ h (λg154 h=>?_) λg154 h=>rG e g154 (zm e) (za h λy155 hy155 h=>rG e g154 (vX e e sl22 hy155) (rG e g154 (zb ty5 e) (rG e g154 (vI e GAcc.f0 zqZ ((tab2 (shr8 (tab1 y99) (4:UInt64).toNat)).lo)) (rG e g154 (zb ty5 e) (rG e g154 (zfX e e) (zl e (zg e g154 e) (hJ153 h 7))))))))))))))
  ·refine rm e e (jD 7 126 h (λq156 h=>?_) λJ157 h hJ157=>rJ h (λg158 h=>?_) λg158 h=>rG e g158 (vI e GAcc.f1 zrq ((tab2 (shr8 (tab1 y99) (4:UInt64).toNat)).hi)) (rG e g158 (zb ty5 e) (rG e g158 (zm e) (za h λy159 hy159 h=>rG e g158 (vX e e sl22 hy159) (rG e g158 (zb ty5 e) (rG e g158 (zfX e e) (zl e (zg e g158 e) (hJ157 h 7))))))))
   ·refine rm e e (jD 5 132 h (λq160 h=>?_) λJ161 h hJ161=>rJ h (λg162 h=>?_) λg162 h=>rG e g162 (zm e) (za h λy163 hy163 h=>rG e g162 (vX e e sl22 hy163) (rG e g162 (zb ty5 e) (rG e g162 (zfX e e) (zl e (zg e g162 e) (hJ161 h 5))))))
    ·refine rm e e (jD 5 138 h (λq164 h=>?_) λJ165 h hJ165=>rJ h (λg166 h=>?_) λg166 h=>rG e g166 (zm e) (za h λy167 hy167 h=>rG e g166 (vX e e sl22 hy167) (rG e g166 (zb ty5 e) (rG e g166 (zfX e e) (zl e (zg e g166 e) (hJ165 h 5))))))
     ·refine zak (zp (zd h e (λ_ h=>?_) (λ_ h=>wk (zj (om e (zaj h λq168 h=>oV (zhR (l:=q2) e hI sl22 (.inr ⟨_,e,e⟩) (.inl ⟨e,e⟩) q168.1 q168.2.1 q168.2.2) (oa e (rb (zs (hL3 h 43))))))))))
      exact ws (ar e (zD (za8 (za8 (rL3 _ (bn (ze (r1 e) k0 (iS h ▸ ⟨e,e⟩))))))))
     exact rP e g166 (rP e g166 (rP e g166 (rP e g166 (zl e (zh e g166 e) (hJ165 h 5)))))
    exact rP e g162 (rP e g162 (rP e g162 (rP e g162 (zl e (zh e g162 e) (hJ161 h 5)))))
   exact rP e g158 (rP e g158 (rP e g158 (rP e g158 (rP e g158 (rP e g158 (zl e (zh e g158 e) (hJ157 h 7)))))))
  exact rP e g154 (rP e g154 (rP e g154 (rP e g154 (rP e g154 (rP e g154 (zl e (zh e g154 e) (hJ153 h 7)))))))
 refine zF (zF (zH (.v 0 (.v 1 (.v 2 (.v 3 (.v 4 (.v 5 (.v 6 (.v 7 (.v 8 (.v 9 (.v 10 (.v 11 (.v 12 (.v 13 (.v 14 (.v 15 (.v 16 (.v 17 (.v 18 (.v 19 (.v 20 (.v 21 (.v 22 (.v 23 (.v 24 (.v 25 (.v 26 (.v 27 (.v 28 (.v 29 (.v 30 (.v 31 (.v 32 (.v 33 (.v 34 (.v 35 (.v 36 (.v 37 (.v 38 (.v 39 (.v 40 (.v 41 (.v 42 .nil))))))))))))))))))))))))))))))))))))))))))) moOrd (by kernel_rfl) (rm e e (zl e (vN e sl22) (zl e (zau e e) (rm e e (jD 7 153 h (λq169 h=>?_) λJ170 h hJ170=>rJ h (λg171 h=>?_) λg171 h=>rG e g171 (zm e) (za h λy172 hy172 h=>rG e g171 (vX e e sl22 hy172) (rG e g171 (zb ty5 e) (rG e g171 (vI e GAcc.f0 zqZ ((tab2 (shr8 (tab1 y99) (4:UInt64).toNat)).lo)) (rG e g171 (zb ty5 e) (rG e g171 (zfX e e) (zl e (zg e g171 e) (hJ170 h 7))))))))))))))
 ·refine rm e e (jD 7 161 h (λq173 h=>?_) λJ174 h hJ174=>rJ h (λg175 h=>?_) λg175 h=>rG e g175 (vI e GAcc.f1 zrq ((tab2 (shr8 (tab1 y99) (4:UInt64).toNat)).hi)) (rG e g175 (zb ty5 e) (rG e g175 (zm e) (za h λy176 hy176 h=>rG e g175 (vX e e sl22 hy176) (rG e g175 (zb ty5 e) (rG e g175 (zfX e e) (zl e (zg e g175 e) (hJ174 h 7))))))))
  ·refine rm e e (jD 5 167 h (λq177 h=>?_) λJ178 h hJ178=>rJ h (λg179 h=>?_) λg179 h=>rG e g179 (zm e) (za h λy180 hy180 h=>rG e g179 (vX e e sl22 hy180) (rG e g179 (zb ty5 e) (rG e g179 (zfX e e) (zl e (zg e g179 e) (hJ178 h 5))))))
   ·refine rm e e (jD 5 173 h (λq181 h=>?_) λJ182 h hJ182=>rJ h (λg183 h=>?_) λg183 h=>rG e g183 (zm e) (za h λy184 hy184 h=>rG e g183 (vX e e sl22 hy184) (rG e g183 (zb ty5 e) (rG e g183 (zfX e e) (zl e (zg e g183 e) (hJ182 h 5))))))
    ·refine rm e e (jD 5 179 h (λq185 h=>?_) λJ186 h hJ186=>rJ h (λg187 h=>?_) λg187 h=>rG e g187 (zm e) (za h λy188 hy188 h=>rG e g187 (vX e e sl22 hy188) (rG e g187 (zb ty5 e) (rG e g187 (zfX e e) (zl e (zg e g187 e) (hJ186 h 5))))))
     ·refine rm e e (jD 5 185 h (λq189 h=>?_) λJ190 h hJ190=>rJ h (λg191 h=>?_) λg191 h=>rG e g191 (zm e) (za h λy192 hy192 h=>rG e g191 (vX e e sl22 hy192) (rG e g191 (zb ty5 e) (rG e g191 (zfX e e) (zl e (zg e g191 e) (hJ190 h 5))))))
      ·refine zak (zp (zd h e (λ_ h=>?_) (λ_ h=>wk (zj (om e (zaj h λq193 h=>oV (zhR (l:=q2) e hI sl22 (.inr ⟨_,e,e⟩) (.inl ⟨e,e⟩) q193.1 q193.2.1 q193.2.2) (oa e (rb (zs (hL3 h 49))))))))))
       exact ws (ar e (zD (za8 (za8 (rL3 _ (bn (ze (r1 e) k0 (iS h ▸ ⟨e,e⟩))))))))
      exact rP e g191 (rP e g191 (rP e g191 (rP e g191 (zl e (zh e g191 e) (hJ190 h 5)))))
     exact rP e g187 (rP e g187 (rP e g187 (rP e g187 (zl e (zh e g187 e) (hJ186 h 5)))))
    exact rP e g183 (rP e g183 (rP e g183 (rP e g183 (zl e (zh e g183 e) (hJ182 h 5)))))
   exact rP e g179 (rP e g179 (rP e g179 (rP e g179 (zl e (zh e g179 e) (hJ178 h 5)))))
  exact rP e g175 (rP e g175 (rP e g175 (rP e g175 (rP e g175 (rP e g175 (zl e (zh e g175 e) (hJ174 h 7)))))))
 exact rP e g171 (rP e g171 (rP e g171 (rP e g171 (rP e g171 (rP e g171 (zl e (zh e g171 e) (hJ170 h 7)))))))


theorem zkh {a_x a_i a_v zY zaB r} (h:zfY a_x a_i a_v=some r):Ctr Tryz.prog 183 [ptrv zY (Fld.id GMkOT),isv a_i,isv a_v] [boxE zY (GMkO a_x zaB),vecE zaB a_x.l] (Pt [isv r.1] [boxE zY (GMkO r.2 zaB),vecE zaB r.2.l]):=by
 unfold zfY at h
 refine zi Tryz.func183 e λw0 S0 hT=>ws (oT (zkn (y:=a_v) e hI λb2=>oT (zX _ ze26 λb3=>rn (ws (om e (oV (zf e) (oV (zu e zc9 zet) (oT (zaS (R:=vecv zaB (a_x.l.length)) ty29 e p2 isvV1 (om e (zaj h λq4 h=>oV (zdw (α:=GTyp) sl29 e e q4.1 q4.2) (za h λy5 hy5 h=>oT (zeS ty129 e (.there (.there (.there .here))) hy5 (oT (zX _ ze129 λb6=>oT (tS ty129 e e p0 y5 (zah (zaJ 7 .here e) (rn (ws (oV (zu e Val.f0 zdy) (oT (tL ty3 e p1 a_v.kind (oV (vI e GTyp.f0 zdI y5.kind) (oV (zb ty3 e) (oV (zP e e) (an e (ss (oV (vI e GTyp.f0 zdI y5.kind) (oV (zb ty3 e) (rn ?_))))))))))))))))))))))))))))))
 refine jw h Unit (λq7 g7=>[(5,ptrv b2 (Fld.id Val)),(8,isv q7.1)]) (λq7 g7=>[boxE b2 (q7.2:Val)]) (a1 k0) (λq7 g7 h=>?_) λJ8 h hJ8=>zn (ss (oV (zP e e) (an e (jW 24 h (λq9 h=>?_) λJ10 h hJ10=>zd h e (λ_ h=>?_) (λ_ h=>zj (oV (zP e e) (oa e (zN (hJ10 h 2)))))))))
 ·refine ss (om e (oV (za2 e) (rn (jw h Unit (λq51 g51=>[]) (λq51 g51=>[boxE zY (GMkO q51 zaB),vecE zaB q51.l]) (a2 (a2 k0)) (λq51 g51 h=>?_) λJ52 h hJ52=>zd h e (λ_ h=>?_) (λ_ h=>zC (hJ52 h () 0))))))
  ·exact ws (oT (tL ty26 e p2 q7.2 (oT (tS ty26 e e p3 q7.2 (rn (zbK (ze (.cell e .here ty26 .nil) (a1 (a1 k0)) (iS h ▸ ⟨e,e⟩))))))))
  exact zj (om e (za h λy53 hy53 h=>oT (tC (zcw hy53) hT (s2 e e) (a2 (a2 k0)) (zN (hJ52 h () 2)))))
 ·refine zd h e (λ_ h=>?_) (λ_ h=>ws (oV (zP e e) (an e (zd h e (λ_ h=>?_) (λ_ h=>ss (oV (zP e e) (an e (jW 37 h (λq15 h=>?_) λJ16 h hJ16=>zd h e (λ_ h=>?_) (λ_ h=>zj (oV (zP e e) (oa e (zN (hJ16 h 2)))))))))))))
  ·exact zC (zs (hJ8 h () 3))
  ·refine zj (om e (om e (jO 6 36 h (λq11 h=>?_) λJ12 h hJ12=>oI h (λg13 h=>?_) λg13 h=>oN g13 (oN g13 (oN g13 (oN g13 (oN g13 (oV (zg e g13 e) (hJ12 h 6)))))))))
   ·exact oa e (rb (hJ8 h () 9))
   exact oG g13 (vI e GTyp.f2 zhw y5.con) (oG g13 (zb ty125 e) (oG g13 (zu e Val.f1 zcB) (oH g13 (tL ty2 e p1 a_v.n (za h λy14 hy14 h=>oH g13 (tC (zmb hy14) hT (s2 e e) k0 (oV (zh e g13 e) (hJ12 h 6))))))))
  ·refine zd h e (λ_ h=>?_) (λ_ h=>ws (oV (zP e e) (an e (zd h e (λ_ h=>?_) (λ_ h=>zj (oa e (rb (hJ8 h () 11))))))))
   ·refine zj (om e (om e (jO 7 48 h (λq17 h=>?_) λJ18 h hJ18=>oI h (λg19 h=>?_) λg19 h=>oN g19 (oN g19 (oN g19 (oN g19 (oN g19 (oN g19 (oV (zg e g19 e) (hJ18 h 7))))))))))
    ·refine om e (jO 9 58 h (λq21 h=>?_) λJ22 h hJ22=>oI h (λg23 h=>?_) λg23 h=>oN g23 (oN g23 (oN g23 (oN g23 (oU (oU (oU (oN g23 (oV (zg e g23 e) (hJ22 h 9))))))))))
     ·exact oa e (rb (hJ8 h () 14))
     refine oG g23 (vI e GTyp.f0 zdI y5.kind) (oG g23 (zb ty3 e) (oG g23 (zP e e) (oG g23 (zm e) (jO 4 57 h (λq24 h=>?_) λJ25 h hJ25=>oI h (λg26 h=>?_) λg26 h=>oG g26 (zu e Val.f2 zdR) (oH g26 (tL ty22 e p1 a_v.b (za h λy27 hy27 h=>oH g26 (tC (zjk hy27) hT (s1 e) k0 (oG g23 (zg e g26 e) (hJ25 h 4))))))))))
     ·exact oV (zh e g23 e) (hJ22 h 6)
     exact oN g26 (oN g26 (oN g26 (oG g23 (zh e g26 e) (hJ25 h 4))))
    exact oG g19 (vI e GTyp.f2 zhw y5.con) (oG g19 (zb ty125 e) (oG g19 (zu e Val.f2 zdR) (oH g19 (tL ty22 e p1 a_v.b (oG g19 (vN e sl22) (za h λy20 hy20 h=>oH g19 (tC (zmb hy20) hT (s2 e e) k0 (oV (zh e g19 e) (hJ18 h 7)))))))))
   refine ws (om e (rn (zd h e (λ_ h=>?_) (λ_ h=>zC (zs (hJ8 h () 11))))))
   refine ws (an e (ws (an e (zn (lP h Unit () (λq28 g28=>[(5,ptrv b2 (Fld.id Val)),(8,isv q28.1),(9,isv q28.2.1)]) (λq28 g28=>[boxE b2 (q28.2.2:Val)]) (zB (j:=5) e hI (zB (j:=8) e hI (zB (j:=9) e hI zay))) (a1 k0) λL29 q28 g28 Q50 h hL29 eL29 rL29=>ss (om e (oV (vI e GTyp.f5 zik y5.root) (oV (zb ty3 e) (oV (zau e e) (om e (jO 3 69 h (λq40 h=>?_) λJ41 h hJ41=>oI h (λg42 h=>?_) λg42 h=>oN g42 (oN g42 (oV (zg e g42 e) (hJ41 h 3))))))))))))))
   ·refine rn (zd h e (λ_ h=>?_) (λ_ h=>xn (eL29 _ _ (zw (zs (hJ8 h () 22))))))
    refine wk (zF (jw h Unit (λq43 g43=>[(5,ptrv b2 (Fld.id Val)),(8,isv q43.1)]) (λq43 g43=>[boxE b2 (q43.2:Val)]) k1 (λq43 g43 h=>?_) λJ44 h hJ44=>zn (zF (zc3 5 .here e (λo45 hn46=>zH (.v 0 (.v 1 (.v 2 (.v 3 (.v 4 (.v 5 (.v 6 (.v 7 (.v 8 (.v 9 .nil)))))))))) moOrd (by kernel_rfl) (zl e (vI e GTyp.f3 zh7 y5.items) (zl e (zb ty126 e) (rm e e (za h λy47 hy47 h=>zl e (vX e e sl126 hy47) (zl e (vI e GItem.f0 zkx y47.name) (zl e (zb ty9 e) (zl e (zdM e Val.f2 zdR) (zl e (vP ty22 e m0 q28.2.2.b) (zl e (zmM (l:=q28.2.2.b) Tryz.underlying22 Tryz.underlying5 Tryz.underlying9 e hI) (zl e (zaW eq9 e e) (zak (zaO 5 hn46 e (zp (zd h e (λ_ h=>?_) (λ_ h=>zC (zs (hJ44 h () 12))))))))))))))))))))))
    ·exact zj (om e (zy h λq49 h=>oV (zaa e e q49) (oa e (zN (hL29 h () 14)))))
    exact zj (oV (vI e GTyp.f3 zh7 y5.items) (oV (zb ty126 e) (om e (za h λy48 hy48 h=>oV (vX e e sl126 hy48) (oV (vI e GItem.f1 zep y48.number) (oV (zb ty2 e) (oV (zao (z:=(Val.mk (3:Int) y48.number ([]:(List UInt8)) ([]:(List Val)) (0:Int) ([]:(List Raw)))) e bu26 ze26 (.cons Val.f0 zdy e hI (.cons Val.f1 zcB e hI .nil))) (oT (tS ty26 e e p0 ⟨3,y48.number,[],[],0,[]⟩ (oa e (rb (hJ44 h () 20))))))))))))
   exact oG g42 (zm e) (oG g42 (za2 e) (oV (zh e g42 e) (hJ41 h 3)))
  exact zC (hJ16 h 0)
 exact zC (hJ10 h 0)


theorem ziY {a_x a_i zY zaB r} (h:zgC a_x a_i=some r):Ctr Tryz.prog 102 [ptrv zY (Fld.id GMkOT),isv a_i] [boxE zY (GMkO a_x zaB),vecE zaB a_x.l] (Pt [isv r.1] [boxE zY (GMkO r.2 zaB),vecE zaB r.2.l]):=by
 unfold zgC at h
 refine zi Tryz.func102 e λw0 S0 hT=>ws (an e (ss (om e (oV (zf e) (oV (zu e zc9 zet) (oT (zaS (R:=vecv zaB (a_x.l.length)) ty29 e p0 isvV1 (om e (zaj h λq2 h=>oV (zdw (α:=GTyp) sl29 e e q2.1 q2.2) (oV (zkW e GTyp.f1 zg4) (za h λy3 hy3 h=>oT (zeS ty123 e (.there .here) hy3 (oV (vN e sl123) (oV (zcy e e) (rn (zd h e (λ_ h=>?_) (λ_ h=>wk (ws (ar e (ze (r1 e) k2 (iS h ▸ ⟨e,e⟩)))))))))))))))))))))
 exact ws (ar e (zD (ze (r1 e) k2 (iS h ▸ ⟨e,e⟩))))


theorem zru {zfk zdf zis r} (h:znV zfk zdf zis=some r):Ctr Tryz.prog 154 [isv zfk,isv zdf,isv zis] [] (Pt [isv r.1,isv r.2] []):=by
 unfold znV at h
 refine zi Tryz.func154 e λw0 S0 hT=>ws (oa e (an e (ss (om e (oV (zau e e) (om e (jO 3 14 h (λq1 h=>?_) λJ2 h hJ2=>oI h (λg3 h=>?_) λg3 h=>oG g3 (zm e) (oG g3 (zcy e e) (oV (zg e g3 e) (hJ2 h 3))))))))))
 ·refine om e (jO 8 23 h (λq4 h=>?_) λJ5 h hJ5=>oI h (λg6 h=>?_) λg6 h=>oG g6 (zm e) (oG g6 (zP e e) (oG g6 (zm e) (jO 4 22 h (λq7 h=>?_) λJ8 h hJ8=>oI h (λg9 h=>?_) λg9 h=>oN g9 (oN g9 (oN g9 (oG g6 (zg e g9 e) (hJ8 h 4))))))))
  ·refine rn (zd h e (λ_ h=>?_) (λ_ h=>wk (ws (om e (oV (zao (z:=(Tag.mk (2:Int) zdf)) e bu206 ze206 (.cons Tag.f0 zks e hI (.cons Tag.f1 zfQ e hI .nil))) (oT (zA (l:=([(Tag.mk (2:Int) zdf)]:(List Tag))) el123 (.cons e hI .nil) e e (an e (ss (om e (oV (zP e e) (rn (zd h e (λ_ h=>?_) (λ_ h=>wk (ws (om e (om e (zah (zbC) (zam h λq15 h=>oT (zcj (l:=([(Tag.mk (2:Int) zdf)]:(List Tag))) (m:=zfk) zhD e hI e hI .here q15 λt14=>oa e (ar e (ze (.as e zx (.tmp e .nil)) k0 (iS h ▸ ⟨e,e⟩)))))))))))))))))))))))
   ·exact ws (oa e (ar e (zD (ze (.as e (zeZ (α:=Tag)) (.tmp e .nil)) k0 (iS h ▸ ⟨e,e⟩)))))
   exact ws (om e (om e (zaj h λq11 h=>oV (zhR (l:=zfk) e hI sl123 (.inr ⟨_,e,e⟩) (.inl ⟨e,e⟩) q11.1 q11.2.1 q11.2.2) (zah (zbC) (zam h λq13 h=>oT (zcj (l:=([(Tag.mk (2:Int) zdf)]:(List Tag))) (m:=((zfk.take ((zfk.length:Int)).toNat).drop ((1:Int)).toNat)) zhD e hI e hI .here q13 λt12=>oa e (ar e (zD (ze (.as e zx (.tmp e .nil)) k0 (iS h ▸ ⟨e,e⟩))))))))))
  ·exact oN g6 (oN g6 (oN g6 (oU (oU (oU (oN g6 (oV (zh e g6 e) (hJ5 h 8))))))))
  ·exact oV (zg e g6 e) (hJ5 h 5)
  exact oG g9 (zm e) (oG g9 (vN e sl123) (oG g9 (zP e e) (oG g6 (zh e g9 e) (hJ8 h 4))))
 exact oN g3 (oN g3 (oV (zh e g3 e) (hJ2 h 3)))


theorem ziF {a_x a_i zdf zis zY zaB r} (h:zgn a_x a_i zdf zis=some r):Ctr Tryz.prog 103 [ptrv zY (Fld.id GMkOT),isv a_i,isv zdf,isv zis] [boxE zY (GMkO a_x zaB),vecE zaB a_x.l] (Pt [] [boxE zY (GMkO r zaB),vecE zaB r.l]):=by
 unfold zgn at h
 refine zi Tryz.func103 e λw0 S0 hT=>ss (om e (oV (zf e) (oV (zu e zec zfP) (oT (tL ty38 e p0 a_x.e (oV (zbz e e) (rn (zd h e (λ_ h=>?_) (λ_ h=>wk (ws (om e (oV (zf e) (oV (zu e zc9 zet) (oT (zaS (R:=vecv zaB (a_x.l.length)) ty29 e p0 isvV1 (om e (zaj h λq2 h=>oV (zdw (α:=GTyp) sl29 e e q2.1 q2.2) (oV (zkW e GTyp.f1 zg4) (za h λy3 hy3 h=>oT (zeS ty123 e (.there .here) hy3 (om e (om e (za h λy4 hy4 h=>oT (tC (zru hy4) hT (s3 e e e) k0 (om e (oV (zr e e) (oV (zr e e) (oa e (an e ?_)))))))))))))))))))))))))))))
 ·exact zbK (zD (ze .nil k2 (iS h ▸ ⟨e,e⟩)))
 refine ss (om e (oV (zbz e e) (rn (zd h e (λ_ h=>?_) (λ_ h=>wk (zj (om e (oV (zf e) (oV (zu e zc9 zet) (oT (zaS (R:=vecv zaB (a_x.l.length)) ty29 e p0 isvV1 (om e (om e (zaj h λq6 h=>oV (zdw (α:=GTyp) sl29 e e q6.1 q6.2) (oV (zkW e GTyp.f1 zg4) (za h λy7 hy7 h=>oT (zeu ty123 e e (.there .here) hy7 (zah (zfS (y:=(GMkO {a_x with l:=(a_x.l.set a_i.toNat ({ y7 with tags:=y4.1 }))} zaB)) (.there .here) (λS=>(Cv.pair Cv.id (Cv.pair (Cv.vhe (by first | rfl | simp)) Cv.id)))) (zN (zaQ .nil k2 (iS h ▸ ⟨e,e⟩)))))))))))))))))))))
 exact ws (om e (om e (za h λy5 hy5 h=>oT (tC (zcw hy5) hT (s2 e e) k2 (rn (zbK (zD (ze .nil k2 (iS h ▸ ⟨e,e⟩)))))))))


def zjB (f':(List GTyp)->Int->Option (Bool)):Prop :=
 ∀ {a_l a_i zlO r},f' a_l a_i=some r->Ctr Tryz.prog 235 [vecv zlO (a_l.length),isv a_i] [vecE zlO a_l] (Pt [isv r] [vecE zlO a_l])
theorem zqk {zkH} (zre:zjB zkH):zjB (zlh zkH):=by
 intro a_l a_i zlO r h
 unfold zlh at h
 refine zi Tryz.func235 e λw0 S0 hT=>ws (an e (ss (om e (om e (zaj h λq1 h=>oV (zdw (α:=GTyp) sl29 e e q1.1 q1.2) (oV (zkW e GTyp.f0 zdI) (za h λy2 hy2 h=>oT (zeS ty3 e .here hy2 (oV (zbz e e) (om e (jO 8 21 h (λq3 h=>?_) λJ4 h hJ4=>oI h (λg5 h=>?_) λg5 h=>oG g5 (zm e) (oG g5 (zm e) (zaj h λq6 h=>oG g5 (zdw (α:=GTyp) sl29 e e q6.1 q6.2) (oG g5 (zkW e GTyp.f1 zg4) (za h λy7 hy7 h=>oH g5 (zeS ty123 e .here hy7 (oG g5 (vN e sl123) (oG g5 (zcy e e) (oV (zg e g5 e) (hJ4 h 8))))))))))))))))))))
 ·refine rn (zd h e (λ_ h=>?_) (λ_ h=>wk (ws (om e (om e (zaj h λq8 h=>oV (zdw (α:=GTyp) sl29 e e q8.1 q8.2) (oV (zkW e GTyp.f6 zkJ) (za h λy9 hy9 h=>oT (zeS ty4 e .here hy9 (an e (ss (an e (zn (lP h Unit () (λq10 g10=>[(5,isv q10.1),(6,isv q10.2)]) (λq10 g10=>[]) (zB (j:=5) e hI (zB (j:=6) e hI zay)) k0 λL11 q10 g10 Q32 h hL11 eL11 rL11=>ss (om e (om e (om e (zaj h λq22 h=>oV (zdw (α:=GTyp) sl29 e e q22.1 q22.2) (oV (zkW e GTyp.f4 zbi) (za h λy23 hy23 h=>oT (zeS ty127 e .here hy23 (oV (vN e sl127) (oV (zau e e) (rn (zd h e (λ_ h=>?_) (λ_ h=>xn ?_))))))))))))))))))))))))))
  ·exact ws (ar e (zD (ze (r1 e) k1 (iS h ▸ ⟨e,e⟩))))
  ·refine wk (zF (zn (zj (om e (om e (jO 12 50 h (λq24 h=>?_) λJ25 h hJ25=>oI h (λg26 h=>?_) λg26 h=>oG g26 (zm e) (oG g26 (zm e) (oG g26 (zm e) (zaj h λq27 h=>oG g26 (zdw (α:=GTyp) sl29 e e q27.1 q27.2) (oG g26 (zkW e GTyp.f4 zbi) (za h λy28 hy28 h=>oH g26 (zeS ty127 e .here hy28 (oG g26 (zm e) (za h λy29 hy29 h=>oG g26 (vX e e sl127 hy29) (oG g26 (vI e GFld.f1 zdH y29.ty) (oG g26 (zb ty3 e) (za h λy30 hy30 h=>oH g26 (tC (zre hy30) hT (.cons e (λ_ _ h=>vecvE (by first | rfl | simp) _ _ h) (.same e .nil)) k1 (oV (zg e g26 e) (hJ25 h 12))))))))))))))))))))
   ·exact oa e (rb (zp (zj (om e (zy h λq31 h=>oV (zaa e e q31) (oa e (zN (hL11 h () 17))))))))
   exact oN g26 (oN g26 (oN g26 (oN g26 (oN g26 (oN g26 (oN g26 (oN g26 (oN g26 (oN g26 (oN g26 (oV (zh e g26 e) (hJ25 h 12))))))))))))
  exact eL11 _ _ (zw (zp (ws (om e (ar e (ze (r1 e) k1 (iS h ▸ ⟨e,e⟩)))))))
 exact oN g5 (oN g5 (oN g5 (oN g5 (oN g5 (oN g5 (oN g5 (oV (zh e g5 e) (hJ4 h 8))))))))

theorem zj0:∀ n,zjB (zno n)
  | 0=>λh=>(by cases h)
  | n + 1=>zqk (zj0 n)
theorem zrh (n:Nat):zjB (zno n):=(zj0 n)

def zhz (f':(List GTyp)->Int->Option ((List Tag))):Prop :=
 ∀ {a_l a_i zlO r},f' a_l a_i=some r->Ctr Tryz.prog 212 [vecv zlO (a_l.length),isv a_i] [vecE zlO a_l] (Pt [isv r] [vecE zlO a_l])
theorem zoq {zia} (zpq:zhz zia):zhz (zjh zia):=by
 intro a_l a_i zlO r h
 unfold zjh at h
 refine zi Tryz.func212 e λw0 S0 hT=>ws (an e (ss (om e (om e (zaj h λq1 h=>oV (zdw (α:=GTyp) sl29 e e q1.1 q1.2) (oV (zkW e GTyp.f1 zg4) (za h λy2 hy2 h=>oT (zeS ty123 e .here hy2 (oV (vN e sl123) (oV (zcy e e) (rn (zd h e (λ_ h=>?_) (λ_ h=>wk (ws (an e (ss (an e (zn (zhf (zbC) (lP h Tok none (λq6 g6=>[(5,appv g6 q6.1),(6,isv q6.2)]) (λq6 g6=>[tokE g6]) (zB (j:=5) e zcs (zB (j:=6) e hI zay)) k1 λL7 q6 g6 Q27 h hL7 eL7 rL7=>ss (om e (om e (om e (zaj h λq17 h=>oV (zdw (α:=GTyp) sl29 e e q17.1 q17.2) (oV (zkW e GTyp.f4 zbi) ?_)))))))))))))))))))))))))
 ·exact ws (om e (om e (zaj h λq3 h=>oV (zdw (α:=GTyp) sl29 e e q3.1 q3.2) (oV (zkW e GTyp.f1 zg4) (za h λy4 hy4 h=>oT (zeS ty123 e .here hy4 (zaj h λq5 h=>oV (zhR (l:=y4.tags) e hI sl123 (.inl ⟨e,e⟩) (.inr ⟨_,e,e⟩) q5.1 q5.2.1 q5.2.2) (ar e (zD (ze (r1 e) k1 (iS h ▸ ⟨e,e⟩)))))))))))
 refine za h λy18 hy18 h=>oT (zeS ty127 e (.there .here) hy18 (oV (vN e sl127) (oV (zau e e) (rn (zd h e (λ_ h=>?_) (λ_ h=>xn (eL7 _ _ (zw (zp (ws (om e (ar e (ze (.as e zx .nil) (a1 k0) (iS h ▸ ⟨e,e⟩))))))))))))))
 refine wk (zF (zn (zj (om e (om e (om e (om e (zaj h λq19 h=>oV (zdw (α:=GTyp) sl29 e e q19.1 q19.2) (oV (zkW e GTyp.f4 zbi) (za h λy20 hy20 h=>oT (zeS ty127 e (.there .here) hy20 (om e (za h λy21 hy21 h=>oV (vX e e sl127 hy21) (oV (vI e GFld.f1 zdH y21.ty) (oV (zb ty3 e) (za h λy22 hy22 h=>oT (tC (zpq hy22) hT (.cons e (λ_ _ h=>vecvE (by first | rfl | simp) _ _ h) (.same e .nil)) (a1 k0) (zam h λq24 h=>oT (zcj (l:=q6.1) (m:=y22) zhD e hI e hI (.there .here) q24 λt23=>oa e (rb (zp (zj (om e (zy h λq25 h=>oV (zaa e e q25) (oa e ?_)))))))))))))))))))))))))
 exact zN (hL7 h t23 27)

theorem ziG:∀ n,zhz (zlB n)
  | 0=>λh=>(by cases h)
  | n + 1=>zoq (ziG n)
theorem zpz (n:Nat):zhz (zlB n):=(ziG n)

theorem znO {a_l a_x r} (h:zjz a_l a_x=some r):Ctr Tryz.prog 178 [isv a_l,isv a_x] [] (Pt [isv r] []):=by
 unfold zjz at h
 refine zi Tryz.func178 e λw0 S0 hT=>ws (oT (tB e (an e (ss (an e (zn (lO 5 h e λL2 q1 Q7 h hL2 eL2 rL2=>ss (om e (om e (oV (vN e sl123) (oV (zau e e) (rn (zd h e (λ_ h=>?_) (λ_ h=>xn (eL2 _ _ (zw (zp (ws (ar e (ze (r1 e) k0 (iS h ▸ ⟨e,e⟩)))))))))))))))))))))
 refine wk (zF (zn (zF (zH (.v 0 (.v 1 (.v 2 (.v 3 (.v 4 (.v 5 .nil)))))) moOrd (by kernel_rfl) (rm e e (rm e e (za h λy5 hy5 h=>zl e (vX e e sl123 hy5) (zl e (zb ty206 e) (zl e (zb ty206 e) (zl e (zaW eq206 e e) (zak (zp (zd h e (λ_ h=>?_) (λ_ h=>zC (zs (zp (zj (om e (zy h λq6 h=>oV (zaa e e q6) (oa e (zN (hL2 h 14))))))))))))))))))))))
 exact ws (ar e (bn (rL2 _ (bn (ze (r1 e) k0 (iS h ▸ ⟨e,e⟩))))))


theorem znz {zlz r} (h:zi6 zlz=some r):Ctr Tryz.prog 236 [isv zlz] [] (Pt [isv r] []):=by
 unfold zi6 at h
 refine zi Tryz.func236 e λw0 S0 hT=>ws (an e (ws (an e (ss (an e (zn (zhf (zbC) (lP h Tok none (λq1 g1=>[(3,appv g1 q1.1),(4,isv q1.2)]) (λq1 g1=>[tokE g1]) (zB (j:=3) e zcs (zB (j:=4) e hI zay)) k1 λL2 q1 g1 Q55 h hL2 eL2 rL2=>ss (om e (om e (oV (vN e sl291) (oV (zau e e) (rn (zd h e (λ_ h=>?_) (λ_ h=>xn (eL2 _ _ (zw (zp (ws (ar e (ze (r1 e) k0 (iS h ▸ ⟨e,e⟩))))))))))))))))))))))
 refine wk (zF (zn (ws (an e (zn (lP h Tok g1 (λq29 g29=>[(3,appv g29 q29.1),(5,isv q29.2)]) (λq29 g29=>[tokE g29]) (zB (j:=3) e hI (zB (j:=5) e hI zay)) k1 λL30 q29 g29 Q53 h hL30 eL30 rL30=>ss (om e (om e (om e (za h λy42 hy42 h=>oV (vX e e sl291 hy42) (oV (zb ty123 e) (oV (vN e sl123) (oV (zau e e) (rn (zd h e (λ_ h=>?_) (λ_ h=>xn (eL30 _ _ (zw (zs (zp (zj (om e (zy h λq52 h=>oV (zaa e e q52) (oa e (zN (hL2 h g29 19))))))))))))))))))))))))))
 refine wk (zF (zn (ss (om e (om e (om e (za h λy43 hy43 h=>oV (vX e e sl291 hy43) (oV (zb ty123 e) (om e (za h λy44 hy44 h=>oV (vX e e sl123 hy44) (oV (zb ty206 e) (za h λy45 hy45 h=>oT (tC (znO hy45) hT (.cons e zx (.same e .nil)) k0 (rn (zd h e (λ_ h=>?_) (λ_ h=>wk (zj (om e (om e (om e (za h λy46 hy46 h=>oV (vX e e sl291 hy46) (oV (zb ty123 e) (om e (za h λy47 hy47 h=>oV (vX e e sl123 hy47) (oV (zb ty206 e) ?_)))))))))))))))))))))))))
 ·exact ws (ar e (zD (bn (rL30 _ (za8 (bn (rL2 _ (bn (ze (r1 e) k0 (iS h ▸ ⟨e,e⟩))))))))))
 exact oT (zA (l:=([y47]:(List Tag))) el123 (.cons e hI .nil) e e (zam h λq50 h=>oT (zcj (l:=q29.1) (m:=([y47]:(List Tag))) zhD e hI e zx .here q50 λt49=>oa e (rb (zp (zj (om e (zy h λq51 h=>oV (zaa e e q51) (oa e (zN (hL30 h t49 32)))))))))))


theorem zg1 {a_x a_l znm zY zaB r} (h:zfo a_x a_l znm=some r):Ctr Tryz.prog 214 [ptrv zY (Fld.id GMkOT),isv a_l,isv znm] [boxE zY (GMkO a_x zaB),vecE zaB a_x.l] (Pt [isv r.1] [boxE zY (GMkO r.2 zaB),vecE zaB r.2.l]):=by
 unfold zfo at h
 refine zi Tryz.func214 e λw0 S0 hT=>ws (an e (ws (an e (ss (an e (zn (zhf (zbC) (lP h Tok none (λq2 g2=>[(0,ptrv zY (Fld.id GMkOT)),(7,appv g2 q2.1),(8,isv q2.2)]) (λq2 g2=>[tokE g2]) (zB (j:=0) e hI (zB (j:=7) e zcs (zB (j:=8) e hI zay))) k1 λL3 q2 g2 Q43 h hL3 eL3 rL3=>ss (om e (om e (oV (vN e sl127) (oV (zau e e) (rn (zd h e (λ_ h=>?_) (λ_ h=>xn (eL3 _ _ (zw (zp (ws (om e (za h λy41 hy41 h=>oT (tC (znz hy41) hT (.cons e zx .nil) k0 (ar e (ze (r1 e) (a1 (a1 k0)) (iS h ▸ ⟨e,e⟩)))))))))))))))))))))))))
 refine wk (zF (zn (zF (zF (zc3 0 (.there .here) e (λo23 hn24=>zH (.v 0 (.v 1 (.v 2 (.v 3 (.v 4 (.v 5 (.v 6 (.v 7 (.v 8 (.t 9 (.v 10 (.v 11 (.v 12 (.v 13 (.v 14 (.v 15 (.v 16 (.v 17 .nil)))))))))))))))))) moOrd (by kernel_rfl) (rm e e (zl e (zat e) (zl e (zdM e zc9 zet) (zl e (zse (R:=vecv zaB (a_x.l.length)) ty29 e m0 isvV1) (rm e e (rm e e (za h λy25 hy25 h=>zl e (vX e e sl127 hy25) (zl e (vI e GFld.f1 zdH y25.ty) (zl e (zb ty3 e) (za h λy26 hy26 h=>rT e (tC (zrh fuel hy26) hT (.cons e (λ_ _ h=>vecvE (by first | rfl | simp) _ _ h) (.same e .nil)) (a1 k0) (rm e e (jD 7 32 h (λq27 h=>?_) λJ28 h hJ28=>rJ h (λg29 h=>?_) λg29 h=>rP e g29 (rP e g29 (rU e (rU e (rU e (rP e g29 (zl e (zg e g29 e) (hJ28 h 7))))))))))))))))))))))))))
 ·refine zak (zaO 0 hn24 e (zp (zd h e (λ_ h=>?_) (λ_ h=>wk (zc3 0 .here e (λo33 hn34=>zH (.v 0 (.v 1 (.v 2 (.v 3 (.v 4 (.v 5 (.v 6 (.v 7 (.v 8 (.v 9 (.t 10 (.t 11 (.t 12 (.v 13 .nil)))))))))))))) moOrd (by kernel_rfl) (rm e e (rm e e (zl e (zat e) (zl e (zdM e zc9 zet) (zl e (zse (R:=vecv zaB (a_x.l.length)) ty29 e m0 isvV1) (rm e e (rm e e (za h λy35 hy35 h=>zl e (vX e e sl127 hy35) (zl e (vI e GFld.f1 zdH y35.ty) (zl e (zb ty3 e) (za h λy36 hy36 h=>rT e (tC (zpz fuel hy36) hT (.cons e (λ_ _ h=>vecvE (by first | rfl | simp) _ _ h) (.same e .nil)) k1 (rT e (zA (l:=([y36]:(List (List Tag)))) el291 (.cons e hI .nil) e e (zam h λq39 h=>rT e (zcj (l:=q2.1) (m:=([y36]:(List (List Tag)))) zso e hI e zx (.there .here) q39 λt38=>zl e (zaD e) (zak (zaO 0 hn34 e (zs (zp (zj (om e ?_))))))))))))))))))))))))))))
  ·exact ws (ar e (zD (bn (rL3 _ (bn (ze (r1 e) k2 (iS h ▸ ⟨e,e⟩)))))))
  exact zy h λq40 h=>oV (zaa e e q40) (oa e (zN (hL3 h t38 40)))
 refine rG e g29 (zm e) (rG e g29 (zm e) (jD 4 31 h (λq30 h=>?_) λJ31 h hJ31=>rJ h (λg32 h=>?_) λg32 h=>rG e g32 (zm e) (rG e g32 (vN e sl127) (rG e g32 (zcy e e) (rG e g29 (zg e g32 e) (hJ31 h 4))))))
 ·exact zl e (zh e g29 e) (hJ28 h 4)
 exact rP e g32 (rP e g32 (rP e g32 (rG e g29 (zh e g32 e) (hJ31 h 4))))


theorem zmZ {a_t r} (h:zkP a_t=some r):Ctr Tryz.prog 211 [isv a_t] [] (Pt [isv r] []):=by
 unfold zkP at h
 refine zi Tryz.func211 e λw0 S0 hT=>ws (oT (tB e (an e (ws (an e (ss (an e (zn (zhf (zbC) (lP h Tok none (λq1 g1=>[(3,appv g1 q1.1),(4,isv q1.2)]) (λq1 g1=>[tokE g1]) (zB (j:=3) e zcs (zB (j:=4) e hI zay)) k1 λL2 q1 g1 Q28 h hL2 eL2 rL2=>ss (om e (oV (vI e GTyp.f4 zbi a_t.fields) (oV (zb ty127 e) (oV (vN e sl127) (oV (zau e e) (rn (zd h e (λ_ h=>?_) (λ_ h=>xn (eL2 _ _ (zw (zp (ws (om e (ar e (ze (.as e zx .nil) k0 (iS h ▸ ⟨e,e⟩))))))))))))))))))))))))))
 refine wk (zF (zn (zj (om e (oV (vI e GTyp.f4 zbi a_t.fields) (oV (zb ty127 e) (om e (za h λy15 hy15 h=>oV (vX e e sl127 hy15) (oV (vI e GFld.f2 zna y15.optional) (oV (zb ty4 e) (om e (jO 7 26 h (λq16 h=>?_) λJ17 h hJ17=>oI h (λg18 h=>?_) λg18 h=>oG g18 (vI e GTyp.f4 zbi a_t.fields) (oG g18 (zb ty127 e) (oG g18 (zm e) (za h λy19 hy19 h=>oG g18 (vX e e sl127 hy19) (oG g18 (vI e GFld.f3 zji y19.has) (oG g18 (zb ty4 e) (oV (zg e g18 e) (hJ17 h 7)))))))))))))))))))
 ·refine om e (jO 5 32 h (λq20 h=>?_) λJ21 h hJ21=>oI h (λg22 h=>?_) λg22 h=>oG g22 (zm e) (oG g22 (vI e GTyp.f5 zik a_t.root) (oG g22 (zb ty3 e) (oG g22 (zdT e e) (oV (zg e g22 e) (hJ21 h 5))))))
  ·exact oT (zA (l:=([q20]:(List Bool))) el263 (.cons e hI .nil) e e (zam h λq25 h=>oT (zcj (l:=q1.1) (m:=([q20]:(List Bool))) zsR e hI e zx .here q25 λt24=>oa e (rb (zp (zj (om e (zy h λq26 h=>oV (zaa e e q26) (oa e (zN (hL2 h t24 24)))))))))))
  exact oN g22 (oN g22 (oN g22 (oN g22 (oV (zh e g22 e) (hJ21 h 5)))))
 exact oN g18 (oN g18 (oN g18 (oN g18 (oN g18 (oN g18 (oV (zh e g18 e) (hJ17 h 7)))))))


theorem zq4 {a_t r} (h:zoe a_t=some r):Ctr Tryz.prog 177 [isv a_t] [] (Pt [isv r] []):=by
 unfold zoe at h
 refine zi Tryz.func177 e λw0 S0 hT=>ws (oT (tB e (an e (ws (oV (zb ty129 e) (za h λy1 hy1 h=>oT (tC (zmZ hy1) hT (s1 e) k0 (an e (ws (oV (vI e GTyp.f5 zik a_t.root) (oV (zb ty3 e) (an e (zF (zn (lO 4 h e λL3 q2 Q16 h hL3 eL3 rL3=>ss (om e (oV (zcy e e) (om e (jO 6 17 h (λq10 h=>?_) λJ11 h hJ11=>oI h (λg12 h=>?_) λg12 h=>oN g12 (oN g12 (oN g12 (oN g12 (oN g12 (oV (zg e g12 e) (hJ11 h 6)))))))))))))))))))))))))
 ·refine rn (zd h e (λ_ h=>?_) (λ_ h=>xn (eL3 _ _ (zw (zp (ws (om e (ar e (ze (r1 e) k0 (iS h ▸ ⟨e,e⟩))))))))))
  exact wk (zn (zj (om e (zy h λq15 h=>oV (zhh e e q15) (oa e (rb (hL3 h 8)))))))
 exact oG g12 (zm e) (oG g12 (zm e) (zy h λq13 h=>oG g12 (zhh e e q13) (za h λy14 hy14 h=>oG g12 (vX e e sl263 hy14) (oG g12 (zb ty4 e) (oV (zh e g12 e) (hJ11 h 6))))))


theorem zlH {a_x a_t zY zaB r} (h:zhn a_x a_t=some r):Ctr Tryz.prog 184 [ptrv zY (Fld.id GMkOT),isv a_t] [boxE zY (GMkO a_x zaB),vecE zaB a_x.l] (Pt [isv r.1] [boxE zY (GMkO r.2 zaB),vecE zaB r.2.l]):=by
 unfold zhn at h
 refine zi Tryz.func184 e λw0 S0 hT=>ws (oT (tB e (an e (ss (oV (vI e GTyp.f0 zdI a_t.kind) (oV (zb ty3 e) (oV (zbz e e) (rn (zd h e (λ_ h=>?_) (λ_ h=>wk (ws (oV (zb ty129 e) (za h λy3 hy3 h=>oT (tC (zmZ hy3) hT (s1 e) k0 (an e (ss (an e (zn (lP h Unit () (λq4 g4=>[(6,isv q4.1)]) (λq4 g4=>[boxE zY (GMkO q4.2 zaB),vecE zaB q4.2.l]) (zB (j:=6) e hI zay) k2 λL5 q4 g4 Q66 h hL5 eL5 rL5=>ss (om e (oV (vI e GTyp.f4 zbi a_t.fields) (oV (zb ty127 e) (oV (vN e sl127) (oV (zau e e) (rn (zd h e (λ_ h=>?_) (λ_ h=>xn (eL5 _ _ ?_))))))))))))))))))))))))))))
 ·exact ws (om e (oV (vI e GTyp.f4 zbi a_t.fields) (oV (zb ty127 e) (oV (vI e GTyp.f6 zkJ a_t.more) (oV (zb ty4 e) (za h λy2 hy2 h=>oT (tC (zg1 hy2) hT (s3 e e e) k2 (ar e (zD (ze (r1 e) k2 (iS h ▸ ⟨e,e⟩)))))))))))
 ·refine wk (zF (jw h Unit (λq36 g36=>[]) (λq36 g36=>[boxE zY (GMkO q36 zaB),vecE zaB q36.l]) k2 (λq36 g36 h=>?_) λJ37 h hJ37=>zn (ss (om e (om e (za h λy38 hy38 h=>oV (vX e e sl263 hy38) (oV (zb ty4 e) (oV (za2 e) (rn (zd h e (λ_ h=>?_) (λ_ h=>wk (ws (om e (zy h λq39 h=>oV (zaa e e q39) (an e (zF (zn (lO 7 h e λL41 q40 Q58 h hL41 eL41 rL41=>ss (om e (oV (vI e GTyp.f4 zbi a_t.fields) (oV (zb ty127 e) (oV (vN e sl127) (oV (zau e e) (om e (jO 5 43 h (λq50 h=>?_) λJ51 h hJ51=>?_)))))))))))))))))))))))))
  ·exact zj (om e (zy h λq59 h=>oV (zaa e e q59) (oa e (zN (hL5 h () 9)))))
  ·exact xn (zw (hJ37 h () 5))
  ·refine rn (zd h e (λ_ h=>?_) (λ_ h=>xn (eL41 _ _ (zw (zp (ws (om e (oV (vI e GTyp.f4 zbi a_t.fields) (oV (zb ty127 e) (om e (om e (zy h λq55 h=>oV (zaa e e q55) (oV (vI e GTyp.f4 zbi a_t.fields) (oV (zb ty127 e) (oV (vN e sl127) (oV (zvI e e) (zaj h λq56 h=>oV (zhR (l:=a_t.fields) e hI sl127 (.inr ⟨_,e,e⟩) (.inr ⟨_,e,e⟩) q56.1 q56.2.1 q56.2.2) (za h λy57 hy57 h=>oT (tC (zg1 hy57) hT (s3 e e e) k2 (oV (za2 e) (rn (zd h e (λ_ h=>?_) (λ_ h=>zC (zs (hJ37 h () 29)))))))))))))))))))))))))
   ·exact wk (zn (zj (om e (zy h λq54 h=>oV (zaa e e q54) (oa e (rb (hL41 h 11)))))))
   exact ws (ar e (bn (rL5 _ (bn (ze (r1 e) k2 (iS h ▸ ⟨e,e⟩))))))
  refine oI h (λg52 h=>?_) λg52 h=>oN g52 (oN g52 (oN g52 (oN g52 (oV (zg e g52 e) (hJ51 h 5)))))
  exact oG g52 (zm e) (oG g52 (zm e) (za h λy53 hy53 h=>oG g52 (vX e e sl263 hy53) (oG g52 (zb ty4 e) (oV (zh e g52 e) (hJ51 h 5)))))
 refine zw (zp (zF (zH (.v 0 (.v 1 (.v 2 (.v 3 (.v 4 (.v 5 (.v 6 (.v 7 (.t 8 (.v 9 (.t 10 (.v 11 (.v 12 .nil))))))))))))) moOrd (by kernel_rfl) (zl e (vI e GTyp.f6 zkJ a_t.more) (zl e (zb ty4 e) (zl e (za2 e) (rm e e (jd 8 h Unit (λq60 g60=>[(70,isv q60.1)]) (λq60 g60=>[boxE zY (GMkO q60.2 zaB),vecE zaB q60.2.l]) k2 (λq60 g60 h=>?_) λJ61 h hJ61=>rJ h (λg62 h=>?_) λg62 h=>rG e g62 (zm e) (rG e g62 (vI e GTyp.f4 zbi a_t.fields) (rG e g62 (zb ty127 e) (rG e g62 (zb ty129 e) (za h λy63 hy63 h=>rH e g62 (tC (zq4 hy63) hT (s1 e) k0 (zaj h λq64 h=>rG e g62 (zhR (l:=a_t.fields) e hI sl127 (.inr ⟨_,e,e⟩) (.inl ⟨e,e⟩) q64.1 q64.2.1 q64.2.2) (za h λy65 hy65 h=>rH e g62 (tC (zg1 hy65) hT (s3 e e e) k2 (zl e (zg e g62 e) (hJ61 h () 8))))))))))))))))))
 ·exact zl e (zaD e) (zak (zp (zbK (ze (r1 e) k2 (iS h ▸ ⟨e,e⟩)))))
 exact rP e g62 (rP e g62 (rP e g62 (rP e g62 (zey e e (dj:=62) e g62 (rP e g62 (zey e e (dj:=62) e g62 (zl e (zh e g62 e) (hJ61 h () 8))))))))

end Go.Proofs.Q


namespace Go.Proofs.Q
open Go.Sy
set_option maxRecDepth 4000
def zd4 (f':GMk->Int->GNode->Int->Option (GMk)):Prop :=
 ∀ {a_x a_i a_n_ zJ zY zaB r},f' a_x a_i a_n_ zJ=some r->Ctr Tryz.prog 153 [ptrv zY (Fld.id GMkOT),isv a_i,isv a_n_,isv zJ] [boxE zY (GMkO a_x zaB),vecE zaB a_x.l] (Pt1 (λ_=>[]) λu1=>[boxE zY (GMkO r u1),vecE u1 r.l])
def zdZ (f':GMk->Int->Int->Option (Int × GMk)):Prop :=
 ∀ {a_x a_k zJ zY zaB r},f' a_x a_k zJ=some r->Ctr Tryz.prog 51 [ptrv zY (Fld.id GMkOT),isv a_k,isv zJ] [boxE zY (GMkO a_x zaB),vecE zaB a_x.l] (Pt1 (λ_=>[isv r.1]) λu1=>[boxE zY (GMkO r.2 u1),vecE u1 r.2.l])
def zeD (f':GMk->GNode->Int->Option (Int × GMk)):Prop :=
 ∀ {a_x a_n_ zJ zY zaB r},f' a_x a_n_ zJ=some r->Ctr Tryz.prog 101 [ptrv zY (Fld.id GMkOT),isv a_n_,isv zJ] [boxE zY (GMkO a_x zaB),vecE zaB a_x.l] (Pt1 (λ_=>[isv r.1]) λu1=>[boxE zY (GMkO r.2 u1),vecE u1 r.2.l])
theorem zkX {zbm zbk zbJ} (zf3:zd4 zbm) (zdm:zdZ zbk) (zgQ:zeD zbJ):zd4 (zf5 zbm zbk zbJ):=by
 intro a_x a_i a_n_ zJ zY zaB r h
 unfold zf5 at h
 refine zi Tryz.func153 e λw0 S0 hT=>ws (oT (tB e (rn (ws (om e (oV (zf e) (oV (zu e zgO zjE) (oV (zu e GMod.f1 zpO) (oT (tL ty3 e p0 a_x.m.tagging (oV (zbz e e) (an e (ss (an e (zn (lP h Unit () (λq2 g2=>[(0,ptrv zY (Fld.id GMkOT)),(8,isv q2.1),(9,isv q2.2)]) (λq2 g2=>[]) (zB (j:=0) e hI (zB (j:=8) e hI (zB (j:=9) e hI zay))) k0 λL3 q2 g2 Q336 h hL3 eL3 rL3=>ss (om e (oV (vI e GNode.f5 zfv a_n_.fields) (oV (zb ty127 e) (oV (vN e sl127) (oV (zau e e) (rn (zd h e (λ_ h=>?_) (λ_ h=>xn (eL3 _ _ (zw (zp (ss (oV (vI e GNode.f0 zdd a_n_.kind) ?_)))))))))))))))))))))))))))))
 ·refine wk (zF (zn (ws (oV (vI e GNode.f5 zfv a_n_.fields) (oV (zb ty127 e) (om e (za h λy170 hy170 h=>oV (vX e e sl127 hy170) (oV (zb ty137 e) (oT (zX _ ze137 λb171=>oT (tS ty137 e e p0 y170 (zah (zaJ 10 .here e) (rn (zc3 0 .here e (λo172 hn173=>zH (.v 0 (.v 1 (.v 2 (.v 3 (.v 4 (.v 5 (.v 6 (.v 7 (.v 8 (.v 9 (.v 10 (.v 11 (.v 12 (.v 13 (.v 14 .nil))))))))))))))) moOrd (by kernel_rfl) (rm e e (rm e e (jD 12 46 h (λq174 h=>?_) λJ175 h hJ175=>rJ h (λg176 h=>?_) λg176 h=>rG e g176 (zm e) (rG e g176 (zat e) (rG e g176 (zdM e zgO zjE) (rG e g176 (zdM e GMod.f4 zjg) (rG e g176 (vP ty55 e m0 a_x.m.nodes) (rG e g176 (vI e GFld.f1 zdH y170.ty) (rG e g176 (zb ty3 e) (za h λy177 hy177 h=>rG e g176 (vX e e sl55 hy177) (rG e g176 (vI e GNode.f2 zih y177.mark) ?_))))))))))))))))))))))))))
  ·exact zl e (zaD e) (zak (zaO 0 hn173 e (zs (zp (zj (om e (zy h λq178 h=>oV (zaa e e q178) (oa e (zN (hL3 h () 24))))))))))
  ·exact rP e g176 (rP e g176 (rP e g176 (rP e g176 (rP e g176 (rP e g176 (rP e g176 (rP e g176 (rP e g176 (rP e g176 (rP e g176 (zl e (zh e g176 e) (hJ175 h 12))))))))))))
  exact rG e g176 (vI e GMark.f0 zpS y177.mark.has) (rG e g176 (zb ty4 e) (zl e (zg e g176 e) (hJ175 h 12)))
 refine oV (zb ty3 e) (oV (zP e e) (om e (jO 5 55 h (λq179 h=>?_) λJ180 h hJ180=>oI h (λg181 h=>?_) λg181 h=>oN g181 (oN g181 (oN g181 (oN g181 (oV (zg e g181 e) (hJ180 h 5))))))))
 ·refine om e (jO 4 60 h (λq182 h=>?_) λJ183 h hJ183=>oI h (λg184 h=>?_) λg184 h=>oN g184 (oN g184 (oN g184 (oV (zg e g184 e) (hJ183 h 4)))))
  ·refine rn (jw h Unit (λq185 g185=>[]) (λq185 g185=>[boxE zY (GMkO q185 zaB),vecE zaB q185.l]) k2 (λq185 g185 h=>?_) λJ186 h hJ186=>zd h e (λ_ h=>?_) (λ_ h=>zC (hJ186 h () 0)))
   ·refine ws (an e (ss (an e (zn (zhf (zbC) (lP h (Tok × Vt) (none,zaB) (λq188 g188=>[(11,appv g188.1 q188.1),(12,isv q188.2.1)]) (λq188 g188=>[tokE g188.1,boxE zY (GMkO q188.2.2 g188.2),vecE g188.2 (q188.2.2.l:List GTyp)]) (zB (j:=11) e zcs (zB (j:=12) e hI zay)) k3 λL189 q188 g188 Q335 h hL189 eL189 rL189=>ss (om e (oV (vI e GNode.f5 zfv a_n_.fields) (oV (zb ty127 e) (oV (vN e sl127) (oV (zau e e) (om e (jO 6 74 h (λq262 h=>?_) λJ263 h hJ263=>oI h (λg264 h=>?_) λg264 h=>oN g264 (oN g264 (oN g264 (oN g264 (oN g264 (oV (zg e g264 e) (hJ263 h 6)))))))))))))))))))
    ·refine rn (zd h e (λ_ h=>?_) (λ_ h=>xn (eL189 _ _ (zw (zp (ws (om e (oV (zf e) (oV (zu e zec zfP) (oT (tL ty38 e p1 q188.2.2.e (oV (zP e e) (rn (zd h e (λ_ h=>?_) (λ_ h=>zC (zaQ .nil (a1 (a1 k0)) (iS h ▸ ⟨g188.2,e,e⟩)))))))))))))))))
     ·refine wk (zF (zn (ws (oV (vI e GNode.f5 zfv a_n_.fields) (oV (zb ty127 e) (om e (za h λy265 hy265 h=>oV (vX e e sl127 hy265) (oV (zb ty137 e) (oT (zX _ ze137 λb266=>oT (tS ty137 e e p0 y265 (rn (ss (an e (zn (lP h Unit () (λq267 g267=>[(13,ptrv b266 (Fld.id GFld)),(14,isv q267.1)]) (λq267 g267=>[boxE zY (GMkO q267.2 g188.2),vecE g188.2 (q267.2.l:List GTyp)]) (zB (j:=13) e hI (zB (j:=14) e hI zay)) (a2 (a2 k0)) λL268 q267 g267 Q327 h hL268 eL268 rL268=>ss (om e (om e (oV (zau e e) (rn (zd h e (λ_ h=>?_) (λ_ h=>xn (eL268 _ _ (zw (zp (ws (om e (oV (zu e GFld.f1 zdH) ?_))))))))))))))))))))))))))))
      ·refine wk (zF (jw h Unit (λq298 g298=>[(13,ptrv b266 (Fld.id GFld))]) (λq298 g298=>[boxE zY (GMkO q298 g188.2),vecE g188.2 (q298.l:List GTyp)]) k2 (λq298 g298 h=>?_) λJ299 h hJ299=>zn (zF (zc3 13 (.there (.there .here)) e (λo300 hn301=>zH (.v 0 (.v 1 (.v 2 (.v 3 (.v 4 (.v 5 (.v 6 (.v 7 (.v 8 .nil))))))))) moOrd (by kernel_rfl) (zl e (vI e GNode.f5 zfv a_n_.fields) (zl e (zb ty127 e) (rm e e (za h λy302 hy302 h=>zl e (vX e e sl127 hy302) (zl e (vI e GFld.f0 zkA y302.name) (zl e (zb ty9 e) (zl e (zdM e GFld.f0 zkA) (zl e (vP ty9 e m0 y265.name) (zl e (zaW eq9 e e) (zak (zaO 13 hn301 e (zp (zd h e (λ_ h=>?_) (λ_ h=>zC (zs (hJ299 h () 11)))))))))))))))))))))
       ·exact zj (om e (zy h λq304 h=>oV (zaa e e q304) (oa e (zN (hL268 h () 9)))))
       exact zj (om e (za h λy303 hy303 h=>oT (tC (zcw hy303) hT (s2 e e) (a1 (a1 k0)) (rb (hJ299 h () 13)))))
      refine oT (tL ty3 e p2 y265.ty (om e (zy h λq305 h=>oV (zaa e e q305) (za h λy306 hy306 h=>oT (tC1 (zdm hy306) hT (s3 e e e) k2 (λv307=>oV (zu e GFld.f1 zdH) (oT (tS ty3 e e p2 ({ y265 with ty:=y306.1 }) (rn (ss (om e (oV (zf e) (oV (zu e zec zfP) (oT (tL ty38 e p1 y306.2.e (oV (zP e e) (om e (jO 3 113 h (λq308 h=>?_) λJ309 h hJ309=>oI h (λg310 h=>?_) λg310 h=>oN g310 (oN g310 (oV (zg e g310 e) (hJ309 h 3)))))))))))))))))))))
      ·refine rn (jw h Unit (λq311 g311=>[]) (λq311 g311=>[boxE b266 (q311.1:GFld),boxE zY (GMkO q311.2 v307),vecE v307 q311.2.l]) k3 (λq311 g311 h=>?_) λJ312 h hJ312=>zd h e (λ_ h=>?_) (λ_ h=>zC (hJ312 h () 0)))
       ·refine ss (om e (oV (zf e) (oV (zu e zec zfP) (oT (tL ty38 e p1 q311.2.e (oV (zP e e) (om e (jO 3 129 h (λq314 h=>?_) λJ315 h hJ315=>oI h (λg316 h=>?_) λg316 h=>oN g316 (oN g316 (oV (zg e g316 e) (hJ315 h 3)))))))))))
        ·refine rn (jw h Unit (λq317 g317=>[(13,ptrv b266 (Fld.id GFld))]) (λq317 g317=>[boxE zY (GMkO q317 v307),vecE v307 q317.l]) (a1 (a1 k0)) (λq317 g317 h=>?_) λJ318 h hJ318=>zd h e (λ_ h=>?_) (λ_ h=>zC (hJ318 h () 0)))
         ·exact zj (om e (oT (tL ty137 e p2 q311.1 (oT (zA (l:=([q311.1]:(List GFld))) el127 (.cons e hI .nil) e e (zam h λq325 h=>oT (zcj (l:=q188.1) (m:=([q311.1]:(List GFld))) zmv e hI e zx (.there (.there (.there .here))) q325 λt324=>oa e (rb (zp (zj (om e (zy h λq326 h=>oV (zaa e e q326) (oa e (zN (hL189 h (t324,v307) 51)))))))))))))))
         exact zc3 13 .here e (λo319 hn320=>zH (.v 0 (.v 1 (.v 2 (.v 3 (.v 4 (.v 5 (.v 6 (.t 7 (.t 8 .nil))))))))) moOrd (by kernel_rfl) (rm e e (zl e (zdM e GFld.f1 zdH) (zl e (vP ty3 e m0 q311.1.ty) (rm e e (rm e e (zl e (zdM e GFld.f1 zdH) (zl e (vP ty3 e m0 q311.1.ty) (za h λy321 hy321 h=>rT e (tC (ziY hy321) hT (s2 e e) k2 (za h λy322 hy322 h=>rT e (tC (ziF hy322) hT (s4 e e e e) k2 (zak (zaO 13 hn320 e (hJ318 h () 11)))))))))))))))
        exact oG g316 (zm e) (oG g316 (za2 e) (oV (zh e g316 e) (hJ315 h 3)))
       exact zj (om e (oV (zu e GFld.f1 zdH) (oT (tL ty3 e p0 y306.1 (oV (zu e GFld.f4 zl3) (oT (tL ty26 e p0 y265.dflt (za h λy313 hy313 h=>oT (tC (zkh hy313) hT (s3 e e e) (a1 (a1 k0)) (oV (zu e GFld.f4 zl3) (oT (tS ty26 e e p2 ({ { y265 with ty:=y306.1 } with dflt:=y313.1 }) (zN (hJ312 h () 7))))))))))))))
      exact oG g310 (zu e GFld.f3 zji) (oH g310 (tL ty4 e p0 y265.has (oV (zh e g310 e) (hJ309 h 3))))
     refine ws (om e (oV (zf e) (oV (zu e zc9 zet) (oT (zaS (R:=vecv g188.2 (q188.2.2.l.length)) ty29 e p1 isvV1 (om e (om e (zaj h λq328 h=>oV (zdw (α:=GTyp) sl29 e e q328.1 q328.2) (oV (zkW e GTyp.f4 zbi) (za h λy329 hy329 h=>zah (zcp 153 e (zx)) (oT (zeu ty127 e e (.there (.there .here)) hy329 (zah (zfS (y:=(GMkO {q188.2.2 with l:=(q188.2.2.l.set a_i.toNat ({ y329 with fields:=q188.1 }))} g188.2)) (.there (.there .here)) (λS=>(Cv.pair Cv.id (Cv.pair (Cv.vhe (by first | rfl | simp)) Cv.id)))) (rn (ws (om e (om e (oV (zf e) (oV (zu e zc9 zet) (oT (zaS (R:=vecv g188.2 ((q188.2.2.l.set a_i.toNat ({ y329 with fields:=q188.1 })).length)) ty29 e p0 isvV1 (om e (zaj h λq330 h=>oV (zdw (α:=GTyp) sl29 e e q330.1 q330.2) (za h λy331 hy331 h=>oT (zeS ty129 e (.there .here) hy331 (za h λy332 hy332 h=>oT (tC (zlH hy332) hT (s2 e e) k2 (oV (za2 e) (rn ?_)))))))))))))))))))))))))))))
     refine zd h e (λ_ h=>?_) (λ_ h=>zC (zaQ .nil k2 (iS h ▸ ⟨g188.2,e,e⟩)))
     exact zj (om e (za h λy333 hy333 h=>oT (tC (zcw hy333) hT (s2 e e) k2 (zN (zaQ .nil k2 (iS h ▸ ⟨g188.2,e,e⟩))))))
    exact oG g264 (zm e) (oG g264 (zf e) (oG g264 (zu e zec zfP) (oH g264 (tL ty38 e p1 q188.2.2.e (oG g264 (zP e e) (oV (zh e g264 e) (hJ263 h 6)))))))
   exact zj (om e (za h λy187 hy187 h=>oT (tC (zcw hy187) hT (s2 e e) k2 (zN (hJ186 h () 2)))))
  exact oG g184 (vI e GNode.f7 zhA a_n_.more) (oG g184 (zb ty4 e) (oG g184 (za2 e) (oV (zh e g184 e) (hJ183 h 4))))
 exact oG g181 (vI e GNode.f5 zfv a_n_.fields) (oG g181 (zb ty127 e) (oG g181 (vN e sl127) (oG g181 (zP e e) (oV (zh e g181 e) (hJ180 h 5)))))

theorem zlL {zbm zbk zbJ} (zf3:zd4 zbm) (zdm:zdZ zbk) (zgQ:zeD zbJ):zdZ (zgT zbm zbk zbJ):=by
 intro a_x a_k zJ zY zaB r h
 unfold zgT at h
 refine zi Tryz.func51 e λw0 S0 hT=>ws (an e (ss (om e (oV (zf e) (oV (zu e zec zfP) (oT (tL ty38 e p0 a_x.e (oV (zbz e e) (rn (zd h e (λ_ h=>?_) (λ_ h=>wk (ws (om e (oV (zf e) (oV (zu e zgO zjE) (oV (zu e GMod.f4 zjg) (oT (tL ty55 e p0 a_x.m.nodes (om e (za h λy2 hy2 h=>oV (vX e e sl55 hy2) (oV (zb ty174 e) (oT (zX _ ze174 λb3=>oT (tS ty174 e e p0 y2 (zah (zaJ 7 .here e) (rn (ws (an e (ss (oV (vI e GNode.f0 zdd y2.kind) ?_))))))))))))))))))))))))))))))
 ·exact ws (ar e (zD (ze (r1 e) k2 (iS h ▸ ⟨zaB,e,e⟩))))
 refine oV (zb ty3 e) (oV (zP e e) (rn (jw h Vt (λq4 g4=>[(8,isv q4.1)]) (λq4 g4=>[boxE zY (GMkO q4.2 g4),vecE g4 q4.2.l]) k2 (λq4 g4 h=>?_) λJ5 h hJ5=>zd h e (λ_ h=>?_) (λ_ h=>zj (om e (oV (zb ty174 e) (om e (za h λy12 hy12 h=>oT (tC1 (zgQ hy12) hT (s3 e e e) k2 (λv13=>oa e (zN (hJ5 h v13 5))))))))))))
 ·refine ss (om e (oV (zf e) (oV (zu e zec zfP) (oT (tL ty38 e p0 q4.2.e (oV (zP e e) (om e (jO 4 56 h (λq14 h=>?_) λJ15 h hJ15=>oI h (λg16 h=>?_) λg16 h=>oN g16 (oN g16 (oN g16 (oV (zg e g16 e) (hJ15 h 4))))))))))))
  ·refine rn (jw h Unit (λq17 g17=>[]) (λq17 g17=>[boxE zY (GMkO q17 g4),vecE g4 q17.l]) k2 (λq17 g17 h=>?_) λJ18 h hJ18=>zd h e (λ_ h=>?_) (λ_ h=>zC (hJ18 h () 0)))
   ·exact ws (om e (ar e (ze (r1 e) k2 (iS h ▸ ⟨g4,e,e⟩))))
   refine ws (an e (zF (jw h Unit (λq19 g19=>[(9,isv q19.1)]) (λq19 g19=>[boxE zY (GMkO q19.2 g4),vecE g4 q19.2.l]) k2 (λq19 g19 h=>?_) λJ20 h hJ20=>zn (ws (oV (vI e GNode.f2 zih y2.mark) (oV (vI e GMark.f2 zni y2.mark.mode) (oV (zb ty3 e) (oV (zP e e) (an e (zd h e (λ_ h=>?_) (λ_ h=>ws (oV (vI e GNode.f2 zih y2.mark) (oV (vI e GMark.f2 zni y2.mark.mode) (oV (zb ty3 e) (oV (zP e e) (om e (jO 7 74 h (λq21 h=>?_) λJ22 h hJ22=>oI h (λg23 h=>?_) λg23 h=>oN g23 (oN g23 (oN g23 (oN g23 (oN g23 (oN g23 (oV (zg e g23 e) (hJ22 h 7))))))))))))))))))))))))
   ·exact zj (om e (om e (oV (vI e GNode.f2 zih y2.mark) (oV (vI e GMark.f1 zr7 y2.mark.number) (oV (zb ty3 e) (om e (za h λy25 hy25 h=>oT (tC (ziF hy25) hT (s4 e e e e) k2 (zN (hJ18 h () 9))))))))))
   ·exact zj (oa e (rb (hJ20 h () 6)))
   ·refine an e (zd h e (λ_ h=>?_) (λ_ h=>zC (zs (hJ20 h () 12))))
    exact zj (om e (om e (za h λy24 hy24 h=>oT (tC (ziY hy24) hT (s2 e e) k2 (oa e (rb (hJ20 h () 16)))))))
   exact oG g23 (zm e) (oG g23 (zf e) (oG g23 (zu e zgO zjE) (oG g23 (zu e GMod.f1 zpO) (oH g23 (tL ty3 e p0 q4.2.m.tagging (oG g23 (zbz e e) (oV (zh e g23 e) (hJ22 h 7))))))))
  exact oG g16 (vI e GNode.f2 zih y2.mark) (oG g16 (vI e GMark.f0 zpS y2.mark.has) (oG g16 (zb ty4 e) (oV (zh e g16 e) (hJ15 h 4))))
 refine zH (.v 0 (.v 1 (.v 2 (.v 3 (.v 4 (.v 6 (.v 7 (.v 8 (.v 10 (.v 11 (.v 15 (.alt 5 (.t 9 (.t 12 (.v 13 (.v 14 (.t 16 (.v 17 .nil)))))) (.t 9 (.alt 5 (.t 12 (.v 13 (.v 14 (.t 16 (.v 17 .nil))))) (.t 12 (.t 5 (.v 13 (.v 14 (.t 16 (.v 17 .nil)))))))))))))))))))) moOrd (by kernel_rfl) (rm e e (rm e e (zl e (zf e) (zl e (zu e zgO zjE) (zl e (zu e GMod.f3 znX) (rm e e (zl e (zf e) (zl e (zu e zgO zjE) (zl e (vI e GNode.f1 zpf y2.name) (zl e (zb ty9 e) (rm e e (za h λy6 hy6 h=>za h λy7 hy7 h=>za h λy8 hy8 h=>zfr ?_ (rT e (tL ty57 e p0 a_x.m (zfr ?_ (rT e (tC (zjF hy6) hT (s2 e e) k0 (rT e (tL ty28 e p0 a_x.m.types (zl e (vX e e sl28 hy7) (zl e (zb ty3 e) (rT e (tC1 (zdm hy8) hT (s3 e e e) k2 (λv11=>zl e (zaD e) (zak (hJ5 h v11 18))))))))))))))))))))))))))
 ·exact rT e (tL ty28 e p0 a_x.m.types (rT e (tL ty57 e p0 a_x.m (rT e (tC (zjF hy6) hT (s2 e e) k0 (zl e (vX e e sl28 hy7) (zl e (zb ty3 e) (rT e (tC1 (zdm hy8) hT (s3 e e e) k2 (λv9=>zl e (zaD e) (zak (hJ5 h v9 18))))))))))))
 exact rT e (tL ty28 e p0 a_x.m.types (rT e (tC (zjF hy6) hT (s2 e e) k0 (zl e (vX e e sl28 hy7) (zl e (zb ty3 e) (rT e (tC1 (zdm hy8) hT (s3 e e e) k2 (λv10=>zl e (zaD e) (zak (hJ5 h v10 18))))))))))

theorem zlK {zbm zbk zbJ} (zf3:zd4 zbm) (zdm:zdZ zbk) (zgQ:zeD zbJ):zeD (zgK zbm zbk zbJ):=by
 intro a_x a_n_ zJ zY zaB r h
 unfold zgK at h
 refine zi Tryz.func101 e λw0 S0 hT=>ws (oT (tB e (an e (ss (om e (oV (zcy e e) (om e (jO 7 20 h (λq2 h=>?_) λJ3 h hJ3=>oI h (λg4 h=>?_) λg4 h=>oG g4 (zm e) (oG g4 (zf e) (oG g4 (zu e zc9 zet) (oH g4 (zaS (R:=vecv zaB (a_x.l.length)) ty29 e p0 isvV1 (oG g4 (zhZ sl29 e) (oG g4 (zdT e e) (oV (zg e g4 e) (hJ3 h 7))))))))))))))))
 ·refine rn (zd h e (λ_ h=>?_) (λ_ h=>wk (ws (om e (oV (zf e) (oV (zu e zc9 zet) (oT (zaS (R:=vecv zaB (a_x.l.length)) ty29 e p0 isvV1 (oV (zhZ sl29 e) (an e (ws (oV (vI e GNode.f0 zdd a_n_.kind) (oV (zb ty3 e) (oV (vI e GNode.f3 zkG a_n_.con) (oV (zb ty125 e) (oV (vI e GNode.f6 zid a_n_.root) (oV (zb ty3 e) (oV (vI e GNode.f7 zhA a_n_.more) (oV (zb ty4 e) (oV (zao (z:=(GTyp.mk a_n_.kind ([]:(List Tag)) a_n_.con ([]:(List GItem)) ([]:(List GFld)) a_n_.root a_n_.more (0:Int))) e bu129 ze129 (.cons GTyp.f0 zdI e hI (.cons GTyp.f2 zhw e hI (.cons GTyp.f5 zik e hI (.cons GTyp.f6 zkJ e hI .nil))))) (oT (zX _ ze129 λb6=>oT (tS ty129 e e p0 ⟨a_n_.kind,[],a_n_.con,[],[],a_n_.root,a_n_.more,0⟩ (rn (ss (oV (vI e GNode.f0 zdd a_n_.kind) (oV (zb ty3 e) (oV (zbz e e) (rn (jw h Unit (λq7 g7=>[]) (λq7 g7=>[boxE b6 (q7:GTyp)]) k1 (λq7 g7 h=>?_) λJ8 h hJ8=>zd h e (λ_ h=>?_) (λ_ h=>?_)))))))))))))))))))))))))))))))
  ·exact ws (om e (za h λy5 hy5 h=>oT (tC (zcw hy5) hT (s2 e e) k2 (rn (ws (ar e (zD (ze (r1 e) k2 (iS h ▸ ⟨zaB,e,e⟩)))))))))
  ·refine zF (jw h Vt (λq11 g11=>[(8,anyv)]) (λq11 g11=>[boxE zY (GMkO q11 g11),vecE g11 q11.l]) (a1 (a1 k0)) (λq11 g11 h=>?_) λJ12 h hJ12=>zc3 8 .here e (λo13 hn14=>zH (.v 0 (.v 1 (.v 2 (.v 3 (.v 5 (.alt 4 (.t 6 (.t 7 (.v 8 (.v 9 (.t 10 .nil))))) (.t 6 (.t 4 (.t 7 (.v 8 (.v 9 (.t 10 .nil)))))))))))) moOrd (by kernel_rfl) (rm e e (rm e e (zl e (zf e) (zl e (zu e zc9 zet) (zl e (vP ty129 e m0 q7) (zam h λq17 h=>zfr ?_ (rT e (zA (l:=([q7]:(List GTyp))) el29 (.cons e hI .nil) e e (rT e (zaS (R:=vecv zaB (a_x.l.length)) ty29 e p0 isvV1 (rT e (zjs (m:=([q7]:(List GTyp))) zsh e e zx (.there .here) (by first | rfl | simp) q17 λv19=>zl e (zf e) (zl e (zu e zc9 zet) (rT e (tR ty29 e e isvV2 p1 (GMkO {a_x with l:=(a_x.l ++ ([q7]:(List GTyp)))} v19) e (zak (zaO 8 hn14 e (hJ12 h v19 12))))))))))))))))))))
   ·refine ss (oV (vI e GNode.f0 zdd a_n_.kind) (oV (zb ty3 e) (rn (jw h Vt (λq20 g20=>[]) (λq20 g20=>[boxE zY (GMkO q20 g20),vecE g20 q20.l]) k2 (λq20 g20 h=>?_) λJ21 h hJ21=>zn (ss (oV (zP e e) (an e (jW 57 h (λq22 h=>?_) λJ23 h hJ23=>zd h e (λ_ h=>?_) (λ_ h=>ws (oV (zP e e) (an e (zd h e (λ_ h=>?_) (λ_ h=>ws (oV (zP e e) (an e (zd h e (λ_ h=>?_) (λ_ h=>zj (oV (zP e e) (oa e (zN (hJ23 h 6)))))))))))))))))))))
    ·exact ws (om e (ar e (ze (r1 e) k2 (iS h ▸ ⟨g20,e,e⟩))))
    ·refine zd h e (λ_ h=>?_) (λ_ h=>ws (oV (zP e e) (an e (zd h e (λ_ h=>?_) (λ_ h=>ss (oV (zP e e) (an e (jW 107 h (λq37 h=>?_) λJ38 h hJ38=>zd h e (λ_ h=>?_) (λ_ h=>ws (oV (zP e e) (an e (zd h e (λ_ h=>?_) (λ_ h=>zj (oV (zP e e) (oa e (zN (hJ38 h 4)))))))))))))))))
     ·refine ws (oV (vI e GNode.f3 zkG a_n_.con) (oV (zb ty125 e) (oV (vI e GNode.f0 zdd a_n_.kind) (oV (zb ty3 e) (oV (zbz e e) (za h λy24 hy24 h=>oT (tC (zqI hy24) hT (s2 e e) k0 (an e (ss (om e (oV (zbz e e) (rn (jw h Unit (λq25 g25=>[]) (λq25 g25=>[boxE zY (GMkO q25 g11),vecE g11 q25.l]) k2 (λq25 g25 h=>?_) λJ26 h hJ26=>zd h e (λ_ h=>?_) (λ_ h=>zC (hJ26 h () 0)))))))))))))))
      ·refine ws (oV (vI e GNode.f0 zdd a_n_.kind) (oV (zb ty3 e) (oV (zP e e) (rn (zd h e (λ_ h=>?_) (λ_ h=>zC (zs (hJ21 h g11 15))))))))
       refine ws (om e (oV (vI e GNode.f8 zpx a_n_.of) (oV (zb ty3 e) (om e (zy h λq28 h=>oV (zaa e e q28) (za h λy29 hy29 h=>oT (tC1 (zdm hy29) hT (s3 e e e) k2 (λv30=>an e (ws (om e (oV (zf e) (oV (zu e zec zfP) (oT (tL ty38 e p0 y29.2.e (oV (zP e e) (rn (zd h e (λ_ h=>?_) (λ_ h=>zC (zs (hJ21 h v30 27))))))))))))))))))))
       exact zj (om e (oV (zf e) (oV (zu e zc9 zet) (oT (zaS (R:=vecv v30 (y29.2.l.length)) ty29 e p0 isvV1 (om e (om e (zaj h λq31 h=>oV (zdw (α:=GTyp) sl29 e e q31.1 q31.2) (oV (zkW e GTyp.f7 znl) (za h λy32 hy32 h=>oT (zeu ty3 e e (.there .here) hy32 (zah (zfS (y:=(GMkO {y29.2 with l:=(y29.2.l.set (((a_x.l.length:Nat):Int).toNat) ({ y32 with of:=y29.1 }))} v30)) (.there .here) (λS=>(Cv.pair Cv.id (Cv.pair (Cv.vhe (by first | rfl | simp)) Cv.id)))) (rb (hJ21 h v30 35))))))))))))))
      exact zj (om e (om e (za h λy27 hy27 h=>oT (tC (zcw hy27) hT (s2 e e) k2 (zN (hJ26 h () 3))))))
     ·refine zH (.v 0 (.v 1 (.v 2 (.v 4 (.v 5 (.v 6 (.alt 3 (.t 7 (.v 8 (.v 9 (.t 10 .nil)))) (.t 7 (.t 3 (.v 8 (.v 9 (.t 10 .nil)))))))))))) moOrd (by kernel_rfl) (rm e e (zl e (zf e) (zl e (zu e zc9 zet) (rm e e (rm e e (zl e (zb ty174 e) (za h λy33 hy33 h=>zaj h λq34 h=>zaj h λq35 h=>za h λy36 hy36 h=>zfr ?_ (rT e (tC (zie hy33) hT (s2 e e) k2 (rT e (zaS (R:=vecv g11 (y33.2.l.length)) ty29 e p0 isvV1 (zl e (zdw (α:=GTyp) sl29 e e (by omega) (by omega)) (zl e (zkW e GTyp.f3 zh7) (rT e (zeu ty126 e e (.there .here) hy36 (ze2 (zfS (y:=(GMkO {y33.2 with l:=(y33.2.l.set (((a_x.l.length:Nat):Int).toNat) ({ y36 with items:=y33.1 }))} g11)) (.there .here) (λS=>(Cv.pair Cv.id (Cv.pair (Cv.vhe (by first | rfl | simp)) Cv.id)))) (zak (zs (hJ21 h g11 15)))))))))))))))))))
      exact rT e (zaS (R:=vecv g11 (q11.l.length)) ty29 e p0 isvV1 (rT e (tC (zie hy33) hT (s2 e e) k2 (zl e (zdw (α:=GTyp) sl29 e e q35.1 q35.2) (zl e (zkW e GTyp.f3 zh7) (rT e (zeu ty126 e e (.there .here) hy36 (ze2 (zfS (y:=(GMkO {y33.2 with l:=(y33.2.l.set (((a_x.l.length:Nat):Int).toNat) ({ y36 with items:=y33.1 }))} g11)) (.there .here) (λS=>(Cv.pair Cv.id (Cv.pair (Cv.vhe (by first | rfl | simp)) Cv.id)))) (zak (zs (hJ21 h g11 15)))))))))))
     ·refine zd h e (λ_ h=>?_) (λ_ h=>zC (zs (hJ21 h g11 8)))
      exact zj (om e (om e (oV (zb ty174 e) (om e (za h λy39 hy39 h=>oT (tC1 (zf3 hy39) hT (s4 e e e e) k2 (λv40=>rb (hJ21 h v40 13))))))))
     ·exact zC (hJ38 h 0)
     exact zC (hJ38 h 2)
    ·exact zC (hJ23 h 0)
    ·exact zC (hJ23 h 2)
    exact zC (hJ23 h 4)
   exact rT e (zaS (R:=vecv zaB (a_x.l.length)) ty29 e p0 isvV1 (rT e (zA (l:=([q7]:(List GTyp))) el29 (.cons e hI .nil) e e (rT e (zjs (m:=([q7]:(List GTyp))) zsh e e zx (.there .here) (by first | rfl | simp) q17 λv16=>zl e (zf e) (zl e (zu e zc9 zet) (rT e (tR ty29 e e isvV2 p1 (GMkO {a_x with l:=(a_x.l ++ ([q7]:(List GTyp)))} v16) e (zak (zaO 8 hn14 e (hJ12 h v16 12)))))))))))
  ·exact zj (oV (vI e GNode.f0 zdd a_n_.kind) (oV (zb ty3 e) (za h λy9 hy9 h=>oT (tC (zm2 hy9) hT (s1 e) k0 (oT (zA (l:=([y9]:(List Tag))) el123 (.cons e hI .nil) e e (oV (zu e GTyp.f1 zg4) (oT (tR ty123 e e zx p0 ⟨a_n_.kind,([y9]:(List Tag)),a_n_.con,[],[],a_n_.root,a_n_.more,0⟩ e (zN (hJ8 h () 5)))))))))))
  exact zC (hJ8 h () 0)
 exact oN g4 (oN g4 (oN g4 (oN g4 (oN g4 (oN g4 (oV (zh e g4 e) (hJ3 h 7)))))))

theorem zgy:∀ n,zd4 (zmr n)/\zdZ (zh3 n)/\zeD (znD n)
  | 0=>⟨λh=>(by cases h),λh=>(by cases h),λh=>(by cases h)⟩
  | n + 1=>by
    obtain ⟨h0,h1,h2⟩:=zgy n
    exact ⟨zkX h0 h1 h2,zlL h0 h1 h2,zlK h0 h1 h2⟩
theorem ziU (n:Nat):zdZ (zh3 n):=(zgy n).2.1
theorem zrp {a_m r} (h:zlQ a_m=some r):Ctr Tryz.prog 23 [isv a_m] [] (Pt [isv r.1,isv r.2.1,isv r.2.2] []):=by
 unfold zlQ at h
 refine zi Tryz.func23 e λw0 S0 hT=>ws (oT (tB e (oT (zX _ ze31 λb1=>oa e (an e (ws (oV (zb ty57 e) (za h λy2 hy2 h=>oT (tC (zqw hy2) hT (s1 e) k0 (om e (oV (zr e e) (oV (zr e e) (oV (zr e e) (oa e (oa e (an e (ss (om e (oV (zbz e e) (rn (zd h e (λ_ h=>?_) (λ_ h=>wk (ws (oV (zb ty57 e) (oV (zao (z:=((a_m,(Vh.mk none 0),(0:Int)):GMkOT)) e bu114 zuX (.cons zgO zjE e hI .nil)) (oT (zkn (y:=((a_m,(Vh.mk none 0),(0:Int)):GMkOT)) e hI λb3=>zah (zgo (α:=GTyp)) (an e (zF ?_)))))))))))))))))))))))))))))
 ·exact ws (oV (zao (z:=(GTab.mk (Str.mk []) ([]:(List Str)) ([]:(List Int)) ([]:(List GTyp)))) e bu31 ze31 .nil) (om e (om e (oT (tS ty31 e e p0 ⟨⟨[]⟩,[],[],[]⟩ (oa e (ar e (zD (ze (.cell e .here ty31 (.tmp e (.tmp e .nil))) k0 (iS h ▸ ⟨e,e⟩))))))))))
 refine jw h (Nat × Tok) (λq5 g5=>[(9,ptrv g5.1 (Fld.id (Str × (List Str) × (TList Int) × (List GTyp))))]) (λq5 g5=>[boxE g5.1 ((q5.name,q5.names,(TList.mk g5.2 q5.roots),q5.types):(Str × (List Str) × (TList Int) × (List GTyp))),tokE g5.2]) k0 (λq5 g5 h=>?_) λJ6 h hJ6=>zH (.v 0 (.v 1 (.v 2 (.v 3 (.alt 4 (.v 5 (.t 6 (.t 7 .nil))) (.t 6 (.t 4 (.v 5 (.t 7 .nil))))))))) moOrd (by kernel_rfl) (zl e (vI e GMod.f0 ztk a_m.name) (zl e (zb ty9 e) (zl e (vI e GMod.f2 zgj a_m.names) (zl e (zb ty27 e) (zam h λq8 h=>zfr ?_ (rT e (zX _ zpC λb12=>ze2 (zbC) (rT e (zpV (m:=a_m.names) zpJ e e hI q8 λt14=>zl e (zao (z:=((a_m.name,(([]:(List Str)) ++ a_m.names),(TList.mk none ([]:(List Int))),([]:(List GTyp))):(Str × (List Str) × (TList Int) × (List GTyp)))) e bu31 zpC (.cons zqB zun e hI (.cons zqt ztV e zx .nil))) (ze2 (zbC) (rT e (tS ty31 e e p3 (a_m.name,([] ++ a_m.names),⟨none,[]⟩,[]) (zak (hJ6 h (b12,none) 7))))))))))))))
 ·refine ss (an e (zn (lP h (Tok × Vt) (g5.2,none) (λq16 g16=>[(10,isv q16.1)]) (λq16 g16=>[boxE g5.1 ((q16.2.1.name,q16.2.1.names,(TList.mk g16.1 q16.2.1.roots),q16.2.1.types):(Str × (List Str) × (TList Int) × (List GTyp))),tokE g16.1,boxE b3 (GMkO q16.2.2 g16.2),vecE g16.2 (q16.2.2.l:List GTyp)]) (zB (j:=10) e hI zay) (a0 (a0 (a1 k1))) λL17 q16 g16 Q50 h hL17 eL17 rL17=>ss (om e (oV (vI e GMod.f2 zgj a_m.names) (oV (zb ty27 e) (oV (vN e sl27) (oV (zau e e) (rn (zd h e (λ_ h=>?_) (λ_ h=>xn (eL17 _ _ (zw (zp (ws (om e (oV (zf e) (oV (zu e zc9 zet) (oT (zaS (R:=vecv g16.2 (q16.2.2.l.length)) ty29 e p2 isvV1 (oV (zu e ztQ zfC) (zah (zmj 64 (.there (.there (.there .here))) e (by first | rfl | simp)) (oT (tS ty29 e e p0 (q16.2.1.name,q16.2.1.names,⟨g16.1,q16.2.1.roots⟩,q16.2.2.l) (rn (ws (oT (zaS (y:=((q16.2.1.name,q16.2.1.names,(TList.mk g16.1 q16.2.1.roots),q16.2.2.l):(Str × (List Str) × (TList Int) × (List GTyp)))) (R:=isv (((q16.2.1.name,q16.2.1.names,(TList.mk g16.1 q16.2.1.roots),q16.2.2.l)):((Str × (List Str) × (TList Int) × (List GTyp))))) ty31 e .here (by exact hI) (zah (zcp (R':=isv ((GTab.mk q16.2.1.name q16.2.1.names q16.2.1.roots q16.2.2.l))) 66 e (Cv.isv e λS=>(λcs h=>GTab.cv (x:=(GTab.mk q16.2.1.name q16.2.1.names q16.2.1.roots q16.2.2.l)) cs (((Cv.pair Cv.id (Cv.pair Cv.id (Cv.pair Cv.tl Cv.id))):Cv S ((q16.2.1.name,q16.2.1.names,(TList.mk g16.1 q16.2.1.roots),q16.2.2.l):(Str × (List Str) × (TList Int) × (List GTyp))) (GTab.to (GTab.mk q16.2.1.name q16.2.1.names q16.2.1.roots q16.2.2.l))) cs h)))) (oT (tS ty31 e e p3 ⟨q16.2.1.name,q16.2.1.names,q16.2.1.roots,q16.2.2.l⟩ (oa e ?_))))))))))))))))))))))))))))))))
  ·refine wk (zF (zn (zF (jw h (Tok × Vt) (λq34 g34=>[]) (λq34 g34=>[boxE g5.1 ((q34.1.name,q34.1.names,(TList.mk g34.1 q34.1.roots),q34.1.types):(Str × (List Str) × (TList Int) × (List GTyp))),tokE g34.1,boxE b3 (GMkO q34.2 g34.2),vecE g34.2 (q34.2.l:List GTyp)]) (a0 (a1 k2)) (λq34 g34 h=>?_) λJ35 h hJ35=>zH (.v 0 (.v 2 (.v 3 (.v 4 (.v 5 (.v 6 (.v 7 (.alt 1 (.t 8 (.t 9 (.t 10 (.v 11 (.t 12 .nil))))) (.t 8 (.alt 1 (.t 9 (.t 10 (.v 11 (.t 12 .nil)))) (.t 9 (.t 1 (.t 10 (.v 11 (.t 12 .nil))))))))))))))) moOrd (by kernel_rfl) (zl e (zu e zlE zpR) (rm e e (zl e (vI e GMod.f3 znX a_m.types) (zl e (zb ty28 e) (rm e e (za h λy36 hy36 h=>zl e (vX e e sl28 hy36) (zl e (zb ty3 e) (za h λy37 hy37 h=>zam h λq41 h=>zfr ?_ (rT e (tC1 (ziU fuel hy37) hT (s3 e e e) (a2 (a2 k0)) (λv42=>zfr ?_ (rT e (zA (l:=([y37.1]:(List Int))) el28 (.cons e hI .nil) e e (rT e (zaS (R:=appv g16.1 q16.2.1.roots) ty28 e p2 isvT1 (rT e (zcj (l:=q16.2.1.roots) (m:=([y37.1]:(List Int))) zgh e hI e zx (.there (.there (.there .here))) q41 λt46=>zl e (zu e zlE zpR) (rT e (tR ty28 e e isvT2 p3 (q16.2.1.name,q16.2.1.names,⟨t46,(q16.2.1.roots ++ ([y37.1]:(List Int)))⟩,q16.2.1.types) e (zak (hJ35 h (t46,v42) 12)))))))))))))))))))))))))
   ·refine ws (om e (oV (zf e) (oV (zu e zec zfP) (oT (tL ty38 e p2 q34.2.e (oV (zbz e e) (rn (zd h e (λ_ h=>?_) (λ_ h=>zC (zs (zp (zj (om e (zy h λq49 h=>oV (zaa e e q49) (oa e (zN (hL17 h (g34.1,g34.2) 14)))))))))))))))))
    exact zF (zc3 8 (.there (.there .here)) e (λo47 hn48=>zH (.v 0 (.v 1 (.v 2 (.v 3 (.v 4 (.v 5 (.t 6 (.v 7 (.v 8 .nil))))))))) moOrd (by kernel_rfl) (zl e (zao (z:=(GTab.mk (Str.mk []) ([]:(List Str)) ([]:(List Int)) ([]:(List GTyp)))) e bu31 ze31 .nil) (rm e e (rm e e (zl e (zat e) (zl e (zdM e zec zfP) (zl e (vP ty38 e m0 q34.2.e) (rT e (tS ty31 e e p3 ⟨⟨[]⟩,[],[],[]⟩ (zl e (zaD e) (zl e (zaD e) (zak (zaO 8 hn48 e (zp (zbK (bn (rL17 _ (bn (ze (.cell e (.there .here) ty31 (.tmp e (.tmp e .nil))) k0 (iS h ▸ ⟨e,e⟩)))))))))))))))))))))
   ·exact rT e (zaS (R:=appv g16.1 q16.2.1.roots) ty28 e p0 isvT1 (rT e (tC1 (ziU fuel hy37) hT (s3 e e e) (a2 (a2 k0)) (λv38=>rT e (zA (l:=([y37.1]:(List Int))) el28 (.cons e hI .nil) e e (rT e (zcj (l:=q16.2.1.roots) (m:=([y37.1]:(List Int))) zgh e hI e zx (.there (.there (.there .here))) q41 λt40=>zl e (zu e zlE zpR) (rT e (tR ty28 e e isvT2 p3 (q16.2.1.name,q16.2.1.names,⟨t40,(q16.2.1.roots ++ ([y37.1]:(List Int)))⟩,q16.2.1.types) e (zak (hJ35 h (t40,v38) 12)))))))))))
   exact rT e (zaS (R:=appv g16.1 q16.2.1.roots) ty28 e p2 isvT1 (rT e (zA (l:=([y37.1]:(List Int))) el28 (.cons e hI .nil) e e (rT e (zcj (l:=q16.2.1.roots) (m:=([y37.1]:(List Int))) zgh e hI e zx (.there (.there (.there .here))) q41 λt44=>zl e (zu e zlE zpR) (rT e (tR ty28 e e isvT2 p3 (q16.2.1.name,q16.2.1.names,⟨t44,(q16.2.1.roots ++ ([y37.1]:(List Int)))⟩,q16.2.1.types) e (zak (hJ35 h (t44,v42) 12)))))))))
  exact ar e (ze (.cell e .here ty31 (.tmp e (.tmp e .nil))) k0 (iS h ▸ ⟨e,e⟩))
 exact rT e (zpV (m:=a_m.names) zpJ e e hI q8 λt7=>zl e (zao (z:=((a_m.name,(([]:(List Str)) ++ a_m.names),(TList.mk none ([]:(List Int))),([]:(List GTyp))):(Str × (List Str) × (TList Int) × (List GTyp)))) e bu31 zpC (.cons zqB zun e hI (.cons zqt ztV e zx .nil))) (rT e (zX _ zpC λb9=>ze2 (zbC) (ze2 (zbC) (rT e (tS ty31 e e p2 (a_m.name,([] ++ a_m.names),⟨none,[]⟩,[]) (zak (hJ6 h (b9,none) 7))))))))


theorem zig {zaV r} (h:zdc zaV=some r):Ctr Tryz.prog 9 [isv zaV] [] (Pt [isv r.1,isv r.2] []):=by
 unfold zdc at h
 refine zi Tryz.func9 e λw0 S0 hT=>ws (oT (zX _ ze31 λb1=>an e (ss (om e (oV (zcr st9 e) (oV (zcy e e) (rn (zd h e (λ_ h=>?_) (λ_ h=>wk (ws (om e (za h λy2 hy2 h=>oT (tC (zqr hy2) hT (s1 e) k0 (om e (oV (zr e e) (oV (zr e e) (oV (zr e e) (oT (zX _ ze57 λb3=>oT (tS ty57 e e p0 y2.1 (zah (zaJ 4 .here e) (oa e (an e (ss (om e (oV (zbz e e) (rn (zd h e (λ_ h=>?_) (λ_ h=>wk ?_)))))))))))))))))))))))))))))
 ·exact ws (oV (zao (z:=(GTab.mk (Str.mk []) ([]:(List Str)) ([]:(List Int)) ([]:(List GTyp)))) e bu31 ze31 .nil) (oT (tS ty31 e e p0 ⟨⟨[]⟩,[],[],[]⟩ (ar e (zD (ze (.cell e .here ty31 (.tmp e .nil)) k0 (iS h ▸ ⟨e,e⟩)))))))
 ·exact ws (oV (zao (z:=(GTab.mk (Str.mk []) ([]:(List Str)) ([]:(List Int)) ([]:(List GTyp)))) e bu31 ze31 .nil) (oT (tS ty31 e e p0 ⟨⟨[]⟩,[],[],[]⟩ (ar e (zD (ze (.cell e .here ty31 (.tmp e .nil)) k0 (iS h ▸ ⟨e,e⟩)))))))
 refine ws (oV (zb ty57 e) (za h λy4 hy4 h=>oT (tC (zrp hy4) hT (s1 e) k0 (om e (oV (zr e e) (oV (zr e e) (oV (zr e e) (oT (zX _ ze31 λb5=>oT (tS ty31 e e p0 y4.1 (zah (zaJ 7 .here e) (oa e (an e (zF (zH (.v 0 (.v 1 (.v 2 (.v 3 (.v 4 (.v 5 (.v 6 (.v 7 (.v 8 (.t 9 (.v 10 .nil))))))))))) moOrd (by kernel_rfl) (zl e (zb ty31 e) (rm e e (zl e (zP e e) (rm e e (jD 5 37 h (λq6 h=>?_) λJ7 h hJ7=>rJ h (λg8 h=>?_) λg8 h=>rP e g8 (rP e g8 (rP e g8 (rP e g8 (zl e (zg e g8 e) (hJ7 h 5)))))))))))))))))))))))))
 ·exact rT e (tS ty31 e e p0 y4.1 (zl e (zaD e) (zak (zp (zbK (ze (.cell e .here ty31 (.tmp e .nil)) k0 (iS h ▸ ⟨e,e⟩)))))))
 exact rG e g8 (vI e GTab.f3 zfC y4.1.types) (rG e g8 (zb ty29 e) (rG e g8 (vN e sl29) (rG e g8 (zk6 e e) (zl e (zh e g8 e) (hJ7 h 5)))))

end Go.Proofs.Q


namespace Go.Proofs.Q
open Go.Sy
set_option maxRecDepth 4000
theorem zo0 {a_a a_b r} (h:znc a_a a_b=some r):Ctr Tryz.prog 36 [isv a_a,isv a_b] [] (Pt [isv r] []):=by
 unfold znc at h
 exact zi Tryz.func36 e λw0 S0 hT=>ws (an e (ws (om e (oV (zmM (l:=a_a) Tryz.underlying22 Tryz.underlying5 Tryz.underlying9 e hI) (om e (oV (zmM (l:=a_b) Tryz.underlying22 Tryz.underlying5 Tryz.underlying9 e hI) (oV (zaW eq9 e e) (ar e (ze (r1 e) k0 (iS h ▸ ⟨e,e⟩))))))))))


theorem zuV {a_a a_b r} (h:zqc a_a a_b=some r):Ctr Tryz.prog 39 [isv a_a,isv a_b] [] (Pt [isv r] []):=by
 unfold zqc at h
 refine zi Tryz.func39 e λw0 S0 hT=>ws (oT (tB e (oT (tB e (an e (ws (oV (vI e Raw.f0 zj1 a_a.n) (oV (zb ty3 e) (oV (vI e Raw.f0 zj1 a_b.n) (oV (zb ty3 e) (oV (zP e e) (om e (jO 6 16 h (λq1 h=>?_) λJ2 h hJ2=>oI h (λg3 h=>?_) λg3 h=>oN g3 (oN g3 (oN g3 (oN g3 (oN g3 (oV (zg e g3 e) (hJ2 h 6)))))))))))))))))))
 ·exact ar e (ze (r1 e) k0 (iS h ▸ ⟨e,e⟩))
 exact oG g3 (vI e Raw.f1 zmn a_a.b) (oG g3 (zb ty22 e) (oG g3 (vI e Raw.f1 zmn a_b.b) (oG g3 (zb ty22 e) (za h λy4 hy4 h=>oH g3 (tC (zo0 hy4) hT (s2 e e) k0 (oV (zh e g3 e) (hJ2 h 6)))))))


theorem zmt {a_a a_b r} (h:zgA a_a a_b=some r):Ctr Tryz.prog 38 [isv a_a,isv a_b,clov 39 []] [] (Pt [isv r] []):=by
 unfold zgA at h
 refine zi Tryz.func38 e λw0 S0 hT=>ws (an e (ss (om e (oV (vN e sl24) (om e (oV (vN e sl24) (oV (zbz e e) (rn (zd h e (λ_ h=>?_) (λ_ h=>wk (ss (an e (zn (lO 7 h e λL2 q1 Q11 h hL2 eL2 rL2=>ss (om e (om e (oV (vN e sl24) (oV (zau e e) (rn (zd h e (λ_ h=>?_) (λ_ h=>xn (eL2 _ _ (zw (zp (ws (ar e (ze (r1 e) k0 (iS h ▸ ⟨e,e⟩))))))))))))))))))))))))))))
 ·exact ws (ar e (zD (ze (r1 e) k0 (iS h ▸ ⟨e,e⟩))))
 refine wk (zF (zn (zF (zH (.v 0 (.v 1 (.v 2 (.v 3 (.v 4 (.v 5 (.v 6 (.v 7 (.v 8 (.t 9 (.v 10 .nil))))))))))) moOrd (by kernel_rfl) (rm e e (rm e e (rm e e (za h λy7 hy7 h=>zl e (vX e e sl24 hy7) (zl e (zb ty92 e) (rm e e (rm e e (za h λy8 hy8 h=>zl e (vX e e sl24 hy8) (zl e (zb ty92 e) (za h λy9 hy9 h=>rT e (zfB e (.same e (.same e .nil)) (zuV hy9) hT .nil (λR H' hR=>?_))))))))))))))))
 obtain ⟨rfl,rfl⟩:=hR
 refine zl e (za2 e) (zak (zp (zd h e (λ_ h=>?_) (λ_ h=>zC (zs (zp (zj (om e (zy h λq10 h=>oV (zaa e e q10) (oa e (zN (hL2 h 19))))))))))))
 exact ws (ar e (bn (rL2 _ (bn (ze (r1 e) k0 (iS h ▸ ⟨e,e⟩))))))


def zeQ (f':(List Val)->(List Val)->Option (Bool)):Prop :=
 ∀ {a_a a_b r},f' a_a a_b=some r->Ctr Tryz.prog 37 [isv a_a,isv a_b,clov 17 []] [] (Pt [isv r] [])
def ziM (f':Val->Val->Option (Bool)):Prop :=
 ∀ {a_a a_b r},f' a_a a_b=some r->Ctr Tryz.prog 17 [isv a_a,isv a_b] [] (Pt [isv r] [])
theorem zkS {zcE zhj} (zhM:zeQ zcE) (zoC:ziM zhj):zeQ (zd2 zcE zhj):=by
 intro a_a a_b r h
 unfold zd2 at h
 refine zi Tryz.func37 e λw0 S0 hT=>ws (an e (ss (om e (oV (vN e sl23) (om e (oV (vN e sl23) (oV (zbz e e) (rn (zd h e (λ_ h=>?_) (λ_ h=>wk (ss (an e (zn (lO 7 h e λL2 q1 Q11 h hL2 eL2 rL2=>ss (om e (om e (oV (vN e sl23) (oV (zau e e) (rn (zd h e (λ_ h=>?_) (λ_ h=>xn (eL2 _ _ (zw (zp (ws (ar e (ze (r1 e) k0 (iS h ▸ ⟨e,e⟩))))))))))))))))))))))))))))
 ·exact ws (ar e (zD (ze (r1 e) k0 (iS h ▸ ⟨e,e⟩))))
 refine wk (zF (zn (zF (zH (.v 0 (.v 1 (.v 2 (.v 3 (.v 4 (.v 5 (.v 6 (.v 7 (.v 8 (.t 9 (.v 10 .nil))))))))))) moOrd (by kernel_rfl) (rm e e (rm e e (rm e e (za h λy7 hy7 h=>zl e (vX e e sl23 hy7) (zl e (zb ty26 e) (rm e e (rm e e (za h λy8 hy8 h=>zl e (vX e e sl23 hy8) (zl e (zb ty26 e) (za h λy9 hy9 h=>rT e (zfB e (.same e (.same e .nil)) (zoC hy9) hT .nil (λR H' hR=>?_))))))))))))))))
 obtain ⟨rfl,rfl⟩:=hR
 refine zl e (za2 e) (zak (zp (zd h e (λ_ h=>?_) (λ_ h=>zC (zs (zp (zj (om e (zy h λq10 h=>oV (zaa e e q10) (oa e (zN (hL2 h 19))))))))))))
 exact ws (ar e (bn (rL2 _ (bn (ze (r1 e) k0 (iS h ▸ ⟨e,e⟩))))))

theorem zq8 {zcE zhj} (zhM:zeQ zcE) (zoC:ziM zhj):ziM (zi5 zcE zhj):=by
 intro a_a a_b r h
 unfold zi5 at h
 refine zi Tryz.func17 e λw0 S0 hT=>ws (oT (tB e (oT (tB e (an e (ws (oV (vI e Val.f0 zdy a_a.kind) (oV (zb ty3 e) (oV (vI e Val.f0 zdy a_b.kind) (oV (zb ty3 e) (oV (zP e e) (om e (jO 6 16 h (λq1 h=>?_) λJ2 h hJ2=>oI h (λg3 h=>?_) λg3 h=>oN g3 (oN g3 (oN g3 (oN g3 (oN g3 (oV (zg e g3 e) (hJ2 h 6)))))))))))))))))))
 ·refine om e (jO 6 23 h (λq4 h=>?_) λJ5 h hJ5=>oI h (λg6 h=>?_) λg6 h=>oN g6 (oN g6 (oN g6 (oN g6 (oN g6 (oV (zg e g6 e) (hJ5 h 6)))))))
  ·refine om e (jO 6 30 h (λq8 h=>?_) λJ9 h hJ9=>oI h (λg10 h=>?_) λg10 h=>oN g10 (oN g10 (oN g10 (oN g10 (oN g10 (oV (zg e g10 e) (hJ9 h 6)))))))
   ·refine om e (jO 6 37 h (λq12 h=>?_) λJ13 h hJ13=>oI h (λg14 h=>?_) λg14 h=>oN g14 (oN g14 (oN g14 (oN g14 (oN g14 (oV (zg e g14 e) (hJ13 h 6)))))))
    ·refine om e (jO 6 44 h (λq15 h=>?_) λJ16 h hJ16=>oI h (λg17 h=>?_) λg17 h=>oN g17 (oN g17 (oN g17 (oN g17 (oN g17 (oV (zg e g17 e) (hJ16 h 6)))))))
     ·exact ar e (ze (r1 e) k0 (iS h ▸ ⟨e,e⟩))
     exact oG g17 (vI e Val.f5 zjn a_a.more) (oG g17 (zb ty24 e) (oG g17 (vI e Val.f5 zjn a_b.more) (oG g17 (zb ty24 e) (za h λy18 hy18 h=>oH g17 (tC (zmt hy18) hT (s3 e e e) k0 (oV (zh e g17 e) (hJ16 h 6)))))))
    exact oG g14 (vI e Val.f4 zgJ a_a.rule) (oG g14 (zb ty3 e) (oG g14 (vI e Val.f4 zgJ a_b.rule) (oG g14 (zb ty3 e) (oG g14 (zP e e) (oV (zh e g14 e) (hJ13 h 6))))))
   exact oG g10 (vI e Val.f3 zcK a_a.l) (oG g10 (zb ty23 e) (oG g10 (vI e Val.f3 zcK a_b.l) (oG g10 (zb ty23 e) (za h λy11 hy11 h=>oH g10 (tC (zhM hy11) hT (s3 e e e) k0 (oV (zh e g10 e) (hJ9 h 6)))))))
  exact oG g6 (vI e Val.f2 zdR a_a.b) (oG g6 (zb ty22 e) (oG g6 (vI e Val.f2 zdR a_b.b) (oG g6 (zb ty22 e) (za h λy7 hy7 h=>oH g6 (tC (zo0 hy7) hT (s2 e e) k0 (oV (zh e g6 e) (hJ5 h 6)))))))
 exact oG g3 (vI e Val.f1 zcB a_a.n) (oG g3 (zb ty2 e) (oG g3 (vI e Val.f1 zcB a_b.n) (oG g3 (zb ty2 e) (oG g3 (zP e e) (oV (zh e g3 e) (hJ2 h 6))))))

theorem zgF:∀ n,zeQ (zgP n)/\ziM (zi9 n)
  | 0=>⟨λh=>(by cases h),λh=>(by cases h)⟩
  | n + 1=>by
    obtain ⟨h0,h1⟩:=zgF n
    exact ⟨zkS h0 h1,zq8 h0 h1⟩
theorem zoO (n:Nat):ziM (zi9 n):=(zgF n).2

end Go.Proofs.Q

