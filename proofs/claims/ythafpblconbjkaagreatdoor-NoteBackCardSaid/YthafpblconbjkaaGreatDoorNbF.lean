/- Walks, printed by mill.py and grow.py. -/
import Derived.Test.YthafpblconbjkaaGreatDoorNbE
import Derived.Test.YthafpblconbjkaaGreatDoorProg
import Derived.Shelf.Strconv.ParseIntPublic10
import Derived.KernelRfl
import Derived.Shelf.Strconv.Itoa4
import Derived.Shelf.Strings.Replace
import Derived.Lib.AppendIntMem
import Derived.Shelf.Unicode.ValidAny
set_option linter.unusedVariables false
set_option linter.unusedSimpArgs false
set_option maxRecDepth 4000
set_option maxHeartbeats 4000000
namespace Go.Proofs.Q
open Go.Sy
end Go.Proofs.Q
namespace Go.Proofs.Q
open Go.Sy
open Go.Shelf Go.RowKit
def zs8:Shelf.Ren:=⟨λx=>bif Nat.beq x 129 then 213 else bif Nat.beq x 171 then 179 else bif Nat.beq x 174 then 47 else bif Nat.beq x 205 then 178 else bif Nat.beq x 243 then 205 else bif Nat.beq x 245 then 103 else bif Nat.beq x 246 then 162 else bif Nat.beq x 247 then 102 else bif Nat.beq x 279 then 146 else bif Nat.beq x 280 then 147 else bif Nat.beq x 281 then 148 else bif Nat.beq x 282 then 149 else bif Nat.beq x 283 then 189 else bif Nat.beq x 284 then 190 else bif Nat.beq x 285 then 191 else bif Nat.beq x 286 then 192 else bif Nat.beq x 287 then 145 else bif Nat.beq x 316 then 177 else bif Nat.beq x 317 then 212 else bif Nat.beq x 318 then 214 else bif Nat.beq x 319 then 215 else bif Nat.beq x 320 then 216 else bif Nat.beq x 321 then 175 else bif Nat.beq x 322 then 176 else bif Nat.beq x 337 then 231 else bif Nat.beq x 338 then 232 else x,λx=>bif Nat.beq x 0 then 0 else bif Nat.beq x 2 then 2 else bif Nat.beq x 3 then 3 else bif Nat.beq x 4 then 4 else bif Nat.beq x 5 then 5 else bif Nat.beq x 9 then 9 else bif Nat.beq x 20 then 20 else bif Nat.beq x 21 then 21 else bif Nat.beq x 37 then 32 else bif Nat.beq x 46 then 55 else bif Nat.beq x 51 then 275 else bif Nat.beq x 53 then 178 else bif Nat.beq x 75 then 120 else bif Nat.beq x 80 then 252 else bif Nat.beq x 85 then 121 else bif Nat.beq x 127 then 261 else bif Nat.beq x 143 then 262 else bif Nat.beq x 145 then 264 else bif Nat.beq x 167 then 211 else bif Nat.beq x 168 then 212 else bif Nat.beq x 171 then 238 else bif Nat.beq x 173 then 241 else bif Nat.beq x 175 then 179 else bif Nat.beq x 210 then 233 else bif Nat.beq x 212 then 274 else bif Nat.beq x 213 then 276 else bif Nat.beq x 232 then 296 else bif Nat.beq x 233 then 297 else x,λx=>bif Nat.beq x 15 then 2 else bif Nat.beq x 16 then 3 else bif Nat.beq x 17 then 4 else bif Nat.beq x 18 then 6 else bif Nat.beq x 19 then 7 else x⟩
set_option maxRecDepth 100000 in
theorem zqp:LaysC.n174 Tryz.prog zs8:={
 mixed:=by kernel_rfl
 f129:=Tryz.func213.trans (by kernel_rfl)
 f171:=Tryz.func179.trans (by kernel_rfl)
 f174:=Tryz.func47.trans (by kernel_rfl)
 f205:=Tryz.func178.trans (by kernel_rfl)
 f243:=Tryz.func205.trans (by kernel_rfl)
 f245:=Tryz.func103.trans (by kernel_rfl)
 f246:=Tryz.func162.trans (by kernel_rfl)
 f247:=Tryz.func102.trans (by kernel_rfl)
 f279:=Tryz.func146.trans (by kernel_rfl)
 f280:=Tryz.func147.trans (by kernel_rfl)
 f281:=Tryz.func148.trans (by kernel_rfl)
 f282:=Tryz.func149.trans (by kernel_rfl)
 f283:=Tryz.func189.trans (by kernel_rfl)
 f284:=Tryz.func190.trans (by kernel_rfl)
 f285:=Tryz.func191.trans (by kernel_rfl)
 f286:=Tryz.func192.trans (by kernel_rfl)
 f287:=Tryz.func145.trans (by kernel_rfl)
 f316:=Tryz.func177.trans (by kernel_rfl)
 f317:=Tryz.func212.trans (by kernel_rfl)
 f318:=Tryz.func214.trans (by kernel_rfl)
 f319:=Tryz.func215.trans (by kernel_rfl)
 f320:=Tryz.func216.trans (by kernel_rfl)
 f321:=Tryz.func175.trans (by kernel_rfl)
 f322:=Tryz.func176.trans (by kernel_rfl)
 f337:=Tryz.func231.trans (by kernel_rfl)
 f338:=Tryz.func232.trans (by kernel_rfl)
 t0:=Tryz.underlying0
 a0:=Tryz.isAgg0
 z0:=Tryz.sizeOf0
 v0:=Tryz.zeroValue0
 t2:=Tryz.underlying2
 a2:=Tryz.isAgg2
 z2:=Tryz.sizeOf2
 v2:=Tryz.zeroValue2
 t3:=Tryz.underlying3
 a3:=Tryz.isAgg3
 z3:=Tryz.sizeOf3
 v3:=Tryz.zeroValue3
 t4:=Tryz.underlying4
 a4:=Tryz.isAgg4
 z4:=Tryz.sizeOf4
 v4:=Tryz.zeroValue4
 t5:=Tryz.underlying5
 a5:=Tryz.isAgg5
 z5:=Tryz.sizeOf5
 v5:=Tryz.zeroValue5
 t9:=Tryz.underlying9
 a9:=Tryz.isAgg9
 z9:=Tryz.sizeOf9
 v9:=Tryz.zeroValue9
 t20:=Tryz.underlying20
 a20:=Tryz.isAgg20
 z20:=Tryz.sizeOf20
 v20:=Tryz.zeroValue20
 t21:=Tryz.underlying21
 a21:=Tryz.isAgg21
 z21:=Tryz.sizeOf21
 v21:=Tryz.zeroValue21
 t37:=Tryz.underlying32
 a37:=Tryz.isAgg32
 z37:=Tryz.sizeOf32
 v37:=Tryz.zeroValue32
 t46:=Tryz.underlying55
 a46:=Tryz.isAgg55
 z46:=Tryz.sizeOf55
 v46:=Tryz.zeroValue55
 t51:=Tryz.underlying275
 a51:=Tryz.isAgg275
 z51:=Tryz.sizeOf275
 v51:=Tryz.zeroValue275
 t53:=Tryz.underlying178
 a53:=Tryz.isAgg178
 z53:=Tryz.sizeOf178
 v53:=Tryz.zeroValue178
 t75:=Tryz.underlying120
 a75:=Tryz.isAgg120
 z75:=Tryz.sizeOf120
 v75:=Tryz.zeroValue120
 t85:=Tryz.underlying121
 a85:=Tryz.isAgg121
 z85:=Tryz.sizeOf121
 v85:=Tryz.zeroValue121
 t127:=Tryz.underlying261
 a127:=Tryz.isAgg261
 z127:=Tryz.sizeOf261
 v127:=Tryz.zeroValue261
 t143:=Tryz.underlying262
 a143:=Tryz.isAgg262
 z143:=Tryz.sizeOf262
 v143:=Tryz.zeroValue262
 t145:=Tryz.underlying264
 a145:=Tryz.isAgg264
 z145:=Tryz.sizeOf264
 v145:=Tryz.zeroValue264
 t167:=Tryz.underlying211
 a167:=Tryz.isAgg211
 z167:=Tryz.sizeOf211
 v167:=Tryz.zeroValue211
 t168:=Tryz.underlying212
 a168:=Tryz.isAgg212
 z168:=Tryz.sizeOf212
 v168:=Tryz.zeroValue212
 t171:=Tryz.underlying238
 a171:=Tryz.isAgg238
 z171:=Tryz.sizeOf238
 v171:=Tryz.zeroValue238
 t173:=Tryz.underlying241
 a173:=Tryz.isAgg241
 z173:=Tryz.sizeOf241
 v173:=Tryz.zeroValue241
 t175:=Tryz.underlying179
 a175:=Tryz.isAgg179
 z175:=Tryz.sizeOf179
 v175:=Tryz.zeroValue179
 t210:=Tryz.underlying233
 a210:=Tryz.isAgg233
 z210:=Tryz.sizeOf233
 v210:=Tryz.zeroValue233
 t212:=Tryz.underlying274
 a212:=Tryz.isAgg274
 z212:=Tryz.sizeOf274
 v212:=Tryz.zeroValue274
 t213:=Tryz.underlying276
 a213:=Tryz.isAgg276
 z213:=Tryz.sizeOf276
 t232:=Tryz.underlying296
 a232:=Tryz.isAgg296
 z232:=Tryz.sizeOf296
 v232:=Tryz.zeroValue296
 t233:=Tryz.underlying297
 a233:=Tryz.isAgg297
 z233:=Tryz.sizeOf297
 v233:=Tryz.zeroValue297
 g15:=by kernel_rfl
 g16:=by kernel_rfl
 g17:=by kernel_rfl
 g18:=by kernel_rfl
 g19:=by kernel_rfl
 t80:=Tryz.underlying252
 a80:=Tryz.isAgg252
 z80:=Tryz.sizeOf252
 v80:=Tryz.zeroValue252
 i0:=by kernel_rfl
 i2:=by kernel_rfl
 i3:=by kernel_rfl
 i4:=by kernel_rfl
 i5:=by kernel_rfl
 i9:=by kernel_rfl
 i20:=by kernel_rfl
 i21:=by kernel_rfl
 i37:=by kernel_rfl
 i46:=by kernel_rfl
 i51:=by kernel_rfl
 i53:=by kernel_rfl
 i75:=by kernel_rfl
 i80:=by kernel_rfl
 i85:=by kernel_rfl
 i127:=by kernel_rfl
 i143:=by kernel_rfl
 i145:=by kernel_rfl
 i167:=by kernel_rfl
 i168:=by kernel_rfl
 i171:=by kernel_rfl
 i173:=by kernel_rfl
 i175:=by kernel_rfl
 i210:=by kernel_rfl
 i212:=by kernel_rfl
 i232:=by kernel_rfl
 i233:=by kernel_rfl
 m15:=by kernel_rfl
 m16:=by kernel_rfl
 m17:=by kernel_rfl
 m18:=by kernel_rfl
 m19:=by kernel_rfl
 c0:=by kernel_rfl
 c2:=by kernel_rfl
 c3:=by kernel_rfl
 c4:=by kernel_rfl
 c5:=by kernel_rfl
 c9:=by kernel_rfl
 c20:=by kernel_rfl
 c21:=by kernel_rfl
 c37:=by kernel_rfl
 c46:=by kernel_rfl
 c51:=by kernel_rfl
 c53:=by kernel_rfl
 c75:=by kernel_rfl
 c80:=by kernel_rfl
 c85:=by kernel_rfl
 c127:=by kernel_rfl
 c143:=by kernel_rfl
 c145:=by kernel_rfl
 c167:=by kernel_rfl
 c168:=by kernel_rfl
 c171:=by kernel_rfl
 c173:=by kernel_rfl
 c175:=by kernel_rfl
 c210:=by kernel_rfl
 c212:=by kernel_rfl
 c213:=by kernel_rfl
 c232:=by kernel_rfl
 c233:=by kernel_rfl }
theorem zir {S:Frz} {w w':World} (hk:Below w.heap.size w w') (hs:S.sub w):zkP (zbN []) S S w w' :=
 ⟨⟨hk.os,hk.tape,hk.output,hk.size,λk hk' _=>hk.block k hk'⟩,Go.Sy.Grow.refl _ _ _,λb cs hb=>by
  obtain ⟨c,T,fr,h1,h2⟩:=hs b cs hb
  exact ⟨c,T,fr,by rw [hk.block b (Array.getElem?_eq_some_iff.1 h1).1];exact h1,h2⟩⟩
theorem zlP:∀ {a_s:Str} {zdQ:Int} {zcL:Int} {r:Int × Er},zbc a_s zdQ zcL=some r->Ctr Tryz.prog 47 [isv (a_s),isv (zdQ),isv (zcL)] [] (λR H=>R=ziK [isv (r.1),isv (r.2)]/\H=[]):=by
 intro s b z r h
 unfold zbc at h
 cases hc:(decide (b=10) && decide (z=64) && Nat.ble s.b.length 281474976710656) with
 | false=>rw [hc] at h;cases h
 | true =>
  rw [hc,zCt] at h
  rw [zBa,zBa] at hc
  have hb:=zOT hc.1.1
  have hz:=zOT hc.1.2
  have hln:=Nat.le_of_ble_eq_true hc.2
  subst hb;subst hz
  refine ⟨⟨_,Tryz.func47,rfl,by decide +kernel⟩,λS w vs hT hs hv ho=>?_⟩
  match vs,hv with
  | [v1,v2,v3],⟨hv1,hv2,hv3,_⟩ =>
   obtain ⟨rfl,hl⟩:=zds.1 hv1
   obtain ⟨rfl,_⟩:=zai.1 hv2
   obtain ⟨rfl,_⟩:=zai.1 hv3
   have hsz:s.ba.size <= 281474976710656:=by rw [Str.ba_size];exact hln
   have ed:s.ba.data.toList=s.b:=rfl
   have hE:=(hT.tabs w hs).2
   have gs : Tryz.prog.globals.findIdx? (·.name == "strconv.ErrSyntax") = some (zs8.g 15) := by kernel_rfl
   have gr : Tryz.prog.globals.findIdx? (·.name == "strconv.ErrRange") = some (zs8.g 16) := by kernel_rfl
   cases hp:Lib.parseIntB 64 s.b with
   | ok v =>
    rw [hp] at h
    obtain rfl:=Option.some.inj h
    refine (Any.strconv_ParseInt_10_at64_ok zqp s.ba (by omega) v hp w).mono λe w' ⟨he,hw⟩=>?_
    have hk:Below w.heap.size w w':=by
     rcases hw with rfl | ⟨t,rfl⟩
     ·exact Below.refl _ _
     ·exact Lib.bytesWorld_below _ _ _
    have hv64:zc3 v:=zrf hp
    exact ⟨_,S,_,[],⟨rfl,rfl⟩,he,⟨[.int .i64 v,.nilIface],rfl,zai.2 ⟨rfl,hv64⟩,⟨rfl,rfl⟩,trivial⟩,zir hk hs,ze3 _ _ _ _⟩
   | range =>
    rw [hp] at h
    obtain rfl:=Option.some.inj h
    obtain ⟨ev,e1,e2⟩:=hE _ (.inr gr)
    refine (Any.strconv_ParseInt_10_at64_range zqp s.ba hsz hp ev w e1 e2).mono λe w' ⟨N,he,_,_,hk⟩=>?_
    exact ⟨_,S,_,[],⟨rfl,rfl⟩,he,⟨[.int .i64 _,.iface _ _],rfl,zai.2 ⟨rfl,zzY _⟩,⟨rfl,_,_,rfl⟩,trivial⟩,zir hk hs,ze3 _ _ _ _⟩
   | _ =>
    rw [hp] at h
    obtain rfl:=Option.some.inj h
    obtain ⟨ev,e1,e2⟩:=hE _ (.inl gs)
    refine (Any.strconv_ParseInt_10_at64_syntax zqp s.ba hsz hp ev w e1 e2).mono λe w' ⟨N,he,_,_,hk⟩=>?_
    exact ⟨_,S,_,[],⟨rfl,rfl⟩,he,⟨[.int .i64 0,.iface _ _],rfl,zai.2 ⟨rfl,zk7 (by omega) (by omega)⟩,⟨rfl,_,_,rfl⟩,trivial⟩,zir hk hs,ze3 _ _ _ _⟩
def zAo:Shelf.Ren:=⟨λx=>bif Nat.beq x 129 then 213 else bif Nat.beq x 173 then 125 else bif Nat.beq x 246 then 162 else bif Nat.beq x 283 then 189 else bif Nat.beq x 284 then 190 else bif Nat.beq x 285 then 191 else bif Nat.beq x 286 then 192 else bif Nat.beq x 317 then 212 else bif Nat.beq x 318 then 214 else bif Nat.beq x 319 then 215 else bif Nat.beq x 320 then 216 else bif Nat.beq x 337 then 231 else bif Nat.beq x 338 then 232 else x,λx=>bif Nat.beq x 0 then 0 else bif Nat.beq x 2 then 2 else bif Nat.beq x 3 then 3 else bif Nat.beq x 4 then 4 else bif Nat.beq x 5 then 5 else bif Nat.beq x 9 then 9 else bif Nat.beq x 20 then 20 else bif Nat.beq x 37 then 32 else bif Nat.beq x 46 then 55 else bif Nat.beq x 51 then 275 else bif Nat.beq x 53 then 178 else bif Nat.beq x 171 then 238 else bif Nat.beq x 173 then 241 else bif Nat.beq x 212 then 274 else bif Nat.beq x 213 then 276 else bif Nat.beq x 232 then 296 else bif Nat.beq x 233 then 297 else x,λx=>bif Nat.beq x 17 then 4 else bif Nat.beq x 18 then 6 else bif Nat.beq x 19 then 7 else x⟩
set_option maxRecDepth 100000 in
theorem zzy:LaysM.n173 Tryz.prog zAo:={
 mixed:=by kernel_rfl
 f129:=Tryz.func213.trans (by kernel_rfl)
 f173:=Tryz.func125.trans (by kernel_rfl)
 f246:=Tryz.func162.trans (by kernel_rfl)
 f283:=Tryz.func189.trans (by kernel_rfl)
 f284:=Tryz.func190.trans (by kernel_rfl)
 f285:=Tryz.func191.trans (by kernel_rfl)
 f286:=Tryz.func192.trans (by kernel_rfl)
 f317:=Tryz.func212.trans (by kernel_rfl)
 f318:=Tryz.func214.trans (by kernel_rfl)
 f319:=Tryz.func215.trans (by kernel_rfl)
 f320:=Tryz.func216.trans (by kernel_rfl)
 f337:=Tryz.func231.trans (by kernel_rfl)
 f338:=Tryz.func232.trans (by kernel_rfl)
 t0:=Tryz.underlying0
 a0:=Tryz.isAgg0
 z0:=Tryz.sizeOf0
 v0:=Tryz.zeroValue0
 t2:=Tryz.underlying2
 a2:=Tryz.isAgg2
 z2:=Tryz.sizeOf2
 v2:=Tryz.zeroValue2
 t3:=Tryz.underlying3
 a3:=Tryz.isAgg3
 z3:=Tryz.sizeOf3
 v3:=Tryz.zeroValue3
 t4:=Tryz.underlying4
 a4:=Tryz.isAgg4
 z4:=Tryz.sizeOf4
 v4:=Tryz.zeroValue4
 t5:=Tryz.underlying5
 a5:=Tryz.isAgg5
 z5:=Tryz.sizeOf5
 v5:=Tryz.zeroValue5
 t9:=Tryz.underlying9
 a9:=Tryz.isAgg9
 z9:=Tryz.sizeOf9
 v9:=Tryz.zeroValue9
 t20:=Tryz.underlying20
 a20:=Tryz.isAgg20
 z20:=Tryz.sizeOf20
 v20:=Tryz.zeroValue20
 t37:=Tryz.underlying32
 a37:=Tryz.isAgg32
 z37:=Tryz.sizeOf32
 v37:=Tryz.zeroValue32
 t46:=Tryz.underlying55
 a46:=Tryz.isAgg55
 z46:=Tryz.sizeOf55
 v46:=Tryz.zeroValue55
 t51:=Tryz.underlying275
 a51:=Tryz.isAgg275
 z51:=Tryz.sizeOf275
 v51:=Tryz.zeroValue275
 t53:=Tryz.underlying178
 a53:=Tryz.isAgg178
 z53:=Tryz.sizeOf178
 v53:=Tryz.zeroValue178
 t171:=Tryz.underlying238
 a171:=Tryz.isAgg238
 z171:=Tryz.sizeOf238
 v171:=Tryz.zeroValue238
 t173:=Tryz.underlying241
 a173:=Tryz.isAgg241
 z173:=Tryz.sizeOf241
 v173:=Tryz.zeroValue241
 t212:=Tryz.underlying274
 a212:=Tryz.isAgg274
 z212:=Tryz.sizeOf274
 v212:=Tryz.zeroValue274
 t213:=Tryz.underlying276
 a213:=Tryz.isAgg276
 z213:=Tryz.sizeOf276
 t232:=Tryz.underlying296
 a232:=Tryz.isAgg296
 z232:=Tryz.sizeOf296
 v232:=Tryz.zeroValue296
 t233:=Tryz.underlying297
 a233:=Tryz.isAgg297
 z233:=Tryz.sizeOf297
 v233:=Tryz.zeroValue297
 g17:=by kernel_rfl
 g18:=by kernel_rfl
 g19:=by kernel_rfl
 i0:=by kernel_rfl
 i2:=by kernel_rfl
 i3:=by kernel_rfl
 i4:=by kernel_rfl
 i5:=by kernel_rfl
 i9:=by kernel_rfl
 i20:=by kernel_rfl
 i37:=by kernel_rfl
 i46:=by kernel_rfl
 i51:=by kernel_rfl
 i53:=by kernel_rfl
 i171:=by kernel_rfl
 i173:=by kernel_rfl
 i212:=by kernel_rfl
 i232:=by kernel_rfl
 i233:=by kernel_rfl
 m17:=by kernel_rfl
 m18:=by kernel_rfl
 m19:=by kernel_rfl }
def zsV:Shelf.Ren:=⟨λx=>bif Nat.beq x 138 then 193 else bif Nat.beq x 143 then 195 else bif Nat.beq x 154 then 163 else bif Nat.beq x 155 then 127 else bif Nat.beq x 165 then 194 else bif Nat.beq x 166 then 196 else bif Nat.beq x 169 then 198 else bif Nat.beq x 195 then 217 else bif Nat.beq x 197 then 197 else bif Nat.beq x 217 then 235 else bif Nat.beq x 218 then 218 else bif Nat.beq x 219 then 221 else bif Nat.beq x 224 then 237 else bif Nat.beq x 225 then 236 else bif Nat.beq x 240 then 219 else bif Nat.beq x 241 then 220 else bif Nat.beq x 260 then 222 else bif Nat.beq x 266 then 242 else bif Nat.beq x 267 then 238 else bif Nat.beq x 276 then 233 else bif Nat.beq x 277 then 234 else bif Nat.beq x 314 then 243 else x,λx=>bif Nat.beq x 0 then 0 else bif Nat.beq x 3 then 3 else bif Nat.beq x 4 then 4 else bif Nat.beq x 5 then 5 else bif Nat.beq x 9 then 9 else bif Nat.beq x 20 then 20 else bif Nat.beq x 21 then 21 else bif Nat.beq x 37 then 32 else bif Nat.beq x 46 then 55 else bif Nat.beq x 51 then 275 else bif Nat.beq x 70 then 244 else bif Nat.beq x 72 then 246 else bif Nat.beq x 75 then 120 else bif Nat.beq x 76 then 248 else bif Nat.beq x 80 then 252 else bif Nat.beq x 105 then 250 else bif Nat.beq x 119 then 198 else bif Nat.beq x 127 then 261 else bif Nat.beq x 138 then 200 else bif Nat.beq x 139 then 201 else bif Nat.beq x 146 then 298 else bif Nat.beq x 164 then 292 else x,λx=>bif Nat.beq x 1 then 5 else bif Nat.beq x 3 then 0 else bif Nat.beq x 4 then 1 else x⟩
set_option maxRecDepth 100000 in
theorem zzt:Lays.n155 Tryz.prog zsV:={
 mixed:=by kernel_rfl
 f138:=Tryz.func193.trans (by kernel_rfl)
 f143:=Tryz.func195.trans (by kernel_rfl)
 f154:=Tryz.func163.trans (by kernel_rfl)
 f155:=Tryz.func127.trans (by kernel_rfl)
 f165:=Tryz.func194.trans (by kernel_rfl)
 f166:=Tryz.func196.trans (by kernel_rfl)
 f169:=Tryz.func198.trans (by kernel_rfl)
 f195:=Tryz.func217.trans (by kernel_rfl)
 f197:=Tryz.func197.trans (by kernel_rfl)
 f217:=Tryz.func235.trans (by kernel_rfl)
 f218:=Tryz.func218.trans (by kernel_rfl)
 f219:=Tryz.func221.trans (by kernel_rfl)
 f224:=Tryz.func237.trans (by kernel_rfl)
 f225:=Tryz.func236.trans (by kernel_rfl)
 f240:=Tryz.func219.trans (by kernel_rfl)
 f241:=Tryz.func220.trans (by kernel_rfl)
 f260:=Tryz.func222.trans (by kernel_rfl)
 f266:=Tryz.func242.trans (by kernel_rfl)
 f267:=Tryz.func238.trans (by kernel_rfl)
 f276:=Tryz.func233.trans (by kernel_rfl)
 f277:=Tryz.func234.trans (by kernel_rfl)
 f314:=Tryz.func243.trans (by kernel_rfl)
 t0:=Tryz.underlying0
 a0:=Tryz.isAgg0
 z0:=Tryz.sizeOf0
 v0:=Tryz.zeroValue0
 t3:=Tryz.underlying3
 a3:=Tryz.isAgg3
 z3:=Tryz.sizeOf3
 v3:=Tryz.zeroValue3
 t4:=Tryz.underlying4
 a4:=Tryz.isAgg4
 z4:=Tryz.sizeOf4
 v4:=Tryz.zeroValue4
 t5:=Tryz.underlying5
 a5:=Tryz.isAgg5
 z5:=Tryz.sizeOf5
 v5:=Tryz.zeroValue5
 t9:=Tryz.underlying9
 a9:=Tryz.isAgg9
 z9:=Tryz.sizeOf9
 v9:=Tryz.zeroValue9
 t20:=Tryz.underlying20
 a20:=Tryz.isAgg20
 z20:=Tryz.sizeOf20
 v20:=Tryz.zeroValue20
 t21:=Tryz.underlying21
 a21:=Tryz.isAgg21
 z21:=Tryz.sizeOf21
 v21:=Tryz.zeroValue21
 t37:=Tryz.underlying32
 a37:=Tryz.isAgg32
 z37:=Tryz.sizeOf32
 v37:=Tryz.zeroValue32
 t46:=Tryz.underlying55
 a46:=Tryz.isAgg55
 z46:=Tryz.sizeOf55
 v46:=Tryz.zeroValue55
 t51:=Tryz.underlying275
 a51:=Tryz.isAgg275
 z51:=Tryz.sizeOf275
 v51:=Tryz.zeroValue275
 t70:=Tryz.underlying244
 a70:=Tryz.isAgg244
 z70:=Tryz.sizeOf244
 v70:=Tryz.zeroValue244
 t72:=Tryz.underlying246
 a72:=Tryz.isAgg246
 z72:=Tryz.sizeOf246
 v72:=Tryz.zeroValue246
 t75:=Tryz.underlying120
 a75:=Tryz.isAgg120
 z75:=Tryz.sizeOf120
 v75:=Tryz.zeroValue120
 t76:=Tryz.underlying248
 a76:=Tryz.isAgg248
 z76:=Tryz.sizeOf248
 v76:=Tryz.zeroValue248
 t105:=Tryz.underlying250
 a105:=Tryz.isAgg250
 z105:=Tryz.sizeOf250
 v105:=Tryz.zeroValue250
 t119:=Tryz.underlying198
 a119:=Tryz.isAgg198
 z119:=Tryz.sizeOf198
 t127:=Tryz.underlying261
 a127:=Tryz.isAgg261
 z127:=Tryz.sizeOf261
 v127:=Tryz.zeroValue261
 t138:=Tryz.underlying200
 a138:=Tryz.isAgg200
 z138:=Tryz.sizeOf200
 v138:=Tryz.zeroValue200
 t139:=Tryz.underlying201
 a139:=Tryz.isAgg201
 z139:=Tryz.sizeOf201
 v139:=Tryz.zeroValue201
 t146:=Tryz.underlying298
 a146:=Tryz.isAgg298
 z146:=Tryz.sizeOf298
 v146:=Tryz.zeroValue298
 t164:=Tryz.underlying292
 a164:=Tryz.isAgg292
 z164:=Tryz.sizeOf292
 v164:=Tryz.zeroValue292
 g1:=by kernel_rfl
 g3:=by kernel_rfl
 g4:=by kernel_rfl }
set_option maxRecDepth 100000 in
theorem repX:Builder.Extra Tryz.prog zsV:={
 sizeBuilder:=by kernel_rfl
 liesBuilder:=by kernel_rfl
 t5:=Tryz.underlying5
 a5:=Tryz.isAgg5
 z5:=Tryz.sizeOf5
 v5:=Tryz.zeroValue5
 infoByte:=by kernel_rfl
 cellsByte:=by kernel_rfl
 sizeByte:=by kernel_rfl
 neB5:=by decide }
theorem zlz:∀ {a_i:Int} {zdQ:Int} {r:Str},zdJ a_i zdQ=some r->Ctr Tryz.prog 125 [isv (a_i),isv (zdQ)] [] (λR H=>R=ziK [isv (r)]/\H=[]):=by
 intro n b r h
 unfold zdJ at h
 cases hc:(decide (b=10) && Nat.ble (Lib.itoa n).length 100) with
 | false=>rw [hc] at h;cases h
 | true =>
  rw [hc,zCt] at h
  obtain rfl:=Option.some.inj h
  rw [zBa] at hc
  have hb:=zOT hc.1
  have hln:=Nat.le_of_ble_eq_true hc.2
  subst hb
  refine ⟨⟨_,Tryz.func125,rfl,by decide +kernel⟩,λS w vs hT hs hv ho=>?_⟩
  match vs,hv with
  | [v1,v2],⟨hv1,hv2,_⟩ =>
   obtain ⟨rfl,hn⟩:=zai.1 hv1
   obtain ⟨rfl,_⟩:=zai.1 hv2
   have htab : Lib.TabIs Tryz.prog w "internal/strconv.uint64pow10" .u64 Lib.pow10Tab := by
    have:=hT.glob.pow (by kernel_rfl)
    unfold Lib.TabIs
    rw [this]
    unfold zqR Lib.pow10Tab
    rw [List.map_map]
    rfl
   unfold zc3 at hn
   refine (Any.strconv_FormatInt_10 zzy n (by omega) (by omega) w htab).mono λe w' ⟨he,k,os,hw⟩=>?_
   subst hw
   have hml:zhl=4611686018427387904:=rfl
   exact ⟨_,S,_,[],⟨rfl,rfl⟩,he,zds.2 ⟨rfl,by show (Lib.itoa n).length <= _;omega⟩,zir (Lib.below_grow _ _ (zNl _) _ _) hs,ze3 _ _ _ _⟩
theorem zkG:∀ {a_s:Str} {zrR:Str} {zrK:Str} {r:Str},strings_ReplaceAll a_s zrR zrK=some r->Ctr Tryz.prog 127 [isv (a_s),isv (zrR),isv (zrK)] [] (λR H=>R=ziK [isv (r)]/\H=[]):=by
 intro s o n r h
 unfold strings_ReplaceAll at h
 cases hc:(Nat.ble s.b.length 1000000 && Nat.ble 1 o.b.length && Nat.ble (s.b.length + Lib.count s.b o.b * n.b.length) 140737488355328 && Nat.ble (Lib.replaceAll s.b o.b n.b).length 4294967296) with
 | false=>rw [hc] at h;cases h
 | true =>
  rw [hc,zCt] at h
  obtain rfl:=Option.some.inj h
  rw [zBa,zBa,zBa] at hc
  have h1:=Nat.le_of_ble_eq_true hc.1.1.1
  have h2:=Nat.le_of_ble_eq_true hc.1.1.2
  have h3:=Nat.le_of_ble_eq_true hc.1.2
  have h4:=Nat.le_of_ble_eq_true hc.2
  refine ⟨⟨_,Tryz.func127,rfl,by decide +kernel⟩,λS w vs hT hs hv ho=>?_⟩
  match vs,hv with
  | [v1,v2,v3],⟨hv1,hv2,hv3,_⟩ =>
   obtain ⟨rfl,_⟩:=zds.1 hv1
   obtain ⟨rfl,_⟩:=zds.1 hv2
   obtain ⟨rfl,_⟩:=zds.1 hv3
   obtain ⟨m,hm⟩:=hT.glob.most (zsV.g 1) (by kernel_rfl)
   have e1:s.ba.size=s.b.length:=Str.ba_size s
   have e2:o.ba.size=o.b.length:=Str.ba_size o
   have e3:n.ba.size=n.b.length:=Str.ba_size n
   refine (Any.strings_ReplaceAll zzt repX s.ba o.ba n.ba m w (by omega) hm (by omega) (by rw [e1,e3];exact h3)).mono λe w' ⟨he,hw⟩=>?_
   have hml:zhl=4611686018427387904:=rfl
   exact ⟨_,S,_,[],⟨rfl,rfl⟩,he,zds.2 ⟨rfl,by show (Lib.replaceAll s.b o.b n.b).length <= _;omega⟩,zir hw hs,ze3 _ _ _ _⟩
end Go.Proofs.Q
namespace Go.Proofs.Q
open Go.Sy
def zAA:Shelf.Ren:=⟨λx=>bif Nat.beq x 196 then 161 else bif Nat.beq x 259 then 188 else x,λx=>bif Nat.beq x 0 then 0 else bif Nat.beq x 3 then 3 else bif Nat.beq x 4 then 4 else bif Nat.beq x 5 then 5 else bif Nat.beq x 9 then 9 else bif Nat.beq x 12 then 12 else bif Nat.beq x 46 then 55 else bif Nat.beq x 53 then 178 else bif Nat.beq x 119 then 198 else bif Nat.beq x 138 then 200 else bif Nat.beq x 139 then 201 else x,λx=>bif Nat.beq x 3 then 0 else bif Nat.beq x 4 then 1 else x⟩
set_option maxRecDepth 100000 in
theorem zle:Lays.n196 Tryz.prog zAA:={
 mixed:=by kernel_rfl
 f196:=Tryz.func161.trans (by kernel_rfl)
 f259:=Tryz.func188.trans (by kernel_rfl)
 t0:=Tryz.underlying0
 a0:=Tryz.isAgg0
 z0:=Tryz.sizeOf0
 v0:=Tryz.zeroValue0
 t3:=Tryz.underlying3
 a3:=Tryz.isAgg3
 z3:=Tryz.sizeOf3
 v3:=Tryz.zeroValue3
 t4:=Tryz.underlying4
 a4:=Tryz.isAgg4
 z4:=Tryz.sizeOf4
 v4:=Tryz.zeroValue4
 t5:=Tryz.underlying5
 a5:=Tryz.isAgg5
 z5:=Tryz.sizeOf5
 v5:=Tryz.zeroValue5
 t9:=Tryz.underlying9
 a9:=Tryz.isAgg9
 z9:=Tryz.sizeOf9
 v9:=Tryz.zeroValue9
 t12:=Tryz.underlying12
 a12:=Tryz.isAgg12
 z12:=Tryz.sizeOf12
 v12:=Tryz.zeroValue12
 t46:=Tryz.underlying55
 a46:=Tryz.isAgg55
 z46:=Tryz.sizeOf55
 v46:=Tryz.zeroValue55
 t53:=Tryz.underlying178
 a53:=Tryz.isAgg178
 z53:=Tryz.sizeOf178
 v53:=Tryz.zeroValue178
 t119:=Tryz.underlying198
 a119:=Tryz.isAgg198
 z119:=Tryz.sizeOf198
 t138:=Tryz.underlying200
 a138:=Tryz.isAgg200
 z138:=Tryz.sizeOf200
 v138:=Tryz.zeroValue200
 t139:=Tryz.underlying201
 a139:=Tryz.isAgg201
 z139:=Tryz.sizeOf201
 v139:=Tryz.zeroValue201
 g3:=by kernel_rfl
 g4:=by kernel_rfl }
theorem zlQ:∀ {a_s:Str} {r:Bool},utf8_ValidString a_s=some r->Ctr Tryz.prog 161 [isv (a_s)] [] (λR H=>R=ziK [isv (r)]/\H=[]):=by
 intro s r h
 obtain rfl:=Option.some.inj h
 refine ⟨⟨_,Tryz.func161,rfl,by decide +kernel⟩,λS w vs hT hs hv ho=>?_⟩
 match vs,hv with
 | [v],⟨hv,_⟩ =>
  obtain ⟨rfl,hl⟩:=zds.1 hv
  have hb:=Any.utf8_ValidString zle s.ba w (by rw [Str.ba_size];unfold zhl at hl;omega) ((hT.tabs w hs).1 _ _ zle.g3 zle.g4)
  refine hb.mono λe w' ⟨he,hk⟩=>⟨.bool (Lib.validD s.ba.data.toList),S,_,[],⟨rfl,rfl⟩,he,?_,⟨⟨hk.os,hk.tape,hk.output,hk.size,λk hk' _=>hk.block k hk'⟩,Go.Sy.Grow.refl _ _ _,λb cs hb=>?_⟩,ze3 _ _ _ _⟩
  ·refine zbP.2 ?_
   show Value.bool (Lib.validD s.b.toArray.toList)=_
   rfl
  ·obtain ⟨c,T,fr,h1,h2⟩:=hs b cs hb
   exact ⟨c,T,fr,by rw [hk.block b (Array.getElem?_eq_some_iff.1 h1).1];exact h1,h2⟩
abbrev zda:Type:=(List zU) × Int × (Str × Int × (zaa Str) × (zaa Int) × Vh) × Int × Int
abbrev zbO (x:zu) (t0:Tok) (t1:Tok) (t2:Vt):zda:=(x.l,x.at_,(x.m.name,x.m.tagging,⟨t0,x.m.names⟩,⟨t1,x.m.types⟩,⟨t2,x.m.nodes.length⟩),x.e,x.p)
abbrev zcE:Type:=Int × Str × zcQ × zbv × (zaa zag) × (zaa zaB) × Int × Bool × Int
abbrev zfv (x:zh) (t0:Tok) (t1:Tok):zcE:=(x.kind,x.name,x.mark,x.con,⟨t0,x.items⟩,⟨t1,x.fields⟩,x.root,x.more,x.of)
@[reducible] def zx3:Fld zda (List zU):=pf0
@[reducible] def zx2:Fld zda Int:=pf1
@[reducible] def zv6:Fld zda Int:=pf3
@[reducible] def zxk:Fld zda Int:=pl4
@[reducible] def zsE:Fld zda (Str × Int × (zaa Str) × (zaa Int) × Vh):=pf2
@[reducible] def zw8:Fld (Str × Int × (zaa Str) × (zaa Int) × Vh) Str:=pf0
@[reducible] def zwR:Fld (Str × Int × (zaa Str) × (zaa Int) × Vh) Int:=pf1
@[reducible] def zxS:Fld (Str × Int × (zaa Str) × (zaa Int) × Vh) (zaa Str):=pf2
@[reducible] def zxU:Fld (Str × Int × (zaa Str) × (zaa Int) × Vh) Vh:=pl4
@[reducible] def zvI:Fld zcE zcQ:=pf2
@[reducible] def zuP:Fld zcE Int:=pf0
@[reducible] def zu7:Fld zcE zbv:=pf3
@[reducible] def zvH:Fld zcE (zaa zag):=pf4
@[reducible] def zu4:Fld zcE Bool:=pf7
@[reducible] def zuQ:Fld zcE Int:=pf6
@[reducible] def zu9:Fld zcE (zaa zaB):=pf5
@[reducible] def zvT:Fld zcE Int:=pl8
@[reducible] def zuG:Fld zcE Str:=pf1
@[reducible] def zwX:Fld (Str × Int × (zaa Str) × (zaa Int) × Vh) (zaa Int):=pf3
@[reducible] def zrk:Fld ((List zU) × Int × (Str × Int × (zaa Str) × (zaa Int) × (List zh)) × Int × Int) (Str × Int × (zaa Str) × (zaa Int) × (List zh)):=pf2
instance:zet Tryz.prog 50 zaz (zaz.mk (Str.mk []) (0:Int) ([]:(List Str)) ([]:(List Int)) ([]:(List zh))):=⟨zbm (cs:=[.string ⟨#[]⟩,.int .i64 0,.slice none 0 0,.slice none 0 0,.slice none 0 0]) rfl (by kernel_rfl) (zn zeF (zn zaX (zn zaL (zn zaL zaL))))⟩
instance:zaH Tryz.prog 67 2 zU Int zU.f2:=⟨by kernel_rfl⟩
instance:zet Tryz.prog 67 zU (zU.mk (0:Int) (Str.mk []) (0:Int)):=⟨zbm (cs:=[.int .i64 0,.string ⟨#[]⟩,.int .i64 0]) rfl (by kernel_rfl) (zn zaX (zn zeF zaX))⟩
instance:zaH Tryz.prog 67 0 zU Int zU.f0:=⟨by kernel_rfl⟩
instance:zaH Tryz.prog 67 1 zU Str zU.f1:=⟨by kernel_rfl⟩
instance:zaH Tryz.prog 91 0 zda (List zU) zx3:=⟨by kernel_rfl⟩
instance:zaH Tryz.prog 91 0 zu (List zU) zu.f0:=⟨by kernel_rfl⟩
instance:zkn Tryz.prog 91 zda (([]:(List zU)),(0:Int),((Str.mk []),(0:Int),(zaa.mk none ([]:(List Str))),(zaa.mk none ([]:(List Int))),(Vh.mk none 0)),(0:Int),(0:Int)):=⟨zbm (cs:=[.slice none 0 0,.int .i64 0,.string ⟨#[]⟩,.int .i64 0,.slice none 0 0,.slice none 0 0,.slice none 0 0,.int .i64 0,.int .i64 0]) rfl (by kernel_rfl) (zn zaL (zn zaX (zn (zn zeF (zn zaX (zn zn5 (zn zn5 zrQ)))) (zn zaX zaX))))⟩
instance:zaH Tryz.prog 91 1 zu Int zu.f1:=⟨by kernel_rfl⟩
instance:zaH Tryz.prog 91 1 zda Int zx2:=⟨by kernel_rfl⟩
instance:zaH Tryz.prog 91 3 zu Int zu.f3:=⟨by kernel_rfl⟩
instance:zaH Tryz.prog 91 3 zda Int zv6:=⟨by kernel_rfl⟩
instance:zaH Tryz.prog 91 4 zu Int zu.f4:=⟨by kernel_rfl⟩
instance:zaH Tryz.prog 91 4 zda Int zxk:=⟨by kernel_rfl⟩
instance:zaH Tryz.prog 91 2 zu zaz zu.f2:=⟨by kernel_rfl⟩
instance:zaH Tryz.prog 91 2 zda (Str × Int × (zaa Str) × (zaa Int) × Vh) zsE:=⟨by kernel_rfl⟩
instance:zaH Tryz.prog 50 0 zaz Str zaz.f0:=⟨by kernel_rfl⟩
instance:zaH Tryz.prog 50 0 (Str × Int × (zaa Str) × (zaa Int) × Vh) Str zw8:=⟨by kernel_rfl⟩
instance:zaH Tryz.prog 50 1 zaz Int zaz.f1:=⟨by kernel_rfl⟩
instance:zaH Tryz.prog 50 1 (Str × Int × (zaa Str) × (zaa Int) × Vh) Int zwR:=⟨by kernel_rfl⟩
instance:zaH Tryz.prog 50 2 zaz (List Str) zaz.f2:=⟨by kernel_rfl⟩
instance:zaH Tryz.prog 50 2 (Str × Int × (zaa Str) × (zaa Int) × Vh) (zaa Str) zxS:=⟨by kernel_rfl⟩
instance:zaH Tryz.prog 50 4 zaz (List zh) zaz.f4:=⟨by kernel_rfl⟩
instance:zaH Tryz.prog 50 4 (Str × Int × (zaa Str) × (zaa Int) × Vh) Vh zxU:=⟨by kernel_rfl⟩
instance:zet Tryz.prog 161 zh (zh.mk (0:Int) (Str.mk []) (zcQ.mk false (0:Int) (0:Int)) (zbv.mk false false false false (0:Int) (0:Int)) ([]:(List zag)) ([]:(List zaB)) (0:Int) false (0:Int)):=⟨zbm (cs:=[.int .i64 0,.string ⟨#[]⟩,.bool false,.int .i64 0,.int .i64 0,.bool false,.bool false,.bool false,.bool false,.int .i64 0,.int .i64 0,.slice none 0 0,.slice none 0 0,.int .i64 0,.bool false,.int .i64 0]) rfl (by kernel_rfl) (zn zaX (zn zeF (zn (zn zcd (zn zaX zaX)) (zn (zn zcd (zn zcd (zn zcd (zn zcd (zn zaX zaX))))) (zn zaL (zn zaL (zn zaX (zn zcd zaX))))))))⟩
instance:zkn Tryz.prog 161 zcE ((0:Int),(Str.mk []),(zcQ.mk false (0:Int) (0:Int)),(zbv.mk false false false false (0:Int) (0:Int)),(zaa.mk none ([]:(List zag))),(zaa.mk none ([]:(List zaB))),(0:Int),false,(0:Int)):=⟨zbm (cs:=[.int .i64 0,.string ⟨#[]⟩,.bool false,.int .i64 0,.int .i64 0,.bool false,.bool false,.bool false,.bool false,.int .i64 0,.int .i64 0,.slice none 0 0,.slice none 0 0,.int .i64 0,.bool false,.int .i64 0]) rfl (by kernel_rfl) (zn zaX (zn zeF (zn (zn zcd (zn zaX zaX)) (zn (zn zcd (zn zcd (zn zcd (zn zcd (zn zaX zaX))))) (zn zn5 (zn zn5 (zn zaX (zn zcd zaX))))))))⟩
instance:zaH Tryz.prog 159 1 zcQ Int zcQ.f1:=⟨by kernel_rfl⟩
instance:zaH Tryz.prog 159 0 zcQ Bool zcQ.f0:=⟨by kernel_rfl⟩
instance:zet Tryz.prog 159 zcQ (zcQ.mk false (0:Int) (0:Int)):=⟨zbm (cs:=[.bool false,.int .i64 0,.int .i64 0]) rfl (by kernel_rfl) (zn zcd (zn zaX zaX))⟩
instance:zaH Tryz.prog 161 2 zh zcQ zh.f2:=⟨by kernel_rfl⟩
instance:zaH Tryz.prog 161 2 zcE zcQ zvI:=⟨by kernel_rfl⟩
instance:zaH Tryz.prog 159 2 zcQ Int zcQ.f2:=⟨by kernel_rfl⟩
instance:zaH Tryz.prog 161 0 zh Int zh.f0:=⟨by kernel_rfl⟩
instance:zaH Tryz.prog 161 0 zcE Int zuP:=⟨by kernel_rfl⟩
instance:zet Tryz.prog 112 zbv (zbv.mk false false false false (0:Int) (0:Int)):=⟨zbm (cs:=[.bool false,.bool false,.bool false,.bool false,.int .i64 0,.int .i64 0]) rfl (by kernel_rfl) (zn zcd (zn zcd (zn zcd (zn zcd (zn zaX zaX)))))⟩
instance:zaH Tryz.prog 112 0 zbv Bool zbv.f0:=⟨by kernel_rfl⟩
instance:zaH Tryz.prog 112 1 zbv Bool zbv.f1:=⟨by kernel_rfl⟩
instance:zaH Tryz.prog 112 4 zbv Int zbv.f4:=⟨by kernel_rfl⟩
instance:zaH Tryz.prog 112 2 zbv Bool zbv.f2:=⟨by kernel_rfl⟩
instance:zaH Tryz.prog 112 5 zbv Int zbv.f5:=⟨by kernel_rfl⟩
instance:zaH Tryz.prog 112 3 zbv Bool zbv.f3:=⟨by kernel_rfl⟩
instance:zaH Tryz.prog 161 3 zh zbv zh.f3:=⟨by kernel_rfl⟩
instance:zaH Tryz.prog 161 3 zcE zbv zu7:=⟨by kernel_rfl⟩
instance:zaH Tryz.prog 161 4 zh (List zag) zh.f4:=⟨by kernel_rfl⟩
instance:zaH Tryz.prog 161 4 zcE (zaa zag) zvH:=⟨by kernel_rfl⟩
instance:zaH Tryz.prog 161 7 zh Bool zh.f7:=⟨by kernel_rfl⟩
instance:zaH Tryz.prog 161 7 zcE Bool zu4:=⟨by kernel_rfl⟩
instance:zaH Tryz.prog 161 6 zh Int zh.f6:=⟨by kernel_rfl⟩
instance:zaH Tryz.prog 161 6 zcE Int zuQ:=⟨by kernel_rfl⟩
instance:zaH Tryz.prog 149 0 zag Str zag.f0:=⟨by kernel_rfl⟩
instance:zet Tryz.prog 149 zag (zag.mk (Str.mk []) (0:Int) false):=⟨zbm (cs:=[.string ⟨#[]⟩,.int .i64 0,.bool false]) rfl (by kernel_rfl) (zn zeF (zn zaX zcd))⟩
instance:zaH Tryz.prog 149 2 zag Bool zag.f2:=⟨by kernel_rfl⟩
instance:zaH Tryz.prog 149 1 zag Int zag.f1:=⟨by kernel_rfl⟩
instance:zaH Tryz.prog 161 5 zh (List zaB) zh.f5:=⟨by kernel_rfl⟩
instance:zaH Tryz.prog 161 5 zcE (zaa zaB) zu9:=⟨by kernel_rfl⟩
instance:zaH Tryz.prog 129 5 zaB Int zaB.f5:=⟨by kernel_rfl⟩
instance:zaH Tryz.prog 129 0 zaB Str zaB.f0:=⟨by kernel_rfl⟩
instance:zet Tryz.prog 129 zaB (zaB.mk (Str.mk []) (0:Int) false false (Val.mk (0:Int) (0:Int) ([]:(List UInt8)) ([]:(List Val)) (0:Int) ([]:(List Raw))) (0:Int)):=⟨zbm (cs:=[.string ⟨#[]⟩,.int .i64 0,.bool false,.bool false,.int .i64 0,.int .i64 0,.slice none 0 0,.slice none 0 0,.int .i64 0,.slice none 0 0,.int .i64 0]) rfl (by kernel_rfl) (zn zeF (zn zaX (zn zcd (zn zcd (zn zte zaX)))))⟩
instance:zaH Tryz.prog 129 1 zaB Int zaB.f1:=⟨by kernel_rfl⟩
instance:zaH Tryz.prog 129 2 zaB Bool zaB.f2:=⟨by kernel_rfl⟩
instance:zet Tryz.prog 36 Val (Val.mk (0:Int) (0:Int) ([]:(List UInt8)) ([]:(List Val)) (0:Int) ([]:(List Raw))):=⟨zbm (cs:=[.int .i64 0,.int .i64 0,.slice none 0 0,.slice none 0 0,.int .i64 0,.slice none 0 0]) rfl (by kernel_rfl) zte⟩
instance:zaH Tryz.prog 36 1 Val Int Val.f1:=⟨by kernel_rfl⟩
instance:zaH Tryz.prog 36 0 Val Int Val.f0:=⟨by kernel_rfl⟩
instance:zaH Tryz.prog 36 2 Val (List UInt8) Val.f2:=⟨by kernel_rfl⟩
instance:zaH Tryz.prog 129 3 zaB Bool zaB.f3:=⟨by kernel_rfl⟩
instance:zaH Tryz.prog 129 4 zaB Val zaB.f4:=⟨by kernel_rfl⟩
instance:zaH Tryz.prog 161 8 zh Int zh.f8:=⟨by kernel_rfl⟩
instance:zaH Tryz.prog 161 8 zcE Int zvT:=⟨by kernel_rfl⟩
instance:zaH Tryz.prog 161 1 zh Str zh.f1:=⟨by kernel_rfl⟩
instance:zaH Tryz.prog 161 1 zcE Str zuG:=⟨by kernel_rfl⟩
instance:zaH Tryz.prog 50 3 zaz (List Int) zaz.f3:=⟨by kernel_rfl⟩
instance:zaH Tryz.prog 50 3 (Str × Int × (zaa Str) × (zaa Int) × Vh) (zaa Int) zwX:=⟨by kernel_rfl⟩
instance:zaH Tryz.prog 91 2 ((List zU) × Int × (Str × Int × (zaa Str) × (zaa Int) × (List zh)) × Int × Int) (Str × Int × (zaa Str) × (zaa Int) × (List zh)) zrk:=⟨by kernel_rfl⟩
instance:UnC Tryz.prog 2 (.int .i64):=⟨Tryz.underlying2⟩
instance:UnC Tryz.prog 5 (.int .u8):=⟨Tryz.underlying5⟩
instance:UnC Tryz.prog 9 .string:=⟨Tryz.underlying9⟩
instance:UnC Tryz.prog 32 (.slice 5):=⟨Tryz.underlying32⟩
instance:UnC Tryz.prog 178 (.int .u64):=⟨Tryz.underlying178⟩
instance utf8_ValidString_g a_s:zd Tryz.prog 161 (utf8_ValidString a_s) (.mk [isv a_s] [] λr=>.mk [isv r] []):=⟨λr h=>by
 exact zlQ h⟩
instance {x:zh} {t0:Tok} {t1:Tok}:CvC ((x.kind,x.name,x.mark,x.con,(zaa.mk t0 x.items),(zaa.mk t1 x.fields),x.root,x.more,x.of):zcE) zh x:=⟨(Cv.isv rfl λS=>(λcs h=>zh.cv (x:=x) cs (((Cv.pair Cv.id (Cv.pair Cv.id (Cv.pair Cv.id (Cv.pair Cv.id (Cv.pair Cv.tl (Cv.pair Cv.tl (Cv.pair Cv.id (Cv.pair Cv.id Cv.id)))))))):Cv S ((x.kind,x.name,x.mark,x.con,(zaa.mk t0 x.items),(zaa.mk t1 x.fields),x.root,x.more,x.of):zcE) (zh.to x)) cs h)))⟩
instance {x:zu} {tt:Vt} {t0:Tok} {t1:Tok}:CvF tt x.m.nodes ((x.l,x.at_,(x.m.name,x.m.tagging,(zaa.mk t0 x.m.names),(zaa.mk t1 x.m.types),Vh.mk tt x.m.nodes.length),x.e,x.p):zda) ((Fld.id (zda)).comp zsE) _ _ ((x.l,x.at_,(x.m.name,x.m.tagging,(zaa.mk t0 x.m.names),(zaa.mk t1 x.m.types),x.m.nodes),x.e,x.p):((List zU) × Int × (Str × Int × (zaa Str) × (zaa Int) × (List zh)) × Int × Int)) ((Fld.id (((List zU) × Int × (Str × Int × (zaa Str) × (zaa Int) × (List zh)) × Int × Int))).comp zrk):=⟨(λS hv=>(Cv.pair Cv.id (Cv.pair Cv.id (Cv.pair (Cv.pair Cv.id (Cv.pair Cv.id (Cv.pair Cv.id (Cv.pair Cv.id (Cv.vh hv (by first | rfl | simp)))))) (Cv.pair Cv.id Cv.id))))),rfl⟩
instance {x:zaz} {t0:Tok} {t1:Tok}:CvC ((x.name,x.tagging,(zaa.mk t0 x.names),(zaa.mk t1 x.types),x.nodes):(Str × Int × (zaa Str) × (zaa Int) × (List zh))) zaz x:=⟨(Cv.isv rfl λS=>(λcs h=>zaz.cv (x:=x) cs (((Cv.pair Cv.id (Cv.pair Cv.id (Cv.pair Cv.tl (Cv.pair Cv.tl Cv.id)))):Cv S ((x.name,x.tagging,(zaa.mk t0 x.names),(zaa.mk t1 x.types),x.nodes):(Str × Int × (zaa Str) × (zaa Int) × (List zh))) (zaz.to x)) cs h)))⟩
theorem zvS:SlB Tryz.prog 23 1 false=true:=by kernel_rfl
theorem zmg:SlB Tryz.prog 165 1 false=true:=by kernel_rfl
theorem ty3:TyB Tryz.prog 3 1 false=true:=by kernel_rfl
theorem zmS:TyB Tryz.prog 23 1 false=true:=by kernel_rfl
theorem zqC:elB Tryz.prog 23 1=true:=by kernel_rfl
theorem ziN:zmi Tryz.prog 23 23 1=true:=by kernel_rfl
abbrev zfo:Type:=zaz × Vh × Int
abbrev zeV (x:GMk) (t0:Vt):zfo:=(x.m,⟨t0,x.l.length⟩,x.e)
@[reducible] def zp8:Fld zfo zaz:=pf0
@[reducible] def zpk:Fld (Str × (List Str) × (zaa Int) × (List zg)) Str:=pf0
@[reducible] def zod:Fld (Str × (List Str) × (zaa Int) × (List zg)) (List Str):=pf1
@[reducible] def zkA:Fld (Str × (List Str) × (zaa Int) × (List zg)) (zaa Int):=pf2
@[reducible] def zm3:Fld zfo Int:=pl2
@[reducible] def zpS:Fld zfo Vh:=pf1
@[reducible] def zrr:Fld (Str × (List Str) × (zaa Int) × (List zg)) (List zg):=pl3
instance:zet Tryz.prog 26 zZ (zZ.mk (Str.mk []) ([]:(List Str)) ([]:(List Int)) ([]:(List zg))):=⟨zbm (cs:=[.string ⟨#[]⟩,.slice none 0 0,.slice none 0 0,.slice none 0 0]) rfl (by kernel_rfl) (zn zeF (zn zaL (zn zaL zaL)))⟩
theorem ze26:zeT Tryz.prog 26 ((zZ.mk (Str.mk []) ([]:(List Str)) ([]:(List Int)) ([]:(List zg))):zZ):=zbm (cs:=[.string ⟨#[]⟩,.slice none 0 0,.slice none 0 0,.slice none 0 0]) rfl (by kernel_rfl) (zn zeF (zn zaL (zn zaL zaL)))
theorem bu26:zmP Tryz.prog 26=true:=by kernel_rfl
theorem zpg:TyB Tryz.prog 26 4 true=true:=by kernel_rfl
instance:zaH Tryz.prog 101 0 zfo zaz zp8:=⟨by kernel_rfl⟩
instance:zaH Tryz.prog 101 0 GMk zaz GMk.f0:=⟨by kernel_rfl⟩
theorem zyI:zfh Tryz.prog 101 0 0 5 true=true:=by kernel_rfl
theorem bu101:zmP Tryz.prog 101=true:=by kernel_rfl
instance:zkn Tryz.prog 101 zfo ((zaz.mk (Str.mk []) (0:Int) ([]:(List Str)) ([]:(List Int)) ([]:(List zh))),(Vh.mk none 0),(0:Int)):=⟨zbm (cs:=[.string ⟨#[]⟩,.int .i64 0,.slice none 0 0,.slice none 0 0,.slice none 0 0,.slice none 0 0,.int .i64 0]) rfl (by kernel_rfl) (zn (zn zeF (zn zaX (zn zaL (zn zaL zaL)))) (zn zrQ zaX))⟩
theorem zzM:zeT Tryz.prog 101 (((zaz.mk (Str.mk []) (0:Int) ([]:(List Str)) ([]:(List Int)) ([]:(List zh))),(Vh.mk none 0),(0:Int)):zfo):=zbm (cs:=[.string ⟨#[]⟩,.int .i64 0,.slice none 0 0,.slice none 0 0,.slice none 0 0,.slice none 0 0,.int .i64 0]) rfl (by kernel_rfl) (zn (zn zeF (zn zaX (zn zaL (zn zaL zaL)))) (zn zrQ zaX))
instance:zaH Tryz.prog 26 0 (Str × (List Str) × (zaa Int) × (List zg)) Str zpk:=⟨by kernel_rfl⟩
instance:zaH Tryz.prog 26 0 zZ Str zZ.f0:=⟨by kernel_rfl⟩
theorem zw3:zfh Tryz.prog 26 0 0 1 false=true:=by kernel_rfl
instance:zaH Tryz.prog 26 1 (Str × (List Str) × (zaa Int) × (List zg)) (List Str) zod:=⟨by kernel_rfl⟩
instance:zaH Tryz.prog 26 1 zZ (List Str) zZ.f1:=⟨by kernel_rfl⟩
theorem zxz:zfh Tryz.prog 26 1 1 1 false=true:=by kernel_rfl
instance:zkn Tryz.prog 26 (Str × (List Str) × (zaa Int) × (List zg)) ((Str.mk []),([]:(List Str)),(zaa.mk none ([]:(List Int))),([]:(List zg))):=⟨zbm (cs:=[.string ⟨#[]⟩,.slice none 0 0,.slice none 0 0,.slice none 0 0]) rfl (by kernel_rfl) (zn zeF (zn zaL (zn zn5 zaL)))⟩
theorem zqm:zeT Tryz.prog 26 (((Str.mk []),([]:(List Str)),(zaa.mk none ([]:(List Int))),([]:(List zg))):(Str × (List Str) × (zaa Int) × (List zg))):=zbm (cs:=[.string ⟨#[]⟩,.slice none 0 0,.slice none 0 0,.slice none 0 0]) rfl (by kernel_rfl) (zn zeF (zn zaL (zn zn5 zaL)))
instance:zaH Tryz.prog 26 2 zZ (List Int) zZ.f2:=⟨by kernel_rfl⟩
theorem zq6:zfh Tryz.prog 26 2 2 1 false=true:=by kernel_rfl
instance:zaH Tryz.prog 26 2 (Str × (List Str) × (zaa Int) × (List zg)) (zaa Int) zkA:=⟨by kernel_rfl⟩
instance:zaH Tryz.prog 101 2 GMk Int GMk.f2:=⟨by kernel_rfl⟩
theorem zt9:zfh Tryz.prog 101 2 6 1 false=true:=by kernel_rfl
instance:zaH Tryz.prog 101 2 zfo Int zm3:=⟨by kernel_rfl⟩
instance:zaH Tryz.prog 101 1 GMk (List zg) GMk.f1:=⟨by kernel_rfl⟩
theorem zyK:zfh Tryz.prog 101 1 5 1 false=true:=by kernel_rfl
instance:zaH Tryz.prog 101 1 zfo Vh zpS:=⟨by kernel_rfl⟩
theorem ty24:TyB Tryz.prog 24 1 false=true:=by kernel_rfl
instance:zaH Tryz.prog 116 6 zg Bool zg.f6:=⟨by kernel_rfl⟩
instance:zaH Tryz.prog 116 5 zg Int zg.f5:=⟨by kernel_rfl⟩
instance:zaH Tryz.prog 116 2 zg zbv zg.f2:=⟨by kernel_rfl⟩
instance:zaH Tryz.prog 116 0 zg Int zg.f0:=⟨by kernel_rfl⟩
instance:zet Tryz.prog 116 zg (zg.mk (0:Int) ([]:(List Tag)) (zbv.mk false false false false (0:Int) (0:Int)) ([]:(List zag)) ([]:(List zaB)) (0:Int) false (0:Int)):=⟨zbm (cs:=[.int .i64 0,.slice none 0 0,.bool false,.bool false,.bool false,.bool false,.int .i64 0,.int .i64 0,.slice none 0 0,.slice none 0 0,.int .i64 0,.bool false,.int .i64 0]) rfl (by kernel_rfl) (zn zaX (zn zaL (zn (zn zcd (zn zcd (zn zcd (zn zcd (zn zaX zaX))))) (zn zaL (zn zaL (zn zaX (zn zcd zaX)))))))⟩
instance:zet Tryz.prog 194 Tag (Tag.zero):=⟨zbm (cs:=[.int .i64 0,.int .i64 0]) rfl (by kernel_rfl) (zn zaX zaX)⟩
instance:zaH Tryz.prog 194 1 Tag Int Tag.f1:=⟨by kernel_rfl⟩
instance:zaH Tryz.prog 116 1 zg (List Tag) zg.f1:=⟨by kernel_rfl⟩
instance:zaH Tryz.prog 116 7 zg Int zg.f7:=⟨by kernel_rfl⟩
instance:zaH Tryz.prog 116 3 zg (List zag) zg.f3:=⟨by kernel_rfl⟩
theorem zep:SlB Tryz.prog 32 1 false=true:=by kernel_rfl
theorem ty5:TyB Tryz.prog 5 1 false=true:=by kernel_rfl
theorem zrG : Tryz.prog.globals.findIdx? (·.name == "unicode/utf8.first") = some 0 := by kernel_rfl
theorem ar198:zqA Tryz.prog 198 256 1 false=true:=by kernel_rfl
theorem zkq : Tryz.prog.globals.findIdx? (·.name == "unicode/utf8.acceptRanges") = some 1 := by kernel_rfl
theorem ar201:zqA Tryz.prog 201 16 2 true=true:=by kernel_rfl
theorem zzT:TyB Tryz.prog 200 2 true=true:=by kernel_rfl
instance:zet Tryz.prog 200 zg3 (zg3.zero):=⟨zbm (cs:=[.int .u8 0,.int .u8 0]) rfl (by kernel_rfl) (zn ztU ztU)⟩
theorem ze200:zeT Tryz.prog 200 (zg3.zero:zg3):=zbm (cs:=[.int .u8 0,.int .u8 0]) rfl (by kernel_rfl) (zn ztU ztU)
instance:zaH Tryz.prog 200 0 zg3 UInt8 zg3.f0:=⟨by kernel_rfl⟩
theorem zq8:zfh Tryz.prog 200 0 0 1 false=true:=by kernel_rfl
instance:zaH Tryz.prog 200 1 zg3 UInt8 zg3.f1:=⟨by kernel_rfl⟩
theorem zqN:zfh Tryz.prog 200 1 1 1 false=true:=by kernel_rfl
instance:zaH Tryz.prog 194 0 Tag Int Tag.f0:=⟨by kernel_rfl⟩
instance:zaH Tryz.prog 116 4 zg (List zaB) zg.f4:=⟨by kernel_rfl⟩
instance:EqC Tryz.prog 194 Tag:=⟨Tag.eqOk Tryz.underlying194 (by kernel_rfl) (by kernel_rfl) Tryz.underlying3⟩
instance:zaH Tryz.prog 26 3 zZ (List zg) zZ.f3:=⟨by kernel_rfl⟩
theorem zwy:zfh Tryz.prog 26 3 3 1 false=true:=by kernel_rfl
instance:zaH Tryz.prog 26 3 (Str × (List Str) × (zaa Int) × (List zg)) (List zg) zrr:=⟨by kernel_rfl⟩
theorem zlA:Tryz.prog.follows .mixedOrders=true:=by kernel_rfl
theorem ty9:TyB Tryz.prog 9 1 false=true:=by kernel_rfl
theorem sl22:SlB Tryz.prog 22 1 false=true:=by kernel_rfl
theorem ty50:TyB Tryz.prog 50 5 true=true:=by kernel_rfl
theorem ty37:TyB Tryz.prog 37 1 false=true:=by kernel_rfl
theorem zBi:zfh Tryz.prog 50 0 0 1 false=true:=by kernel_rfl
theorem zxx:zfh Tryz.prog 50 2 2 1 false=true:=by kernel_rfl
theorem ty22:TyB Tryz.prog 22 1 false=true:=by kernel_rfl
theorem ztL:zmi Tryz.prog 22 22 1=true:=by kernel_rfl
theorem zBg:zfh Tryz.prog 50 3 3 1 false=true:=by kernel_rfl
instance:UnC Tryz.prog 3 (.int .i64):=⟨Tryz.underlying3⟩
instance:UnC Tryz.prog 12 (.int .u64):=⟨Tryz.underlying12⟩
instance:zet Tryz.prog 3 Int (0:Int):=⟨zr7 (v:=.int .i64 0) rfl (by kernel_rfl) zaX⟩
instance:zaH Tryz.prog 36 5 Val (List Raw) Val.f5:=⟨by kernel_rfl⟩
instance:zaH Tryz.prog 79 1 Raw (List UInt8) Raw.f1:=⟨by kernel_rfl⟩
instance:zaH Tryz.prog 36 3 Val (List Val) Val.f3:=⟨by kernel_rfl⟩
instance:zaH Tryz.prog 36 4 Val Int Val.f4:=⟨by kernel_rfl⟩
instance:zaH Tryz.prog 79 0 Raw Int Raw.f0:=⟨by kernel_rfl⟩
instance:zet Tryz.prog 79 Raw (Raw.zero):=⟨zbm (cs:=[.int .i64 0,.slice none 0 0]) rfl (by kernel_rfl) (zn zaX zaL)⟩
instance:zaH Tryz.prog 135 0 zil zZ zil.f0:=⟨by kernel_rfl⟩
instance:zet Tryz.prog 135 zil (zil.mk (zZ.mk (Str.mk []) ([]:(List Str)) ([]:(List Int)) ([]:(List zg)))):=⟨zbm (cs:=[.string ⟨#[]⟩,.slice none 0 0,.slice none 0 0,.slice none 0 0]) rfl (by kernel_rfl) (zn zeF (zn zaL (zn zaL zaL)))⟩
instance:zaH Tryz.prog 137 0 zt zil zt.f0:=⟨by kernel_rfl⟩
instance:zet Tryz.prog 137 zt (zt.mk (zil.mk (zZ.mk (Str.mk []) ([]:(List Str)) ([]:(List Int)) ([]:(List zg)))) false):=⟨zbm (cs:=[.string ⟨#[]⟩,.slice none 0 0,.slice none 0 0,.slice none 0 0,.bool false]) rfl (by kernel_rfl) (zn (zn zeF (zn zaL (zn zaL zaL))) zcd)⟩
instance:zaH Tryz.prog 137 1 zt Bool zt.f1:=⟨by kernel_rfl⟩
instance:zaH Tryz.prog 269 0 zeE (List zg) zeE.f0:=⟨by kernel_rfl⟩
instance:zet Tryz.prog 269 zeE (zeE.mk ([]:(List zg))):=⟨zbm (cs:=[.slice none 0 0]) rfl (by kernel_rfl) zaL⟩
instance:zkn Tryz.prog 110 (zaa Tag) (zaa.mk none ([]:(List Tag))):=⟨zr7 (v:=.slice none 0 0) rfl (by kernel_rfl) zn5⟩
theorem zpQ:TyB Tryz.prog 114 1 false=true:=by kernel_rfl
theorem zp5:SlB Tryz.prog 114 11 true=true:=by kernel_rfl
theorem znR:zfh Tryz.prog 129 5 10 1 false=true:=by kernel_rfl
theorem zAa:elB Tryz.prog 165 1=true:=by kernel_rfl
theorem zpB:zmi Tryz.prog 165 165 1=true:=by kernel_rfl
theorem sl24:SlB Tryz.prog 24 13 true=true:=by kernel_rfl
theorem zqU:zfh Tryz.prog 116 5 10 1 false=true:=by kernel_rfl
theorem ziT:zfh Tryz.prog 116 0 0 1 false=true:=by kernel_rfl
theorem zAc:zeT Tryz.prog 116 ((zg.mk (0:Int) ([]:(List Tag)) (zbv.mk false false false false (0:Int) (0:Int)) ([]:(List zag)) ([]:(List zaB)) (0:Int) false (0:Int)):zg):=zbm (cs:=[.int .i64 0,.slice none 0 0,.bool false,.bool false,.bool false,.bool false,.int .i64 0,.int .i64 0,.slice none 0 0,.slice none 0 0,.int .i64 0,.bool false,.int .i64 0]) rfl (by kernel_rfl) (zn zaX (zn zaL (zn (zn zcd (zn zcd (zn zcd (zn zcd (zn zaX zaX))))) (zn zaL (zn zaL (zn zaX (zn zcd zaX)))))))
theorem zv2:TyB Tryz.prog 116 13 true=true:=by kernel_rfl
theorem zlh:zfh Tryz.prog 116 4 9 1 false=true:=by kernel_rfl
instance:UnC Tryz.prog 55 (.int .u64):=⟨Tryz.underlying55⟩
instance:zaH Tryz.prog 105 0 zcj Str zcj.f0:=⟨by kernel_rfl⟩
instance:zet Tryz.prog 105 zcj (zcj.mk (Str.mk []) (0:Int)):=⟨zbm (cs:=[.string ⟨#[]⟩,.int .i64 0]) rfl (by kernel_rfl) (zn zeF zaX)⟩
instance:zaH Tryz.prog 107 0 zab zcj zab.f0:=⟨by kernel_rfl⟩
instance:zet Tryz.prog 107 zab (zab.mk (zcj.mk (Str.mk []) (0:Int))):=⟨zbm (cs:=[.string ⟨#[]⟩,.int .i64 0]) rfl (by kernel_rfl) (zn zeF zaX)⟩
instance:zaH Tryz.prog 105 1 zcj Int zcj.f1:=⟨by kernel_rfl⟩
instance:IfC Tryz.prog 120:=⟨by kernel_rfl⟩
instance strconv_ParseInt_g a_s zdQ zcL:zd Tryz.prog 47 (zbc a_s zdQ zcL) (.mk [isv a_s,isv zdQ,isv zcL] [] λr=>.mk [isv r.1,isv r.2] []):=⟨λr h=>by
 exact zlP h⟩
abbrev zii:Type:=zZ × Vh
abbrev zfN (x:zaf) (t0:Vt):zii:=(x.t,⟨t0,x.b.length⟩)
@[reducible] def zv3:Fld zii zZ:=pf0
@[reducible] def zou:Fld zii Vh:=pl1
instance:zaH Tryz.prog 85 0 zii zZ zv3:=⟨by kernel_rfl⟩
instance:zaH Tryz.prog 85 0 zaf zZ zaf.f0:=⟨by kernel_rfl⟩
instance:zkn Tryz.prog 85 zii ((zZ.mk (Str.mk []) ([]:(List Str)) ([]:(List Int)) ([]:(List zg))),(Vh.mk none 0)):=⟨zbm (cs:=[.string ⟨#[]⟩,.slice none 0 0,.slice none 0 0,.slice none 0 0,.slice none 0 0]) rfl (by kernel_rfl) (zn (zn zeF (zn zaL (zn zaL zaL))) zrQ)⟩
instance:zaH Tryz.prog 85 1 zaf (List UInt8) zaf.f1:=⟨by kernel_rfl⟩
theorem zxe:zfh Tryz.prog 85 1 4 1 false=true:=by kernel_rfl
instance:zaH Tryz.prog 85 1 zii Vh zou:=⟨by kernel_rfl⟩
theorem zAT:zsI Tryz.prog 32 9=true:=by kernel_rfl
theorem st9:zkw Tryz.prog 9=true:=by kernel_rfl
theorem el32:elB Tryz.prog 32 1=true:=by kernel_rfl
theorem ztM:zmi Tryz.prog 32 32 1=true:=by kernel_rfl
theorem ty32:TyB Tryz.prog 32 1 false=true:=by kernel_rfl
instance strconv_FormatInt_g a_i zdQ:zd Tryz.prog 125 (zdJ a_i zdQ) (.mk [isv a_i,isv zdQ] [] λr=>.mk [isv r] []):=⟨λr h=>by
 exact zlz h⟩
instance strings_ReplaceAll_g a_s zrR zrK:zd Tryz.prog 127 (strings_ReplaceAll a_s zrR zrK) (.mk [isv a_s,isv zrR,isv zrK] [] λr=>.mk [isv r] []):=⟨λr h=>by
 exact zkG h⟩
abbrev zew:Type:=zgA × zZ × Int × Int
abbrev zdx (x:zL):zew:=(x.stream,x.t,x.at_,x.e)
abbrev zio:Type:=Int × Int × (List UInt8) × Vh × Int × (List Raw)
abbrev zl3 (x:Val) (t0:Vt):zio:=(x.kind,x.n,x.b,⟨t0,x.l.length⟩,x.rule,x.more)
@[reducible] def zoO:Fld zew zgA:=pf0
@[reducible] def zxq:Fld zew zZ:=pf1
@[reducible] def zx6:Fld zew Int:=pl3
@[reducible] def zwT:Fld zew Int:=pf2
@[reducible] def zxl:Fld zio Int:=pf0
@[reducible] def zxj:Fld zio Int:=pf1
@[reducible] def zwF:Fld zio (List UInt8):=pf2
@[reducible] def zwW:Fld zio Vh:=pf3
instance:zaH Tryz.prog 61 0 zgA (List zU) zgA.f0:=⟨by kernel_rfl⟩
instance:zet Tryz.prog 61 zgA (zgA.mk ([]:(List zU)) (0:Int)):=⟨zbm (cs:=[.slice none 0 0,.int .i64 0]) rfl (by kernel_rfl) (zn zaL zaX)⟩
instance:zaH Tryz.prog 63 0 zew zgA zoO:=⟨by kernel_rfl⟩
instance:zaH Tryz.prog 63 0 zL zgA zL.f0:=⟨by kernel_rfl⟩
instance:zaH Tryz.prog 63 1 zew zZ zxq:=⟨by kernel_rfl⟩
instance:zaH Tryz.prog 63 1 zL zZ zL.f1:=⟨by kernel_rfl⟩
instance:zkn Tryz.prog 63 zew ((zgA.mk ([]:(List zU)) (0:Int)),(zZ.mk (Str.mk []) ([]:(List Str)) ([]:(List Int)) ([]:(List zg))),(0:Int),(0:Int)):=⟨zbm (cs:=[.slice none 0 0,.int .i64 0,.string ⟨#[]⟩,.slice none 0 0,.slice none 0 0,.slice none 0 0,.int .i64 0,.int .i64 0]) rfl (by kernel_rfl) (zn (zn zaL zaX) (zn (zn zeF (zn zaL (zn zaL zaL))) (zn zaX zaX)))⟩
instance:zaH Tryz.prog 63 3 zL Int zL.f3:=⟨by kernel_rfl⟩
instance:zaH Tryz.prog 63 3 zew Int zx6:=⟨by kernel_rfl⟩
instance:zaH Tryz.prog 61 1 zgA Int zgA.f1:=⟨by kernel_rfl⟩
instance:zaH Tryz.prog 63 2 zL Int zL.f2:=⟨by kernel_rfl⟩
instance:zaH Tryz.prog 63 2 zew Int zwT:=⟨by kernel_rfl⟩
instance:zaH Tryz.prog 36 0 zio Int zxl:=⟨by kernel_rfl⟩
instance:zkn Tryz.prog 36 zio ((0:Int),(0:Int),([]:(List UInt8)),(Vh.mk none 0),(0:Int),([]:(List Raw))):=⟨zbm (cs:=[.int .i64 0,.int .i64 0,.slice none 0 0,.slice none 0 0,.int .i64 0,.slice none 0 0]) rfl (by kernel_rfl) (zn zaX (zn zaX (zn zaL (zn zrQ (zn zaX zaL)))))⟩
instance:zaH Tryz.prog 36 1 zio Int zxj:=⟨by kernel_rfl⟩
instance:zaH Tryz.prog 36 2 zio (List UInt8) zwF:=⟨by kernel_rfl⟩
instance:zaH Tryz.prog 36 3 zio Vh zwW:=⟨by kernel_rfl⟩
instance:UnC Tryz.prog 33 (.slice 36):=⟨Tryz.underlying33⟩
instance:AggC #[.int .i64 0,.int .i64 0,.slice none 0 0,.slice none 0 0,.int .i64 0,.slice none 0 0] Val (Val.mk (0:Int) (0:Int) ([]:(List UInt8)) ([]:(List Val)) (0:Int) ([]:(List Raw))):=⟨(zw7 (x:=(Val.mk (0:Int) (0:Int) ([]:(List UInt8)) ([]:(List Val)) (0:Int) ([]:(List Raw)))) (cs:=[.int .i64 0,.int .i64 0,.slice none 0 0,.slice none 0 0,.int .i64 0,.slice none 0 0]) rfl zte)⟩
instance {x:Val} {tt:Vt}:CvF tt x.l ((x.kind,x.n,x.b,Vh.mk tt x.l.length,x.rule,x.more):zio) (Fld.id (zio)) _ _ ((x.kind,x.n,x.b,x.l,x.rule,x.more):(Int × Int × (List UInt8) × (List Val) × Int × (List Raw))) (Fld.id ((Int × Int × (List UInt8) × (List Val) × Int × (List Raw)))):=⟨(λS hv=>(Cv.pair Cv.id (Cv.pair Cv.id (Cv.pair Cv.id (Cv.pair (Cv.vh hv (by first | rfl | simp)) (Cv.pair Cv.id Cv.id)))))),rfl⟩
instance {x:Val}:CvC ((x.kind,x.n,x.b,x.l,x.rule,x.more):(Int × Int × (List UInt8) × (List Val) × Int × (List Raw))) Val x:=⟨(Cv.isv rfl λS=>(λcs h=>Cv.val cs (((Cv.pair Cv.id (Cv.pair Cv.id (Cv.pair Cv.id (Cv.pair Cv.id (Cv.pair Cv.id Cv.id))))):Cv S ((x.kind,x.n,x.b,x.l,x.rule,x.more):(Int × Int × (List UInt8) × (List Val) × Int × (List Raw))) (Val.to x)) cs h)))⟩
instance:zaH Tryz.prog 72 1 zjM (List zU) zjM.f1:=⟨by kernel_rfl⟩
instance:zaH Tryz.prog 72 0 zjM zZ zjM.f0:=⟨by kernel_rfl⟩
instance:zet Tryz.prog 72 zjM (zjM.mk (zZ.mk (Str.mk []) ([]:(List Str)) ([]:(List Int)) ([]:(List zg))) ([]:(List zU)) (0:Int) (0:Int) (0:Int)):=⟨zbm (cs:=[.string ⟨#[]⟩,.slice none 0 0,.slice none 0 0,.slice none 0 0,.slice none 0 0,.int .i64 0,.int .i64 0,.int .i64 0]) rfl (by kernel_rfl) (zn (zn zeF (zn zaL (zn zaL zaL))) (zn zaL (zn zaX (zn zaX zaX))))⟩
instance:zaH Tryz.prog 72 3 zjM Int zjM.f3:=⟨by kernel_rfl⟩
instance:zaH Tryz.prog 72 2 zjM Int zjM.f2:=⟨by kernel_rfl⟩
instance:zaH Tryz.prog 72 4 zjM Int zjM.f4:=⟨by kernel_rfl⟩
section
attribute [local irreducible] isv zbn zar zbK zbu zeh zeA zgz zgk zdX zdG zcP zj zO zN cal br ck asr jp lp zs
instance r04_at_g a_s a_i:zd Tryz.prog 113 (zgG a_s a_i) (.mk [isv a_s,isv a_i] [] λr=>.mk [isv r] []):=by
 unfold zgG
 exact W (.o 0 12 .a .a) Tryz.func113 e

instance r04_white_g a_s a_i:zd Tryz.prog 56 (zhd a_s a_i) (.mk [isv a_s,isv a_i] [] λr=>.mk [isv r] []):=by
 unfold zhd
 exact W (.l [1] (.b (.o 13 20 (.o 7 26 (.o 1 32 (.b .a (.o 1 46 (.b (.l [1] (.o 0 58 (.b (.o 0 69 .a .a) .a) .a)) .a) .a)) .a) .a) .a) .a)) Tryz.func56 e

instance r04_letter_g a_c:zd Tryz.prog 114 (zgd a_c) (.mk [isv a_c] [] λr=>.mk [isv r] []):=by
 unfold zgd
 exact W (.o 9 8 (.o 1 16 .a (.b .a (.o 2 15 .a .a))) .a) Tryz.func114 e

instance r04_digit_g a_c:zd Tryz.prog 117 (zfH a_c) (.mk [isv a_c] [] λr=>.mk [isv r] []):=by
 unfold zfH
 exact W (.o 1 8 .a .a) Tryz.func117 e

instance r04_name_g a_s a_i:zd Tryz.prog 115 (ziD a_s a_i) (.mk [isv a_s,isv a_i] [] λr=>.mk [isv r] []):=by
 unfold ziD
 exact W (.l [1] (.o 0 35 (.b .a (.o 0 48 .a .a)) (.b (.o 14 21 (.o 1 34 .a (.b .a (.o 2 33 .a .a))) .a) .a))) Tryz.func115 e

instance r04_words_g :zd Tryz.prog 160 (zjN ) (.mk [] [] λr=>.mk [isv r] []):=by
 unfold zjN
 exact W .a Tryz.func160 e

instance h_In_string_g a_l a_x:zd Tryz.prog 85 (zgs a_l a_x) (.mk [isv a_l,isv a_x] [] λr=>.mk [isv r] []):=by
 unfold zgs
 exact W (.l [5] .a) Tryz.func85 e

instance r04_Word_g a_s:zd Tryz.prog 116 (ziE a_s) (.mk [isv a_s] [] λr=>.mk [isv r] []):=by
 unfold ziE
 exact W .a Tryz.func116 e

instance r04_number_g a_s a_i:zd Tryz.prog 118 (zgf a_s a_i) (.mk [isv a_s,isv a_i] [] λr=>.mk [isv r] []):=by
 unfold zgf
 exact W (.w [1] (.l [1,7] (.o 0 26 (.b (.w [7] .a .a) (.o 37 49 (.o 27 59 (.o 18 68 (.o 12 74 (.o 8 78 (.o 0 86 .a (.b .a (.o 1 85 .a .a))) .a) .a) (.b .a (.o 19 67 .a .a))) (.b .a (.o 28 58 .a .a))) .a)) .a)) .a) Tryz.func118 e

instance r04_hex_g a_s a_i:zd Tryz.prog 119 (zjY a_s a_i) (.mk [isv a_s,isv a_i] [] λr=>.mk [isv r.1,isv r.2] []):=by
 unfold zjY
 exact W (.l [1] (.o 0 31 (.b .a (.o 7 44 (.o 0 51 (.b .a (.d 0 .a)) .a) .a)) (.b (.o 1 30 .a (.b .a (.o 2 29 .a .a))) .a))) Tryz.func119 e

instance r04_quoted_g a_s a_i:zd Tryz.prog 120 (zf8 a_s a_i) (.mk [isv a_s,isv a_i] [] λr=>.mk [isv r.1,isv r.2] []):=by
 unfold zf8
 exact W (.l [1,6] (.b (.v [1,6] .a .a) .a)) Tryz.func120 e

instance r04_sign_g a_s a_i:zd Tryz.prog 121 (zh1 a_s a_i) (.mk [isv a_s,isv a_i] [] λr=>.mk [isv r] []):=by
 unfold zh1
 exact W (.l [7] (.b (.d 0 (.o 0 37 .a .a)) .a)) Tryz.func121 e

instance r04_one_g a_s a_i:zd Tryz.prog 57 (zka a_s a_i) (.mk [isv a_s,isv a_i] [] λr=>.mk [isv r.1,isv r.2] []):=by
 unfold zka
 exact W (.q 1 (.q 0 (.q 1 (.w [] (.j 0 (.b 0 λb2=>.m [true] (.v (λq4:Int × zU=>[(8,isv q4.1)]) λq4=>[zj b2 (q4.2:zU)])) .a (.b (.b .a (.d 160 (.j 0 (.b 0 λb2=>.m [true] (.v (λq9:zU=>[]) λq9=>[zj b2 (q9:zU)])) .a .a))) (.o 1 66 (.b (.b .a (.d 160 .a)) (.b .a (.b .a (.b (.d 5120 .a) .a)))) (.b .a (.o 2 65 .a .a))))) .a)))) Tryz.func57 e

instance r04_Tokens_g za4:zd Tryz.prog 22 (zfA za4) (.mk [isv za4] [] λr=>.mk [isv r.1,isv r.2.1,isv r.2.2] []):=by
 unfold zfA
 exact W (.b .a (.k (.m [] (.t λt0=>.v (λq1:(List zU) × Int=>[(5,zbK t0 q1.1),(6,isv q1.2)]) λq1=>[zO t0])) .a)) Tryz.func22 e

instance r05_parser_now_g a_x:zd Tryz.prog 37 (zaG a_x) (.b λzC=>.t λt_a_x1=>.t λt_a_x2=>.v λzX=>.mk [zar zC (Fld.id zda)] [zj zC (zbO a_x t_a_x1 t_a_x2 zX),zO t_a_x1,zO t_a_x2,zN zX a_x.m.nodes] λr=>.t λu1=>.t λu2=>.mk [isv r.1] [zj zC (zbO r.2 u1 u2 zX),zO u1,zO u2,zN zX r.2.m.nodes]):=by
 unfold zaG
 exact W (.q 1 (.p 0 (.d 1024 .a))) Tryz.func37 e

instance r05_parser_fail_g a_x a_e a_t:zd Tryz.prog 38 (za6 a_x a_e a_t) (.b λzC=>.t λt_a_x1=>.t λt_a_x2=>.v λzX=>.mk [zar zC (Fld.id zda),isv a_e,isv a_t] [zj zC (zbO a_x t_a_x1 t_a_x2 zX),zO t_a_x1,zO t_a_x2,zN zX a_x.m.nodes] λr=>.t λu1=>.t λu2=>.mk [] [zj zC (zbO r u1 u2 zX),zO u1,zO u2,zN zX r.m.nodes]):=by
 unfold za6
 exact W (.b (.d 1152 .a) .a) Tryz.func38 e

instance r05_parser_next_g a_x:zd Tryz.prog 81 (zbz a_x) (.b λzC=>.t λt_a_x1=>.t λt_a_x2=>.v λzX=>.mk [zar zC (Fld.id zda)] [zj zC (zbO a_x t_a_x1 t_a_x2 zX),zO t_a_x1,zO t_a_x2,zN zX a_x.m.nodes] λr=>.t λu1=>.t λu2=>.mk [isv r.1] [zj zC (zbO r.2 u1 u2 zX),zO u1,zO u2,zN zX r.2.m.nodes]):=by
 unfold zbz
 exact W (.q 1 (.p 0 (.d 3072 (.p 0 (.d 0 (.j 0 (.w 4 λzX=>.b 0 λzC=>.m [true,false,true,true,true] (.t λt0=>.t λt1=>.v (λq12:zu=>[]) λq12=>[zj zC (zbO q12 t0 t1 zX),zO t0,zO t1,zN zX q12.m.nodes])) .a .a)))))) Tryz.func81 e

instance r05_parser_kind_g a_x a_k:zd Tryz.prog 34 (zbx a_x a_k) (.b λzC=>.t λt_a_x1=>.t λt_a_x2=>.v λzX=>.mk [zar zC (Fld.id zda),isv a_k] [zj zC (zbO a_x t_a_x1 t_a_x2 zX),zO t_a_x1,zO t_a_x2,zN zX a_x.m.nodes] λr=>.t λu1=>.t λu2=>.mk [isv r.1] [zj zC (zbO r.2 u1 u2 zX),zO u1,zO u2,zN zX r.2.m.nodes]):=by
 unfold zbx
 exact W (.o 0 18 .a .a) Tryz.func34 e

instance r05_parser_is_g a_x a_s:zd Tryz.prog 36 (zD a_x a_s) (.b λzC=>.t λt_a_x1=>.t λt_a_x2=>.v λzX=>.mk [zar zC (Fld.id zda),isv a_s] [zj zC (zbO a_x t_a_x1 t_a_x2 zX),zO t_a_x1,zO t_a_x2,zN zX a_x.m.nodes] λr=>.t λu1=>.t λu2=>.mk [isv r.1] [zj zC (zbO r.2 u1 u2 zX),zO u1,zO u2,zN zX r.2.m.nodes]):=by
 unfold zD
 exact W (.o 6 22 (.o 0 28 .a .a) (.b (.o 7 21 .a .a) .a)) Tryz.func36 e

instance r05_parser_must_g a_x a_s:zd Tryz.prog 35 (zP a_x a_s) (.b λzC=>.t λt_a_x1=>.t λt_a_x2=>.v λzX=>.mk [zar zC (Fld.id zda),isv a_s] [zj zC (zbO a_x t_a_x1 t_a_x2 zX),zO t_a_x1,zO t_a_x2,zN zX a_x.m.nodes] λr=>.t λu1=>.t λu2=>.mk [] [zj zC (zbO r u1 u2 zX),zO u1,zO u2,zN zX r.m.nodes]):=by
 unfold zP
 exact W (.j 0 (.w 3 λzX=>.b 0 λzC=>.m [true,true,true,true] (.t λt0=>.t λt1=>.v (λq4:Bool × zu=>[(14,isv q4.1)]) λq4=>[zj zC (zbO q4.2 t0 t1 zX),zO t0,zO t1,zN zX q4.2.m.nodes])) .a .a) Tryz.func35 e

instance r05_begins_g a_t:zd Tryz.prog 82 (ziy a_t) (.mk [isv a_t] [] λr=>.mk [isv r] []):=by
 unfold ziy
 exact W (.l [4] (.b (.d 0 (.o 0 28 .a (.b (.o 1 27 .a .a) .a))) .a)) Tryz.func82 e

instance r05_Whole_g a_s:zd Tryz.prog 61 (zhY a_s) (.mk [isv a_s] [] λr=>.mk [isv r] []):=by
 unfold zhY
 exact W (.w [0] (.l [4,5] .a) .a) Tryz.func61 e

instance r05_parser_number_g a_x:zd Tryz.prog 83 (zb3 a_x) (.b λzC=>.t λt_a_x1=>.t λt_a_x2=>.v λzX=>.mk [zar zC (Fld.id zda)] [zj zC (zbO a_x t_a_x1 t_a_x2 zX),zO t_a_x1,zO t_a_x2,zN zX a_x.m.nodes] λr=>.t λu1=>.t λu2=>.mk [isv r.1] [zj zC (zbO r.2 u1 u2 zX),zO u1,zO u2,zN zX r.2.m.nodes]):=by
 unfold zb3
 exact W .a Tryz.func83 e

instance r05_parser_bounds_g a_x:zd Tryz.prog 134 (zcH a_x) (.b λzC=>.t λt_a_x1=>.t λt_a_x2=>.v λzX=>.mk [zar zC (Fld.id zda)] [zj zC (zbO a_x t_a_x1 t_a_x2 zX),zO t_a_x1,zO t_a_x2,zN zX a_x.m.nodes] λr=>.t λu1=>.t λu2=>.mk [isv r.1] [zj zC (zbO r.2 u1 u2 zX),zO u1,zO u2,zN zX r.2.m.nodes]):=by
 unfold zcH
 exact W (.q 1 (.q 0 (.q 1 (.j 0 (.w 3 λzX=>.b 0 λzC=>.b 4 λb5=>.m [true,true,true,true,true] (.t λt0=>.t λt1=>.v (λq9:zu × zbv=>[]) λq9=>[zj zC (zbO q9.1 t0 t1 zX),zO t0,zO t1,zN zX q9.1.m.nodes,zj b5 (q9.2:zbv)])) (.w [] (.j 0 (.w 3 λzX=>.b 0 λzC=>.b 4 λb5=>.m [true,true,true,true,true] (.t λt0=>.t λt1=>.v (λq14:zu × zbv=>[]) λq14=>[zj zC (zbO q14.1 t0 t1 zX),zO t0,zO t1,zN zX q14.1.m.nodes,zj b5 (q14.2:zbv)])) (.j 0 (.w 3 λzX=>.b 0 λzC=>.b 4 λb5=>.m [true,true,true,true,true] (.t λt0=>.t λt1=>.v (λq28:zu × zbv=>[]) λq28=>[zj zC (zbO q28.1 t0 t1 zX),zO t0,zO t1,zN zX q28.1.m.nodes,zj b5 (q28.2:zbv)])) .a .a) .a) .a) .a)))) Tryz.func134 e

instance r05_parser_size_g a_x:zd Tryz.prog 133 (zcO a_x) (.b λzC=>.t λt_a_x1=>.t λt_a_x2=>.v λzX=>.mk [zar zC (Fld.id zda)] [zj zC (zbO a_x t_a_x1 t_a_x2 zX),zO t_a_x1,zO t_a_x2,zN zX a_x.m.nodes] λr=>.t λu1=>.t λu2=>.mk [isv r.1] [zj zC (zbO r.2 u1 u2 zX),zO u1,zO u2,zN zX r.2.m.nodes]):=by
 unfold zcO
 exact W (.q 1 .a) Tryz.func133 e

end
section
attribute [local irreducible] isv zbn zar zbK zbu zeh zeA zgz zgk zdX zdG zcP zj zO zN cal br ck asr jp lp zs

instance r05_parser_items_g a_x a_n_:zd Tryz.prog 135 (zdi a_x a_n_) (.b λzC=>.t λt_a_x1=>.t λt_a_x2=>.v λzX=>.b λzcR=>.t λt_a_n_4=>.t λt_a_n_5=>.mk [zar zC (Fld.id zda),zar zcR (Fld.id zcE)] [zj zC (zbO a_x t_a_x1 t_a_x2 zX),zO t_a_x1,zO t_a_x2,zN zX a_x.m.nodes,zj zcR (zfv a_n_ t_a_n_4 t_a_n_5),zO t_a_n_4,zO t_a_n_5] λr=>.t λu1=>.t λu2=>.t λu3=>.t λu4=>.mk [] [zj zC (zbO r.1 u1 u2 zX),zO u1,zO u2,zN zX r.1.m.nodes,zj zcR (zfv r.2 u3 u4),zO u3,zO u4]):=by
 unfold zdi
 exact W (.w [] (.j 0 (.w 3 λzX=>.b 4 λzcR=>.b 0 λzC=>.m [true,true,true,true,true,true,true] (.t λt0=>.t λt1=>.t λt2=>.t λt3=>.v (λq6:zu × zh=>[]) λq6=>[zj zC (zbO q6.1 t0 t1 zX),zO t0,zO t1,zN zX q6.1.m.nodes,zj zcR (zfv q6.2 t2 t3),zO t2,zO t3])) .a (.k (.w 3 λzX=>.b 4 λzcR=>.b 0 λzC=>.m [true,true,true,true,true,true,true] (.t λt0=>.t λt1=>.t λt2=>.t λt3=>.v (λq8:zu × zh=>[]) λq8=>[zj zC (zbO q8.1 t0 t1 zX),zO t0,zO t1,zN zX q8.1.m.nodes,zj zcR (zfv q8.2 t2 t3),zO t2,zO t3])) (.b (.o 4 22 (.j 0 (.w 3 λzX=>.b 0 λzC=>.m [true,true,true,true] (.t λt0=>.t λt1=>.v (λq49:Bool × zu=>[(26,isv q49.1)]) λq49=>[zj zC (zbO q49.2 t0 t1 zX),zO t0,zO t1,zN zX q49.2.m.nodes])) (.j 0 (.w 3 λzX=>.b 4 λzcR=>.b 0 λzC=>.m [true,true,true,true,true,true,true] (.t λt0=>.t λt1=>.t λt2=>.t λt3=>.v (λq55:zu × zh=>[]) λq55=>[zj zC (zbO q55.1 t0 t1 zX),zO t0,zO t1,zN zX q55.1.m.nodes,zj zcR (zfv q55.2 t2 t3),zO t2,zO t3])) .a (.b .a (.q 0 (.q 1 (.j 0 (.w 3 λzX=>.b 0 λzC=>.b 4 λb60=>.m [true,true,true,true,true] (.t λt0=>.t λt1=>.v (λq64:zu × zag=>[]) λq64=>[zj zC (zbO q64.1 t0 t1 zX),zO t0,zO t1,zN zX q64.1.m.nodes,zj b60 (q64.2:zag)])) (.p 4 (.e (.v 0 (.v 1 (.v 2 (.v 3 (.v 5 (.alt 4 (.t 6 (.t 7 (.v 8 (.v 9 (.t 10 .nil))))) (.t 6 (.t 4 (.t 7 (.v 8 (.v 9 (.t 10 .nil)))))))))))) (.b .a .a))) .a))))) .a) .a) .a))) .a) Tryz.func135 e

instance r05_Hex_g a_s:zd Tryz.prog 63 (zmF a_s) (.mk [isv a_s] [] λr=>.mk [isv r] []):=by
 unfold zmF
 exact W (.k (.m [] (.t λt0=>.v (λq1:(List UInt8) × Int=>[(3,zbK t0 q1.1),(4,isv q1.2)]) λq1=>[zO t0])) (.b (.l [5,6] (.b (.w [7] .a .a) .a)) .a)) Tryz.func63 e

instance r05_parser_value_g a_x:zd Tryz.prog 203 (zdj a_x) (.b λzC=>.t λt_a_x1=>.t λt_a_x2=>.v λzX=>.mk [zar zC (Fld.id zda)] [zj zC (zbO a_x t_a_x1 t_a_x2 zX),zO t_a_x1,zO t_a_x2,zN zX a_x.m.nodes] λr=>.t λu1=>.t λu2=>.mk [isv r.1] [zj zC (zbO r.2 u1 u2 zX),zO u1,zO u2,zN zX r.2.m.nodes]):=by
 unfold zdj
 exact W (.q 1 (.w [] (.j 0 (.w 3 λzX=>.b 0 λzC=>.m [true,true,true,true] (.t λt0=>.t λt1=>.v (λq9:zu=>[]) λq9=>[zj zC (zbO q9 t0 t1 zX),zO t0,zO t1,zN zX q9.m.nodes])) .a .a) .a)) Tryz.func203 e

end
end Go.Proofs.Q
