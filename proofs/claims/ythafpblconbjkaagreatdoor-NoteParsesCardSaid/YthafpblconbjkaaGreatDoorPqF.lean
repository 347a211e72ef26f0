/- Walks, printed by mill.py and grow.py. -/
import Derived.Test.YthafpblconbjkaaGreatDoorPqE
import Derived.Test.YthafpblconbjkaaGreatDoorProg
import Derived.Shelf.Strconv.ParseIntPublic10
import Derived.KernelRfl
import Derived.Shelf.Strconv.Itoa4
import Derived.Shelf.Strings.Replace
import Derived.Lib.AppendIntMem
import Derived.Shelf.Unicode.ValidAny
set_option linter.unusedVariables false
set_option linter.unusedSimpArgs false
set_option maxRecDepth 4000
set_option maxHeartbeats 4000000
namespace Go.Proofs.Q
open Go.Sy
open Go.Shelf Go.RowKit
def zsm:Shelf.Ren:=⟨λx=>bif Nat.beq x 129 then 213 else bif Nat.beq x 171 then 179 else bif Nat.beq x 174 then 47 else bif Nat.beq x 205 then 178 else bif Nat.beq x 243 then 205 else bif Nat.beq x 245 then 103 else bif Nat.beq x 246 then 162 else bif Nat.beq x 247 then 102 else bif Nat.beq x 279 then 146 else bif Nat.beq x 280 then 147 else bif Nat.beq x 281 then 148 else bif Nat.beq x 282 then 149 else bif Nat.beq x 283 then 189 else bif Nat.beq x 284 then 190 else bif Nat.beq x 285 then 191 else bif Nat.beq x 286 then 192 else bif Nat.beq x 287 then 145 else bif Nat.beq x 316 then 177 else bif Nat.beq x 317 then 212 else bif Nat.beq x 318 then 214 else bif Nat.beq x 319 then 215 else bif Nat.beq x 320 then 216 else bif Nat.beq x 321 then 175 else bif Nat.beq x 322 then 176 else bif Nat.beq x 337 then 231 else bif Nat.beq x 338 then 232 else x,λx=>bif Nat.beq x 0 then 0 else bif Nat.beq x 2 then 2 else bif Nat.beq x 3 then 3 else bif Nat.beq x 4 then 4 else bif Nat.beq x 5 then 5 else bif Nat.beq x 9 then 9 else bif Nat.beq x 20 then 20 else bif Nat.beq x 21 then 21 else bif Nat.beq x 37 then 32 else bif Nat.beq x 46 then 55 else bif Nat.beq x 51 then 275 else bif Nat.beq x 53 then 178 else bif Nat.beq x 75 then 120 else bif Nat.beq x 80 then 252 else bif Nat.beq x 85 then 121 else bif Nat.beq x 127 then 261 else bif Nat.beq x 143 then 262 else bif Nat.beq x 145 then 264 else bif Nat.beq x 167 then 211 else bif Nat.beq x 168 then 212 else bif Nat.beq x 171 then 238 else bif Nat.beq x 173 then 241 else bif Nat.beq x 175 then 179 else bif Nat.beq x 210 then 233 else bif Nat.beq x 212 then 274 else bif Nat.beq x 213 then 276 else bif Nat.beq x 232 then 296 else bif Nat.beq x 233 then 297 else x,λx=>bif Nat.beq x 15 then 2 else bif Nat.beq x 16 then 3 else bif Nat.beq x 17 then 4 else bif Nat.beq x 18 then 6 else bif Nat.beq x 19 then 7 else x⟩
set_option maxRecDepth 100000 in
theorem zqe:LaysC.n174 Tryz.prog zsm:={
 mixed:=by kernel_rfl
 f129:=Tryz.func213.trans (by kernel_rfl)
 f171:=Tryz.func179.trans (by kernel_rfl)
 f174:=Tryz.func47.trans (by kernel_rfl)
 f205:=Tryz.func178.trans (by kernel_rfl)
 f243:=Tryz.func205.trans (by kernel_rfl)
 f245:=Tryz.func103.trans (by kernel_rfl)
 f246:=Tryz.func162.trans (by kernel_rfl)
 f247:=Tryz.func102.trans (by kernel_rfl)
 f279:=Tryz.func146.trans (by kernel_rfl)
 f280:=Tryz.func147.trans (by kernel_rfl)
 f281:=Tryz.func148.trans (by kernel_rfl)
 f282:=Tryz.func149.trans (by kernel_rfl)
 f283:=Tryz.func189.trans (by kernel_rfl)
 f284:=Tryz.func190.trans (by kernel_rfl)
 f285:=Tryz.func191.trans (by kernel_rfl)
 f286:=Tryz.func192.trans (by kernel_rfl)
 f287:=Tryz.func145.trans (by kernel_rfl)
 f316:=Tryz.func177.trans (by kernel_rfl)
 f317:=Tryz.func212.trans (by kernel_rfl)
 f318:=Tryz.func214.trans (by kernel_rfl)
 f319:=Tryz.func215.trans (by kernel_rfl)
 f320:=Tryz.func216.trans (by kernel_rfl)
 f321:=Tryz.func175.trans (by kernel_rfl)
 f322:=Tryz.func176.trans (by kernel_rfl)
 f337:=Tryz.func231.trans (by kernel_rfl)
 f338:=Tryz.func232.trans (by kernel_rfl)
 t0:=Tryz.underlying0
 a0:=Tryz.isAgg0
 z0:=Tryz.sizeOf0
 v0:=Tryz.zeroValue0
 t2:=Tryz.underlying2
 a2:=Tryz.isAgg2
 z2:=Tryz.sizeOf2
 v2:=Tryz.zeroValue2
 t3:=Tryz.underlying3
 a3:=Tryz.isAgg3
 z3:=Tryz.sizeOf3
 v3:=Tryz.zeroValue3
 t4:=Tryz.underlying4
 a4:=Tryz.isAgg4
 z4:=Tryz.sizeOf4
 v4:=Tryz.zeroValue4
 t5:=Tryz.underlying5
 a5:=Tryz.isAgg5
 z5:=Tryz.sizeOf5
 v5:=Tryz.zeroValue5
 t9:=Tryz.underlying9
 a9:=Tryz.isAgg9
 z9:=Tryz.sizeOf9
 v9:=Tryz.zeroValue9
 t20:=Tryz.underlying20
 a20:=Tryz.isAgg20
 z20:=Tryz.sizeOf20
 v20:=Tryz.zeroValue20
 t21:=Tryz.underlying21
 a21:=Tryz.isAgg21
 z21:=Tryz.sizeOf21
 v21:=Tryz.zeroValue21
 t37:=Tryz.underlying32
 a37:=Tryz.isAgg32
 z37:=Tryz.sizeOf32
 v37:=Tryz.zeroValue32
 t46:=Tryz.underlying55
 a46:=Tryz.isAgg55
 z46:=Tryz.sizeOf55
 v46:=Tryz.zeroValue55
 t51:=Tryz.underlying275
 a51:=Tryz.isAgg275
 z51:=Tryz.sizeOf275
 v51:=Tryz.zeroValue275
 t53:=Tryz.underlying178
 a53:=Tryz.isAgg178
 z53:=Tryz.sizeOf178
 v53:=Tryz.zeroValue178
 t75:=Tryz.underlying120
 a75:=Tryz.isAgg120
 z75:=Tryz.sizeOf120
 v75:=Tryz.zeroValue120
 t85:=Tryz.underlying121
 a85:=Tryz.isAgg121
 z85:=Tryz.sizeOf121
 v85:=Tryz.zeroValue121
 t127:=Tryz.underlying261
 a127:=Tryz.isAgg261
 z127:=Tryz.sizeOf261
 v127:=Tryz.zeroValue261
 t143:=Tryz.underlying262
 a143:=Tryz.isAgg262
 z143:=Tryz.sizeOf262
 v143:=Tryz.zeroValue262
 t145:=Tryz.underlying264
 a145:=Tryz.isAgg264
 z145:=Tryz.sizeOf264
 v145:=Tryz.zeroValue264
 t167:=Tryz.underlying211
 a167:=Tryz.isAgg211
 z167:=Tryz.sizeOf211
 v167:=Tryz.zeroValue211
 t168:=Tryz.underlying212
 a168:=Tryz.isAgg212
 z168:=Tryz.sizeOf212
 v168:=Tryz.zeroValue212
 t171:=Tryz.underlying238
 a171:=Tryz.isAgg238
 z171:=Tryz.sizeOf238
 v171:=Tryz.zeroValue238
 t173:=Tryz.underlying241
 a173:=Tryz.isAgg241
 z173:=Tryz.sizeOf241
 v173:=Tryz.zeroValue241
 t175:=Tryz.underlying179
 a175:=Tryz.isAgg179
 z175:=Tryz.sizeOf179
 v175:=Tryz.zeroValue179
 t210:=Tryz.underlying233
 a210:=Tryz.isAgg233
 z210:=Tryz.sizeOf233
 v210:=Tryz.zeroValue233
 t212:=Tryz.underlying274
 a212:=Tryz.isAgg274
 z212:=Tryz.sizeOf274
 v212:=Tryz.zeroValue274
 t213:=Tryz.underlying276
 a213:=Tryz.isAgg276
 z213:=Tryz.sizeOf276
 t232:=Tryz.underlying296
 a232:=Tryz.isAgg296
 z232:=Tryz.sizeOf296
 v232:=Tryz.zeroValue296
 t233:=Tryz.underlying297
 a233:=Tryz.isAgg297
 z233:=Tryz.sizeOf297
 v233:=Tryz.zeroValue297
 g15:=by kernel_rfl
 g16:=by kernel_rfl
 g17:=by kernel_rfl
 g18:=by kernel_rfl
 g19:=by kernel_rfl
 t80:=Tryz.underlying252
 a80:=Tryz.isAgg252
 z80:=Tryz.sizeOf252
 v80:=Tryz.zeroValue252
 i0:=by kernel_rfl
 i2:=by kernel_rfl
 i3:=by kernel_rfl
 i4:=by kernel_rfl
 i5:=by kernel_rfl
 i9:=by kernel_rfl
 i20:=by kernel_rfl
 i21:=by kernel_rfl
 i37:=by kernel_rfl
 i46:=by kernel_rfl
 i51:=by kernel_rfl
 i53:=by kernel_rfl
 i75:=by kernel_rfl
 i80:=by kernel_rfl
 i85:=by kernel_rfl
 i127:=by kernel_rfl
 i143:=by kernel_rfl
 i145:=by kernel_rfl
 i167:=by kernel_rfl
 i168:=by kernel_rfl
 i171:=by kernel_rfl
 i173:=by kernel_rfl
 i175:=by kernel_rfl
 i210:=by kernel_rfl
 i212:=by kernel_rfl
 i232:=by kernel_rfl
 i233:=by kernel_rfl
 m15:=by kernel_rfl
 m16:=by kernel_rfl
 m17:=by kernel_rfl
 m18:=by kernel_rfl
 m19:=by kernel_rfl
 c0:=by kernel_rfl
 c2:=by kernel_rfl
 c3:=by kernel_rfl
 c4:=by kernel_rfl
 c5:=by kernel_rfl
 c9:=by kernel_rfl
 c20:=by kernel_rfl
 c21:=by kernel_rfl
 c37:=by kernel_rfl
 c46:=by kernel_rfl
 c51:=by kernel_rfl
 c53:=by kernel_rfl
 c75:=by kernel_rfl
 c80:=by kernel_rfl
 c85:=by kernel_rfl
 c127:=by kernel_rfl
 c143:=by kernel_rfl
 c145:=by kernel_rfl
 c167:=by kernel_rfl
 c168:=by kernel_rfl
 c171:=by kernel_rfl
 c173:=by kernel_rfl
 c175:=by kernel_rfl
 c210:=by kernel_rfl
 c212:=by kernel_rfl
 c213:=by kernel_rfl
 c232:=by kernel_rfl
 c233:=by kernel_rfl }
theorem ziE {S:Frz} {w w':World} (hk:Below w.heap.size w w') (hs:S.sub w):zkC (zbP []) S S w w' :=
 ⟨⟨hk.os,hk.tape,hk.output,hk.size,λk hk' _=>hk.block k hk'⟩,Go.Sy.Grow.refl _ _ _,λb cs hb=>by
  obtain ⟨c,T,fr,h1,h2⟩:=hs b cs hb
  exact ⟨c,T,fr,by rw [hk.block b (Array.getElem?_eq_some_iff.1 h1).1];exact h1,h2⟩⟩
theorem zlM:∀ {a_s:Str} {zdR:Int} {zcK:Int} {r:Int × Er},zba a_s zdR zcK=some r->Ctr Tryz.prog 47 [isv (a_s),isv (zdR),isv (zcK)] [] (λR H=>R=ziQ [isv (r.1),isv (r.2)]/\H=[]):=by
 intro s b z r h
 unfold zba at h
 cases hc:(decide (b=10) && decide (z=64) && Nat.ble s.b.length 281474976710656) with
 | false=>rw [hc] at h;cases h
 | true =>
  rw [hc,zCt] at h
  rw [zBa,zBa] at hc
  have hb:=zOT hc.1.1
  have hz:=zOT hc.1.2
  have hln:=Nat.le_of_ble_eq_true hc.2
  subst hb;subst hz
  refine ⟨⟨_,Tryz.func47,rfl,by decide +kernel⟩,λS w vs hT hs hv ho=>?_⟩
  match vs,hv with
  | [v1,v2,v3],⟨hv1,hv2,hv3,_⟩ =>
   obtain ⟨rfl,hl⟩:=zdv.1 hv1
   obtain ⟨rfl,_⟩:=zah.1 hv2
   obtain ⟨rfl,_⟩:=zah.1 hv3
   have hsz:s.ba.size <= 281474976710656:=by rw [Str.ba_size];exact hln
   have ed:s.ba.data.toList=s.b:=rfl
   have hE:=(hT.tabs w hs).2
   have gs : Tryz.prog.globals.findIdx? (·.name == "strconv.ErrSyntax") = some (zsm.g 15) := by kernel_rfl
   have gr : Tryz.prog.globals.findIdx? (·.name == "strconv.ErrRange") = some (zsm.g 16) := by kernel_rfl
   cases hp:Lib.parseIntB 64 s.b with
   | ok v =>
    rw [hp] at h
    obtain rfl:=Option.some.inj h
    refine (Any.strconv_ParseInt_10_at64_ok zqe s.ba (by omega) v hp w).mono λe w' ⟨he,hw⟩=>?_
    have hk:Below w.heap.size w w':=by
     rcases hw with rfl | ⟨t,rfl⟩
     ·exact Below.refl _ _
     ·exact Lib.bytesWorld_below _ _ _
    have hv64:zc3 v:=zr5 hp
    exact ⟨_,S,_,[],⟨rfl,rfl⟩,he,⟨[.int .i64 v,.nilIface],rfl,zah.2 ⟨rfl,hv64⟩,⟨rfl,rfl⟩,trivial⟩,ziE hk hs,zff _ _ _ _⟩
   | range =>
    rw [hp] at h
    obtain rfl:=Option.some.inj h
    obtain ⟨ev,e1,e2⟩:=hE _ (.inr gr)
    refine (Any.strconv_ParseInt_10_at64_range zqe s.ba hsz hp ev w e1 e2).mono λe w' ⟨N,he,_,_,hk⟩=>?_
    exact ⟨_,S,_,[],⟨rfl,rfl⟩,he,⟨[.int .i64 _,.iface _ _],rfl,zah.2 ⟨rfl,zyx _⟩,⟨rfl,_,_,rfl⟩,trivial⟩,ziE hk hs,zff _ _ _ _⟩
   | _ =>
    rw [hp] at h
    obtain rfl:=Option.some.inj h
    obtain ⟨ev,e1,e2⟩:=hE _ (.inl gs)
    refine (Any.strconv_ParseInt_10_at64_syntax zqe s.ba hsz hp ev w e1 e2).mono λe w' ⟨N,he,_,_,hk⟩=>?_
    exact ⟨_,S,_,[],⟨rfl,rfl⟩,he,⟨[.int .i64 0,.iface _ _],rfl,zah.2 ⟨rfl,zk3 (by omega) (by omega)⟩,⟨rfl,_,_,rfl⟩,trivial⟩,ziE hk hs,zff _ _ _ _⟩
def zzz:Shelf.Ren:=⟨λx=>bif Nat.beq x 129 then 213 else bif Nat.beq x 173 then 125 else bif Nat.beq x 246 then 162 else bif Nat.beq x 283 then 189 else bif Nat.beq x 284 then 190 else bif Nat.beq x 285 then 191 else bif Nat.beq x 286 then 192 else bif Nat.beq x 317 then 212 else bif Nat.beq x 318 then 214 else bif Nat.beq x 319 then 215 else bif Nat.beq x 320 then 216 else bif Nat.beq x 337 then 231 else bif Nat.beq x 338 then 232 else x,λx=>bif Nat.beq x 0 then 0 else bif Nat.beq x 2 then 2 else bif Nat.beq x 3 then 3 else bif Nat.beq x 4 then 4 else bif Nat.beq x 5 then 5 else bif Nat.beq x 9 then 9 else bif Nat.beq x 20 then 20 else bif Nat.beq x 37 then 32 else bif Nat.beq x 46 then 55 else bif Nat.beq x 51 then 275 else bif Nat.beq x 53 then 178 else bif Nat.beq x 171 then 238 else bif Nat.beq x 173 then 241 else bif Nat.beq x 212 then 274 else bif Nat.beq x 213 then 276 else bif Nat.beq x 232 then 296 else bif Nat.beq x 233 then 297 else x,λx=>bif Nat.beq x 17 then 4 else bif Nat.beq x 18 then 6 else bif Nat.beq x 19 then 7 else x⟩
set_option maxRecDepth 100000 in
theorem zxn:LaysM.n173 Tryz.prog zzz:={
 mixed:=by kernel_rfl
 f129:=Tryz.func213.trans (by kernel_rfl)
 f173:=Tryz.func125.trans (by kernel_rfl)
 f246:=Tryz.func162.trans (by kernel_rfl)
 f283:=Tryz.func189.trans (by kernel_rfl)
 f284:=Tryz.func190.trans (by kernel_rfl)
 f285:=Tryz.func191.trans (by kernel_rfl)
 f286:=Tryz.func192.trans (by kernel_rfl)
 f317:=Tryz.func212.trans (by kernel_rfl)
 f318:=Tryz.func214.trans (by kernel_rfl)
 f319:=Tryz.func215.trans (by kernel_rfl)
 f320:=Tryz.func216.trans (by kernel_rfl)
 f337:=Tryz.func231.trans (by kernel_rfl)
 f338:=Tryz.func232.trans (by kernel_rfl)
 t0:=Tryz.underlying0
 a0:=Tryz.isAgg0
 z0:=Tryz.sizeOf0
 v0:=Tryz.zeroValue0
 t2:=Tryz.underlying2
 a2:=Tryz.isAgg2
 z2:=Tryz.sizeOf2
 v2:=Tryz.zeroValue2
 t3:=Tryz.underlying3
 a3:=Tryz.isAgg3
 z3:=Tryz.sizeOf3
 v3:=Tryz.zeroValue3
 t4:=Tryz.underlying4
 a4:=Tryz.isAgg4
 z4:=Tryz.sizeOf4
 v4:=Tryz.zeroValue4
 t5:=Tryz.underlying5
 a5:=Tryz.isAgg5
 z5:=Tryz.sizeOf5
 v5:=Tryz.zeroValue5
 t9:=Tryz.underlying9
 a9:=Tryz.isAgg9
 z9:=Tryz.sizeOf9
 v9:=Tryz.zeroValue9
 t20:=Tryz.underlying20
 a20:=Tryz.isAgg20
 z20:=Tryz.sizeOf20
 v20:=Tryz.zeroValue20
 t37:=Tryz.underlying32
 a37:=Tryz.isAgg32
 z37:=Tryz.sizeOf32
 v37:=Tryz.zeroValue32
 t46:=Tryz.underlying55
 a46:=Tryz.isAgg55
 z46:=Tryz.sizeOf55
 v46:=Tryz.zeroValue55
 t51:=Tryz.underlying275
 a51:=Tryz.isAgg275
 z51:=Tryz.sizeOf275
 v51:=Tryz.zeroValue275
 t53:=Tryz.underlying178
 a53:=Tryz.isAgg178
 z53:=Tryz.sizeOf178
 v53:=Tryz.zeroValue178
 t171:=Tryz.underlying238
 a171:=Tryz.isAgg238
 z171:=Tryz.sizeOf238
 v171:=Tryz.zeroValue238
 t173:=Tryz.underlying241
 a173:=Tryz.isAgg241
 z173:=Tryz.sizeOf241
 v173:=Tryz.zeroValue241
 t212:=Tryz.underlying274
 a212:=Tryz.isAgg274
 z212:=Tryz.sizeOf274
 v212:=Tryz.zeroValue274
 t213:=Tryz.underlying276
 a213:=Tryz.isAgg276
 z213:=Tryz.sizeOf276
 t232:=Tryz.underlying296
 a232:=Tryz.isAgg296
 z232:=Tryz.sizeOf296
 v232:=Tryz.zeroValue296
 t233:=Tryz.underlying297
 a233:=Tryz.isAgg297
 z233:=Tryz.sizeOf297
 v233:=Tryz.zeroValue297
 g17:=by kernel_rfl
 g18:=by kernel_rfl
 g19:=by kernel_rfl
 i0:=by kernel_rfl
 i2:=by kernel_rfl
 i3:=by kernel_rfl
 i4:=by kernel_rfl
 i5:=by kernel_rfl
 i9:=by kernel_rfl
 i20:=by kernel_rfl
 i37:=by kernel_rfl
 i46:=by kernel_rfl
 i51:=by kernel_rfl
 i53:=by kernel_rfl
 i171:=by kernel_rfl
 i173:=by kernel_rfl
 i212:=by kernel_rfl
 i232:=by kernel_rfl
 i233:=by kernel_rfl
 m17:=by kernel_rfl
 m18:=by kernel_rfl
 m19:=by kernel_rfl }
def zsW:Shelf.Ren:=⟨λx=>bif Nat.beq x 138 then 193 else bif Nat.beq x 143 then 195 else bif Nat.beq x 154 then 163 else bif Nat.beq x 155 then 127 else bif Nat.beq x 165 then 194 else bif Nat.beq x 166 then 196 else bif Nat.beq x 169 then 198 else bif Nat.beq x 195 then 217 else bif Nat.beq x 197 then 197 else bif Nat.beq x 217 then 235 else bif Nat.beq x 218 then 218 else bif Nat.beq x 219 then 221 else bif Nat.beq x 224 then 237 else bif Nat.beq x 225 then 236 else bif Nat.beq x 240 then 219 else bif Nat.beq x 241 then 220 else bif Nat.beq x 260 then 222 else bif Nat.beq x 266 then 242 else bif Nat.beq x 267 then 238 else bif Nat.beq x 276 then 233 else bif Nat.beq x 277 then 234 else bif Nat.beq x 314 then 243 else x,λx=>bif Nat.beq x 0 then 0 else bif Nat.beq x 3 then 3 else bif Nat.beq x 4 then 4 else bif Nat.beq x 5 then 5 else bif Nat.beq x 9 then 9 else bif Nat.beq x 20 then 20 else bif Nat.beq x 21 then 21 else bif Nat.beq x 37 then 32 else bif Nat.beq x 46 then 55 else bif Nat.beq x 51 then 275 else bif Nat.beq x 70 then 244 else bif Nat.beq x 72 then 246 else bif Nat.beq x 75 then 120 else bif Nat.beq x 76 then 248 else bif Nat.beq x 80 then 252 else bif Nat.beq x 105 then 250 else bif Nat.beq x 119 then 198 else bif Nat.beq x 127 then 261 else bif Nat.beq x 138 then 200 else bif Nat.beq x 139 then 201 else bif Nat.beq x 146 then 298 else bif Nat.beq x 164 then 292 else x,λx=>bif Nat.beq x 1 then 5 else bif Nat.beq x 3 then 0 else bif Nat.beq x 4 then 1 else x⟩
set_option maxRecDepth 100000 in
theorem zxO:Lays.n155 Tryz.prog zsW:={
 mixed:=by kernel_rfl
 f138:=Tryz.func193.trans (by kernel_rfl)
 f143:=Tryz.func195.trans (by kernel_rfl)
 f154:=Tryz.func163.trans (by kernel_rfl)
 f155:=Tryz.func127.trans (by kernel_rfl)
 f165:=Tryz.func194.trans (by kernel_rfl)
 f166:=Tryz.func196.trans (by kernel_rfl)
 f169:=Tryz.func198.trans (by kernel_rfl)
 f195:=Tryz.func217.trans (by kernel_rfl)
 f197:=Tryz.func197.trans (by kernel_rfl)
 f217:=Tryz.func235.trans (by kernel_rfl)
 f218:=Tryz.func218.trans (by kernel_rfl)
 f219:=Tryz.func221.trans (by kernel_rfl)
 f224:=Tryz.func237.trans (by kernel_rfl)
 f225:=Tryz.func236.trans (by kernel_rfl)
 f240:=Tryz.func219.trans (by kernel_rfl)
 f241:=Tryz.func220.trans (by kernel_rfl)
 f260:=Tryz.func222.trans (by kernel_rfl)
 f266:=Tryz.func242.trans (by kernel_rfl)
 f267:=Tryz.func238.trans (by kernel_rfl)
 f276:=Tryz.func233.trans (by kernel_rfl)
 f277:=Tryz.func234.trans (by kernel_rfl)
 f314:=Tryz.func243.trans (by kernel_rfl)
 t0:=Tryz.underlying0
 a0:=Tryz.isAgg0
 z0:=Tryz.sizeOf0
 v0:=Tryz.zeroValue0
 t3:=Tryz.underlying3
 a3:=Tryz.isAgg3
 z3:=Tryz.sizeOf3
 v3:=Tryz.zeroValue3
 t4:=Tryz.underlying4
 a4:=Tryz.isAgg4
 z4:=Tryz.sizeOf4
 v4:=Tryz.zeroValue4
 t5:=Tryz.underlying5
 a5:=Tryz.isAgg5
 z5:=Tryz.sizeOf5
 v5:=Tryz.zeroValue5
 t9:=Tryz.underlying9
 a9:=Tryz.isAgg9
 z9:=Tryz.sizeOf9
 v9:=Tryz.zeroValue9
 t20:=Tryz.underlying20
 a20:=Tryz.isAgg20
 z20:=Tryz.sizeOf20
 v20:=Tryz.zeroValue20
 t21:=Tryz.underlying21
 a21:=Tryz.isAgg21
 z21:=Tryz.sizeOf21
 v21:=Tryz.zeroValue21
 t37:=Tryz.underlying32
 a37:=Tryz.isAgg32
 z37:=Tryz.sizeOf32
 v37:=Tryz.zeroValue32
 t46:=Tryz.underlying55
 a46:=Tryz.isAgg55
 z46:=Tryz.sizeOf55
 v46:=Tryz.zeroValue55
 t51:=Tryz.underlying275
 a51:=Tryz.isAgg275
 z51:=Tryz.sizeOf275
 v51:=Tryz.zeroValue275
 t70:=Tryz.underlying244
 a70:=Tryz.isAgg244
 z70:=Tryz.sizeOf244
 v70:=Tryz.zeroValue244
 t72:=Tryz.underlying246
 a72:=Tryz.isAgg246
 z72:=Tryz.sizeOf246
 v72:=Tryz.zeroValue246
 t75:=Tryz.underlying120
 a75:=Tryz.isAgg120
 z75:=Tryz.sizeOf120
 v75:=Tryz.zeroValue120
 t76:=Tryz.underlying248
 a76:=Tryz.isAgg248
 z76:=Tryz.sizeOf248
 v76:=Tryz.zeroValue248
 t105:=Tryz.underlying250
 a105:=Tryz.isAgg250
 z105:=Tryz.sizeOf250
 v105:=Tryz.zeroValue250
 t119:=Tryz.underlying198
 a119:=Tryz.isAgg198
 z119:=Tryz.sizeOf198
 t127:=Tryz.underlying261
 a127:=Tryz.isAgg261
 z127:=Tryz.sizeOf261
 v127:=Tryz.zeroValue261
 t138:=Tryz.underlying200
 a138:=Tryz.isAgg200
 z138:=Tryz.sizeOf200
 v138:=Tryz.zeroValue200
 t139:=Tryz.underlying201
 a139:=Tryz.isAgg201
 z139:=Tryz.sizeOf201
 v139:=Tryz.zeroValue201
 t146:=Tryz.underlying298
 a146:=Tryz.isAgg298
 z146:=Tryz.sizeOf298
 v146:=Tryz.zeroValue298
 t164:=Tryz.underlying292
 a164:=Tryz.isAgg292
 z164:=Tryz.sizeOf292
 v164:=Tryz.zeroValue292
 g1:=by kernel_rfl
 g3:=by kernel_rfl
 g4:=by kernel_rfl }
set_option maxRecDepth 100000 in
theorem repX:Builder.Extra Tryz.prog zsW:={
 sizeBuilder:=by kernel_rfl
 liesBuilder:=by kernel_rfl
 t5:=Tryz.underlying5
 a5:=Tryz.isAgg5
 z5:=Tryz.sizeOf5
 v5:=Tryz.zeroValue5
 infoByte:=by kernel_rfl
 cellsByte:=by kernel_rfl
 sizeByte:=by kernel_rfl
 neB5:=by decide }
theorem zll:∀ {a_i:Int} {zdR:Int} {r:Str},zdJ a_i zdR=some r->Ctr Tryz.prog 125 [isv (a_i),isv (zdR)] [] (λR H=>R=ziQ [isv (r)]/\H=[]):=by
 intro n b r h
 unfold zdJ at h
 cases hc:(decide (b=10) && Nat.ble (Lib.itoa n).length 100) with
 | false=>rw [hc] at h;cases h
 | true =>
  rw [hc,zCt] at h
  obtain rfl:=Option.some.inj h
  rw [zBa] at hc
  have hb:=zOT hc.1
  have hln:=Nat.le_of_ble_eq_true hc.2
  subst hb
  refine ⟨⟨_,Tryz.func125,rfl,by decide +kernel⟩,λS w vs hT hs hv ho=>?_⟩
  match vs,hv with
  | [v1,v2],⟨hv1,hv2,_⟩ =>
   obtain ⟨rfl,hn⟩:=zah.1 hv1
   obtain ⟨rfl,_⟩:=zah.1 hv2
   have htab : Lib.TabIs Tryz.prog w "internal/strconv.uint64pow10" .u64 Lib.pow10Tab := by
    have:=hT.glob.pow (by kernel_rfl)
    unfold Lib.TabIs
    rw [this]
    unfold zpJ Lib.pow10Tab
    rw [List.map_map]
    rfl
   unfold zc3 at hn
   refine (Any.strconv_FormatInt_10 zxn n (by omega) (by omega) w htab).mono λe w' ⟨he,k,os,hw⟩=>?_
   subst hw
   have hml:zhG=4611686018427387904:=rfl
   exact ⟨_,S,_,[],⟨rfl,rfl⟩,he,zdv.2 ⟨rfl,by show (Lib.itoa n).length <= _;omega⟩,ziE (Lib.below_grow _ _ (zNl _) _ _) hs,zff _ _ _ _⟩
theorem zkL:∀ {a_s:Str} {zq8:Str} {zq2:Str} {r:Str},strings_ReplaceAll a_s zq8 zq2=some r->Ctr Tryz.prog 127 [isv (a_s),isv (zq8),isv (zq2)] [] (λR H=>R=ziQ [isv (r)]/\H=[]):=by
 intro s o n r h
 unfold strings_ReplaceAll at h
 cases hc:(Nat.ble s.b.length 1000000 && Nat.ble 1 o.b.length && Nat.ble (s.b.length + Lib.count s.b o.b * n.b.length) 140737488355328 && Nat.ble (Lib.replaceAll s.b o.b n.b).length 4294967296) with
 | false=>rw [hc] at h;cases h
 | true =>
  rw [hc,zCt] at h
  obtain rfl:=Option.some.inj h
  rw [zBa,zBa,zBa] at hc
  have h1:=Nat.le_of_ble_eq_true hc.1.1.1
  have h2:=Nat.le_of_ble_eq_true hc.1.1.2
  have h3:=Nat.le_of_ble_eq_true hc.1.2
  have h4:=Nat.le_of_ble_eq_true hc.2
  refine ⟨⟨_,Tryz.func127,rfl,by decide +kernel⟩,λS w vs hT hs hv ho=>?_⟩
  match vs,hv with
  | [v1,v2,v3],⟨hv1,hv2,hv3,_⟩ =>
   obtain ⟨rfl,_⟩:=zdv.1 hv1
   obtain ⟨rfl,_⟩:=zdv.1 hv2
   obtain ⟨rfl,_⟩:=zdv.1 hv3
   obtain ⟨m,hm⟩:=hT.glob.most (zsW.g 1) (by kernel_rfl)
   have e1:s.ba.size=s.b.length:=Str.ba_size s
   have e2:o.ba.size=o.b.length:=Str.ba_size o
   have e3:n.ba.size=n.b.length:=Str.ba_size n
   refine (Any.strings_ReplaceAll zxO repX s.ba o.ba n.ba m w (by omega) hm (by omega) (by rw [e1,e3];exact h3)).mono λe w' ⟨he,hw⟩=>?_
   have hml:zhG=4611686018427387904:=rfl
   exact ⟨_,S,_,[],⟨rfl,rfl⟩,he,zdv.2 ⟨rfl,by show (Lib.replaceAll s.b o.b n.b).length <= _;omega⟩,ziE hw hs,zff _ _ _ _⟩
end Go.Proofs.Q
namespace Go.Proofs.Q
open Go.Sy
def zzh:Shelf.Ren:=⟨λx=>bif Nat.beq x 196 then 161 else bif Nat.beq x 259 then 188 else x,λx=>bif Nat.beq x 0 then 0 else bif Nat.beq x 3 then 3 else bif Nat.beq x 4 then 4 else bif Nat.beq x 5 then 5 else bif Nat.beq x 9 then 9 else bif Nat.beq x 12 then 12 else bif Nat.beq x 46 then 55 else bif Nat.beq x 53 then 178 else bif Nat.beq x 119 then 198 else bif Nat.beq x 138 then 200 else bif Nat.beq x 139 then 201 else x,λx=>bif Nat.beq x 3 then 0 else bif Nat.beq x 4 then 1 else x⟩
set_option maxRecDepth 100000 in
theorem zlc:Lays.n196 Tryz.prog zzh:={
 mixed:=by kernel_rfl
 f196:=Tryz.func161.trans (by kernel_rfl)
 f259:=Tryz.func188.trans (by kernel_rfl)
 t0:=Tryz.underlying0
 a0:=Tryz.isAgg0
 z0:=Tryz.sizeOf0
 v0:=Tryz.zeroValue0
 t3:=Tryz.underlying3
 a3:=Tryz.isAgg3
 z3:=Tryz.sizeOf3
 v3:=Tryz.zeroValue3
 t4:=Tryz.underlying4
 a4:=Tryz.isAgg4
 z4:=Tryz.sizeOf4
 v4:=Tryz.zeroValue4
 t5:=Tryz.underlying5
 a5:=Tryz.isAgg5
 z5:=Tryz.sizeOf5
 v5:=Tryz.zeroValue5
 t9:=Tryz.underlying9
 a9:=Tryz.isAgg9
 z9:=Tryz.sizeOf9
 v9:=Tryz.zeroValue9
 t12:=Tryz.underlying12
 a12:=Tryz.isAgg12
 z12:=Tryz.sizeOf12
 v12:=Tryz.zeroValue12
 t46:=Tryz.underlying55
 a46:=Tryz.isAgg55
 z46:=Tryz.sizeOf55
 v46:=Tryz.zeroValue55
 t53:=Tryz.underlying178
 a53:=Tryz.isAgg178
 z53:=Tryz.sizeOf178
 v53:=Tryz.zeroValue178
 t119:=Tryz.underlying198
 a119:=Tryz.isAgg198
 z119:=Tryz.sizeOf198
 t138:=Tryz.underlying200
 a138:=Tryz.isAgg200
 z138:=Tryz.sizeOf200
 v138:=Tryz.zeroValue200
 t139:=Tryz.underlying201
 a139:=Tryz.isAgg201
 z139:=Tryz.sizeOf201
 v139:=Tryz.zeroValue201
 g3:=by kernel_rfl
 g4:=by kernel_rfl }
theorem zlG:∀ {a_s:Str} {r:Bool},utf8_ValidString a_s=some r->Ctr Tryz.prog 161 [isv (a_s)] [] (λR H=>R=ziQ [isv (r)]/\H=[]):=by
 intro s r h
 obtain rfl:=Option.some.inj h
 refine ⟨⟨_,Tryz.func161,rfl,by decide +kernel⟩,λS w vs hT hs hv ho=>?_⟩
 match vs,hv with
 | [v],⟨hv,_⟩ =>
  obtain ⟨rfl,hl⟩:=zdv.1 hv
  have hb:=Any.utf8_ValidString zlc s.ba w (by rw [Str.ba_size];unfold zhG at hl;omega) ((hT.tabs w hs).1 _ _ zlc.g3 zlc.g4)
  refine hb.mono λe w' ⟨he,hk⟩=>⟨.bool (Lib.validD s.ba.data.toList),S,_,[],⟨rfl,rfl⟩,he,?_,⟨⟨hk.os,hk.tape,hk.output,hk.size,λk hk' _=>hk.block k hk'⟩,Go.Sy.Grow.refl _ _ _,λb cs hb=>?_⟩,zff _ _ _ _⟩
  ·refine zbO.2 ?_
   show Value.bool (Lib.validD s.b.toArray.toList)=_
   rfl
  ·obtain ⟨c,T,fr,h1,h2⟩:=hs b cs hb
   exact ⟨c,T,fr,by rw [hk.block b (Array.getElem?_eq_some_iff.1 h1).1];exact h1,h2⟩
abbrev zc8:Type:=(List zS) × Int × (Str × Int × (zaa Str) × (zaa Int) × Vh) × Int × Int
abbrev zbN (x:zA) (t0:Tok) (t1:Tok) (t2:Vt):zc8:=(x.l,x.at_,(x.m.name,x.m.tagging,⟨t0,x.m.names⟩,⟨t1,x.m.types⟩,⟨t2,x.m.nodes.length⟩),x.e,x.p)
abbrev zcH:Type:=Int × Str × zcP × zbx × (zaa zai) × (zaa zaF) × Int × Bool × Int
abbrev zfG (x:zh) (t0:Tok) (t1:Tok):zcH:=(x.kind,x.name,x.mark,x.con,⟨t0,x.items⟩,⟨t1,x.fields⟩,x.root,x.more,x.of)
@[reducible] def zwa:Fld zc8 (List zS):=pf0
@[reducible] def zvm:Fld zc8 Int:=pf1
@[reducible] def zww:Fld zc8 Int:=pf3
@[reducible] def zvM:Fld zc8 Int:=pl4
@[reducible] def zrl:Fld zc8 (Str × Int × (zaa Str) × (zaa Int) × Vh):=pf2
@[reducible] def zvg:Fld (Str × Int × (zaa Str) × (zaa Int) × Vh) Str:=pf0
@[reducible] def zu0:Fld (Str × Int × (zaa Str) × (zaa Int) × Vh) Int:=pf1
@[reducible] def zvj:Fld (Str × Int × (zaa Str) × (zaa Int) × Vh) (zaa Str):=pf2
@[reducible] def zwt:Fld (Str × Int × (zaa Str) × (zaa Int) × Vh) Vh:=pl4
@[reducible] def zt7:Fld zcH zcP:=pf2
@[reducible] def zud:Fld zcH Int:=pf0
@[reducible] def zuI:Fld zcH zbx:=pf3
@[reducible] def zuU:Fld zcH (zaa zai):=pf4
@[reducible] def zub:Fld zcH Bool:=pf7
@[reducible] def zt6:Fld zcH Int:=pf6
@[reducible] def zuG:Fld zcH (zaa zaF):=pf5
@[reducible] def zuT:Fld zcH Int:=pl8
@[reducible] def zuw:Fld zcH Str:=pf1
@[reducible] def zvv:Fld (Str × Int × (zaa Str) × (zaa Int) × Vh) (zaa Int):=pf3
@[reducible] def zrT:Fld ((List zS) × Int × (Str × Int × (zaa Str) × (zaa Int) × (List zh)) × Int × Int) (Str × Int × (zaa Str) × (zaa Int) × (List zh)):=pf2
instance:zeA Tryz.prog 50 zaA (zaA.mk (Str.mk []) (0:Int) ([]:(List Str)) ([]:(List Int)) ([]:(List zh))):=⟨zbl (cs:=[.string ⟨#[]⟩,.int .i64 0,.slice none 0 0,.slice none 0 0,.slice none 0 0]) rfl (by kernel_rfl) (zn zeX (zn zaT (zn zaI (zn zaI zaI))))⟩
instance:zaX Tryz.prog 67 2 zS Int zS.f2:=⟨by kernel_rfl⟩
instance:zeA Tryz.prog 67 zS (zS.mk (0:Int) (Str.mk []) (0:Int)):=⟨zbl (cs:=[.int .i64 0,.string ⟨#[]⟩,.int .i64 0]) rfl (by kernel_rfl) (zn zaT (zn zeX zaT))⟩
instance:zaX Tryz.prog 67 0 zS Int zS.f0:=⟨by kernel_rfl⟩
instance:zaX Tryz.prog 67 1 zS Str zS.f1:=⟨by kernel_rfl⟩
instance:zaX Tryz.prog 91 0 zc8 (List zS) zwa:=⟨by kernel_rfl⟩
instance:zkr Tryz.prog 91 zc8 (([]:(List zS)),(0:Int),((Str.mk []),(0:Int),(zaa.mk none ([]:(List Str))),(zaa.mk none ([]:(List Int))),(Vh.mk none 0)),(0:Int),(0:Int)):=⟨zbl (cs:=[.slice none 0 0,.int .i64 0,.string ⟨#[]⟩,.int .i64 0,.slice none 0 0,.slice none 0 0,.slice none 0 0,.int .i64 0,.int .i64 0]) rfl (by kernel_rfl) (zn zaI (zn zaT (zn (zn zeX (zn zaT (zn zoG (zn zoG zrC)))) (zn zaT zaT))))⟩
instance:zaX Tryz.prog 91 1 zc8 Int zvm:=⟨by kernel_rfl⟩
instance:zaX Tryz.prog 91 3 zc8 Int zww:=⟨by kernel_rfl⟩
instance:zaX Tryz.prog 91 4 zc8 Int zvM:=⟨by kernel_rfl⟩
instance:zaX Tryz.prog 91 2 zc8 (Str × Int × (zaa Str) × (zaa Int) × Vh) zrl:=⟨by kernel_rfl⟩
instance:zaX Tryz.prog 50 0 zaA Str zaA.f0:=⟨by kernel_rfl⟩
instance:zaX Tryz.prog 50 0 (Str × Int × (zaa Str) × (zaa Int) × Vh) Str zvg:=⟨by kernel_rfl⟩
instance:zaX Tryz.prog 50 1 zaA Int zaA.f1:=⟨by kernel_rfl⟩
instance:zaX Tryz.prog 50 1 (Str × Int × (zaa Str) × (zaa Int) × Vh) Int zu0:=⟨by kernel_rfl⟩
instance:zaX Tryz.prog 50 2 zaA (List Str) zaA.f2:=⟨by kernel_rfl⟩
instance:zaX Tryz.prog 50 2 (Str × Int × (zaa Str) × (zaa Int) × Vh) (zaa Str) zvj:=⟨by kernel_rfl⟩
instance:zaX Tryz.prog 50 4 zaA (List zh) zaA.f4:=⟨by kernel_rfl⟩
instance:zaX Tryz.prog 50 4 (Str × Int × (zaa Str) × (zaa Int) × Vh) Vh zwt:=⟨by kernel_rfl⟩
instance:zeA Tryz.prog 161 zh (zh.mk (0:Int) (Str.mk []) (zcP.mk false (0:Int) (0:Int)) (zbx.mk false false false false (0:Int) (0:Int)) ([]:(List zai)) ([]:(List zaF)) (0:Int) false (0:Int)):=⟨zbl (cs:=[.int .i64 0,.string ⟨#[]⟩,.bool false,.int .i64 0,.int .i64 0,.bool false,.bool false,.bool false,.bool false,.int .i64 0,.int .i64 0,.slice none 0 0,.slice none 0 0,.int .i64 0,.bool false,.int .i64 0]) rfl (by kernel_rfl) (zn zaT (zn zeX (zn (zn zci (zn zaT zaT)) (zn (zn zci (zn zci (zn zci (zn zci (zn zaT zaT))))) (zn zaI (zn zaI (zn zaT (zn zci zaT))))))))⟩
instance:zkr Tryz.prog 161 zcH ((0:Int),(Str.mk []),(zcP.mk false (0:Int) (0:Int)),(zbx.mk false false false false (0:Int) (0:Int)),(zaa.mk none ([]:(List zai))),(zaa.mk none ([]:(List zaF))),(0:Int),false,(0:Int)):=⟨zbl (cs:=[.int .i64 0,.string ⟨#[]⟩,.bool false,.int .i64 0,.int .i64 0,.bool false,.bool false,.bool false,.bool false,.int .i64 0,.int .i64 0,.slice none 0 0,.slice none 0 0,.int .i64 0,.bool false,.int .i64 0]) rfl (by kernel_rfl) (zn zaT (zn zeX (zn (zn zci (zn zaT zaT)) (zn (zn zci (zn zci (zn zci (zn zci (zn zaT zaT))))) (zn zoG (zn zoG (zn zaT (zn zci zaT))))))))⟩
instance:zaX Tryz.prog 159 1 zcP Int zcP.f1:=⟨by kernel_rfl⟩
instance:zaX Tryz.prog 159 0 zcP Bool zcP.f0:=⟨by kernel_rfl⟩
instance:zeA Tryz.prog 159 zcP (zcP.mk false (0:Int) (0:Int)):=⟨zbl (cs:=[.bool false,.int .i64 0,.int .i64 0]) rfl (by kernel_rfl) (zn zci (zn zaT zaT))⟩
instance:zaX Tryz.prog 161 2 zh zcP zh.f2:=⟨by kernel_rfl⟩
instance:zaX Tryz.prog 161 2 zcH zcP zt7:=⟨by kernel_rfl⟩
instance:zaX Tryz.prog 159 2 zcP Int zcP.f2:=⟨by kernel_rfl⟩
instance:zaX Tryz.prog 161 0 zh Int zh.f0:=⟨by kernel_rfl⟩
instance:zaX Tryz.prog 161 0 zcH Int zud:=⟨by kernel_rfl⟩
instance:zeA Tryz.prog 112 zbx (zbx.mk false false false false (0:Int) (0:Int)):=⟨zbl (cs:=[.bool false,.bool false,.bool false,.bool false,.int .i64 0,.int .i64 0]) rfl (by kernel_rfl) (zn zci (zn zci (zn zci (zn zci (zn zaT zaT)))))⟩
instance:zaX Tryz.prog 112 0 zbx Bool zbx.f0:=⟨by kernel_rfl⟩
instance:zaX Tryz.prog 112 1 zbx Bool zbx.f1:=⟨by kernel_rfl⟩
instance:zaX Tryz.prog 112 4 zbx Int zbx.f4:=⟨by kernel_rfl⟩
instance:zaX Tryz.prog 112 2 zbx Bool zbx.f2:=⟨by kernel_rfl⟩
instance:zaX Tryz.prog 112 5 zbx Int zbx.f5:=⟨by kernel_rfl⟩
instance:zaX Tryz.prog 112 3 zbx Bool zbx.f3:=⟨by kernel_rfl⟩
instance:zaX Tryz.prog 161 3 zh zbx zh.f3:=⟨by kernel_rfl⟩
instance:zaX Tryz.prog 161 3 zcH zbx zuI:=⟨by kernel_rfl⟩
instance:zaX Tryz.prog 161 4 zh (List zai) zh.f4:=⟨by kernel_rfl⟩
instance:zaX Tryz.prog 161 4 zcH (zaa zai) zuU:=⟨by kernel_rfl⟩
instance:zaX Tryz.prog 161 7 zh Bool zh.f7:=⟨by kernel_rfl⟩
instance:zaX Tryz.prog 161 7 zcH Bool zub:=⟨by kernel_rfl⟩
instance:zaX Tryz.prog 161 6 zh Int zh.f6:=⟨by kernel_rfl⟩
instance:zaX Tryz.prog 161 6 zcH Int zt6:=⟨by kernel_rfl⟩
instance:zaX Tryz.prog 149 0 zai Str zai.f0:=⟨by kernel_rfl⟩
instance:zeA Tryz.prog 149 zai (zai.mk (Str.mk []) (0:Int) false):=⟨zbl (cs:=[.string ⟨#[]⟩,.int .i64 0,.bool false]) rfl (by kernel_rfl) (zn zeX (zn zaT zci))⟩
instance:zaX Tryz.prog 149 2 zai Bool zai.f2:=⟨by kernel_rfl⟩
instance:zaX Tryz.prog 149 1 zai Int zai.f1:=⟨by kernel_rfl⟩
instance:zaX Tryz.prog 161 5 zh (List zaF) zh.f5:=⟨by kernel_rfl⟩
instance:zaX Tryz.prog 161 5 zcH (zaa zaF) zuG:=⟨by kernel_rfl⟩
instance:zaX Tryz.prog 129 5 zaF Int zaF.f5:=⟨by kernel_rfl⟩
instance:zaX Tryz.prog 129 0 zaF Str zaF.f0:=⟨by kernel_rfl⟩
instance:zeA Tryz.prog 129 zaF (zaF.mk (Str.mk []) (0:Int) false false (Val.mk (0:Int) (0:Int) ([]:(List UInt8)) ([]:(List Val)) (0:Int) ([]:(List Raw))) (0:Int)):=⟨zbl (cs:=[.string ⟨#[]⟩,.int .i64 0,.bool false,.bool false,.int .i64 0,.int .i64 0,.slice none 0 0,.slice none 0 0,.int .i64 0,.slice none 0 0,.int .i64 0]) rfl (by kernel_rfl) (zn zeX (zn zaT (zn zci (zn zci (zn zss zaT)))))⟩
instance:zaX Tryz.prog 129 1 zaF Int zaF.f1:=⟨by kernel_rfl⟩
instance:zaX Tryz.prog 129 2 zaF Bool zaF.f2:=⟨by kernel_rfl⟩
instance:zeA Tryz.prog 36 Val (Val.mk (0:Int) (0:Int) ([]:(List UInt8)) ([]:(List Val)) (0:Int) ([]:(List Raw))):=⟨zbl (cs:=[.int .i64 0,.int .i64 0,.slice none 0 0,.slice none 0 0,.int .i64 0,.slice none 0 0]) rfl (by kernel_rfl) zss⟩
instance:zaX Tryz.prog 36 1 Val Int Val.f1:=⟨by kernel_rfl⟩
instance:zaX Tryz.prog 36 0 Val Int Val.f0:=⟨by kernel_rfl⟩
instance:zaX Tryz.prog 36 2 Val (List UInt8) Val.f2:=⟨by kernel_rfl⟩
instance:zaX Tryz.prog 129 3 zaF Bool zaF.f3:=⟨by kernel_rfl⟩
instance:zaX Tryz.prog 129 4 zaF Val zaF.f4:=⟨by kernel_rfl⟩
instance:zaX Tryz.prog 161 8 zh Int zh.f8:=⟨by kernel_rfl⟩
instance:zaX Tryz.prog 161 8 zcH Int zuT:=⟨by kernel_rfl⟩
instance:zaX Tryz.prog 161 1 zh Str zh.f1:=⟨by kernel_rfl⟩
instance:zaX Tryz.prog 161 1 zcH Str zuw:=⟨by kernel_rfl⟩
instance:zaX Tryz.prog 50 3 zaA (List Int) zaA.f3:=⟨by kernel_rfl⟩
instance:zaX Tryz.prog 50 3 (Str × Int × (zaa Str) × (zaa Int) × Vh) (zaa Int) zvv:=⟨by kernel_rfl⟩
instance:zaX Tryz.prog 91 2 ((List zS) × Int × (Str × Int × (zaa Str) × (zaa Int) × (List zh)) × Int × Int) (Str × Int × (zaa Str) × (zaa Int) × (List zh)) zrT:=⟨by kernel_rfl⟩
instance:UnC Tryz.prog 2 (.int .i64):=⟨Tryz.underlying2⟩
instance:UnC Tryz.prog 5 (.int .u8):=⟨Tryz.underlying5⟩
instance:UnC Tryz.prog 9 .string:=⟨Tryz.underlying9⟩
instance:UnC Tryz.prog 32 (.slice 5):=⟨Tryz.underlying32⟩
instance:UnC Tryz.prog 178 (.int .u64):=⟨Tryz.underlying178⟩
instance utf8_ValidString_g a_s:zd Tryz.prog 161 (utf8_ValidString a_s) (.mk [isv a_s] [] λr=>.mk [isv r] []):=⟨λr h=>by
 exact zlG h⟩
instance {x:zh} {t0:Tok} {t1:Tok}:CvC ((x.kind,x.name,x.mark,x.con,(zaa.mk t0 x.items),(zaa.mk t1 x.fields),x.root,x.more,x.of):zcH) zh x:=⟨(Cv.isv rfl λS=>(λcs h=>zh.cv (x:=x) cs (((Cv.pair Cv.id (Cv.pair Cv.id (Cv.pair Cv.id (Cv.pair Cv.id (Cv.pair Cv.tl (Cv.pair Cv.tl (Cv.pair Cv.id (Cv.pair Cv.id Cv.id)))))))):Cv S ((x.kind,x.name,x.mark,x.con,(zaa.mk t0 x.items),(zaa.mk t1 x.fields),x.root,x.more,x.of):zcH) (zh.to x)) cs h)))⟩
instance {x:zA} {tt:Vt} {t0:Tok} {t1:Tok}:CvF tt x.m.nodes ((x.l,x.at_,(x.m.name,x.m.tagging,(zaa.mk t0 x.m.names),(zaa.mk t1 x.m.types),Vh.mk tt x.m.nodes.length),x.e,x.p):zc8) ((Fld.id (zc8)).comp zrl) _ _ ((x.l,x.at_,(x.m.name,x.m.tagging,(zaa.mk t0 x.m.names),(zaa.mk t1 x.m.types),x.m.nodes),x.e,x.p):((List zS) × Int × (Str × Int × (zaa Str) × (zaa Int) × (List zh)) × Int × Int)) ((Fld.id (((List zS) × Int × (Str × Int × (zaa Str) × (zaa Int) × (List zh)) × Int × Int))).comp zrT):=⟨(λS hv=>(Cv.pair Cv.id (Cv.pair Cv.id (Cv.pair (Cv.pair Cv.id (Cv.pair Cv.id (Cv.pair Cv.id (Cv.pair Cv.id (Cv.vh hv (by first | rfl | simp)))))) (Cv.pair Cv.id Cv.id))))),rfl⟩
instance {x:zaA} {t0:Tok} {t1:Tok}:CvC ((x.name,x.tagging,(zaa.mk t0 x.names),(zaa.mk t1 x.types),x.nodes):(Str × Int × (zaa Str) × (zaa Int) × (List zh))) zaA x:=⟨(Cv.isv rfl λS=>(λcs h=>zaA.cv (x:=x) cs (((Cv.pair Cv.id (Cv.pair Cv.id (Cv.pair Cv.tl (Cv.pair Cv.tl Cv.id)))):Cv S ((x.name,x.tagging,(zaa.mk t0 x.names),(zaa.mk t1 x.types),x.nodes):(Str × Int × (zaa Str) × (zaa Int) × (List zh))) (zaA.to x)) cs h)))⟩
theorem zuR:SlB Tryz.prog 23 1 false=true:=by kernel_rfl
theorem zmg:SlB Tryz.prog 165 1 false=true:=by kernel_rfl
theorem ty3:TyB Tryz.prog 3 1 false=true:=by kernel_rfl
theorem zmU:TyB Tryz.prog 23 1 false=true:=by kernel_rfl
theorem zp7:elB Tryz.prog 23 1=true:=by kernel_rfl
theorem ziS:zmy Tryz.prog 23 23 1=true:=by kernel_rfl
abbrev zfy:Type:=zaA × Vh × Int
abbrev zfa (x:GMk) (t0:Vt):zfy:=(x.m,⟨t0,x.l.length⟩,x.e)
@[reducible] def zo8:Fld zfy zaA:=pf0
@[reducible] def zog:Fld (Str × (List Str) × (zaa Int) × (List zg)) Str:=pf0
@[reducible] def zoe:Fld (Str × (List Str) × (zaa Int) × (List zg)) (List Str):=pf1
@[reducible] def zkz:Fld (Str × (List Str) × (zaa Int) × (List zg)) (zaa Int):=pf2
@[reducible] def zmO:Fld zfy Int:=pl2
@[reducible] def zpi:Fld zfy Vh:=pf1
@[reducible] def zrR:Fld (Str × (List Str) × (zaa Int) × (List zg)) (List zg):=pl3
instance:zeA Tryz.prog 26 zZ (zZ.mk (Str.mk []) ([]:(List Str)) ([]:(List Int)) ([]:(List zg))):=⟨zbl (cs:=[.string ⟨#[]⟩,.slice none 0 0,.slice none 0 0,.slice none 0 0]) rfl (by kernel_rfl) (zn zeX (zn zaI (zn zaI zaI)))⟩
theorem ze26:ze2 Tryz.prog 26 ((zZ.mk (Str.mk []) ([]:(List Str)) ([]:(List Int)) ([]:(List zg))):zZ):=zbl (cs:=[.string ⟨#[]⟩,.slice none 0 0,.slice none 0 0,.slice none 0 0]) rfl (by kernel_rfl) (zn zeX (zn zaI (zn zaI zaI)))
theorem bu26:zm2 Tryz.prog 26=true:=by kernel_rfl
theorem zoz:TyB Tryz.prog 26 4 true=true:=by kernel_rfl
instance:zaX Tryz.prog 101 0 zfy zaA zo8:=⟨by kernel_rfl⟩
theorem zx6:zfw Tryz.prog 101 0 0 5 true=true:=by kernel_rfl
theorem bu101:zm2 Tryz.prog 101=true:=by kernel_rfl
instance:zkr Tryz.prog 101 zfy ((zaA.mk (Str.mk []) (0:Int) ([]:(List Str)) ([]:(List Int)) ([]:(List zh))),(Vh.mk none 0),(0:Int)):=⟨zbl (cs:=[.string ⟨#[]⟩,.int .i64 0,.slice none 0 0,.slice none 0 0,.slice none 0 0,.slice none 0 0,.int .i64 0]) rfl (by kernel_rfl) (zn (zn zeX (zn zaT (zn zaI (zn zaI zaI)))) (zn zrC zaT))⟩
theorem zxg:ze2 Tryz.prog 101 (((zaA.mk (Str.mk []) (0:Int) ([]:(List Str)) ([]:(List Int)) ([]:(List zh))),(Vh.mk none 0),(0:Int)):zfy):=zbl (cs:=[.string ⟨#[]⟩,.int .i64 0,.slice none 0 0,.slice none 0 0,.slice none 0 0,.slice none 0 0,.int .i64 0]) rfl (by kernel_rfl) (zn (zn zeX (zn zaT (zn zaI (zn zaI zaI)))) (zn zrC zaT))
instance:zaX Tryz.prog 26 0 (Str × (List Str) × (zaa Int) × (List zg)) Str zog:=⟨by kernel_rfl⟩
theorem zvh:zfw Tryz.prog 26 0 0 1 false=true:=by kernel_rfl
instance:zaX Tryz.prog 26 1 (Str × (List Str) × (zaa Int) × (List zg)) (List Str) zoe:=⟨by kernel_rfl⟩
theorem zwL:zfw Tryz.prog 26 1 1 1 false=true:=by kernel_rfl
instance:zkr Tryz.prog 26 (Str × (List Str) × (zaa Int) × (List zg)) ((Str.mk []),([]:(List Str)),(zaa.mk none ([]:(List Int))),([]:(List zg))):=⟨zbl (cs:=[.string ⟨#[]⟩,.slice none 0 0,.slice none 0 0,.slice none 0 0]) rfl (by kernel_rfl) (zn zeX (zn zaI (zn zoG zaI)))⟩
theorem zqz:ze2 Tryz.prog 26 (((Str.mk []),([]:(List Str)),(zaa.mk none ([]:(List Int))),([]:(List zg))):(Str × (List Str) × (zaa Int) × (List zg))):=zbl (cs:=[.string ⟨#[]⟩,.slice none 0 0,.slice none 0 0,.slice none 0 0]) rfl (by kernel_rfl) (zn zeX (zn zaI (zn zoG zaI)))
instance:zaX Tryz.prog 26 2 zZ (List Int) zZ.f2:=⟨by kernel_rfl⟩
theorem zpU:zfw Tryz.prog 26 2 2 1 false=true:=by kernel_rfl
instance:zaX Tryz.prog 26 2 (Str × (List Str) × (zaa Int) × (List zg)) (zaa Int) zkz:=⟨by kernel_rfl⟩
theorem zs6:zfw Tryz.prog 101 2 6 1 false=true:=by kernel_rfl
instance:zaX Tryz.prog 101 2 zfy Int zmO:=⟨by kernel_rfl⟩
theorem zx3:zfw Tryz.prog 101 1 5 1 false=true:=by kernel_rfl
instance:zaX Tryz.prog 101 1 zfy Vh zpi:=⟨by kernel_rfl⟩
theorem ty24:TyB Tryz.prog 24 1 false=true:=by kernel_rfl
instance:zaX Tryz.prog 116 6 zg Bool zg.f6:=⟨by kernel_rfl⟩
instance:zaX Tryz.prog 116 5 zg Int zg.f5:=⟨by kernel_rfl⟩
instance:zaX Tryz.prog 116 2 zg zbx zg.f2:=⟨by kernel_rfl⟩
instance:zaX Tryz.prog 116 0 zg Int zg.f0:=⟨by kernel_rfl⟩
instance:zeA Tryz.prog 116 zg (zg.mk (0:Int) ([]:(List Tag)) (zbx.mk false false false false (0:Int) (0:Int)) ([]:(List zai)) ([]:(List zaF)) (0:Int) false (0:Int)):=⟨zbl (cs:=[.int .i64 0,.slice none 0 0,.bool false,.bool false,.bool false,.bool false,.int .i64 0,.int .i64 0,.slice none 0 0,.slice none 0 0,.int .i64 0,.bool false,.int .i64 0]) rfl (by kernel_rfl) (zn zaT (zn zaI (zn (zn zci (zn zci (zn zci (zn zci (zn zaT zaT))))) (zn zaI (zn zaI (zn zaT (zn zci zaT)))))))⟩
instance:zeA Tryz.prog 194 Tag (Tag.zero):=⟨zbl (cs:=[.int .i64 0,.int .i64 0]) rfl (by kernel_rfl) (zn zaT zaT)⟩
instance:zaX Tryz.prog 194 1 Tag Int Tag.f1:=⟨by kernel_rfl⟩
instance:zaX Tryz.prog 116 1 zg (List Tag) zg.f1:=⟨by kernel_rfl⟩
instance:zaX Tryz.prog 116 7 zg Int zg.f7:=⟨by kernel_rfl⟩
instance:zaX Tryz.prog 116 3 zg (List zai) zg.f3:=⟨by kernel_rfl⟩
theorem zez:SlB Tryz.prog 32 1 false=true:=by kernel_rfl
theorem ty5:TyB Tryz.prog 5 1 false=true:=by kernel_rfl
theorem zqH : Tryz.prog.globals.findIdx? (·.name == "unicode/utf8.first") = some 0 := by kernel_rfl
theorem ar198:zqw Tryz.prog 198 256 1 false=true:=by kernel_rfl
theorem zkn : Tryz.prog.globals.findIdx? (·.name == "unicode/utf8.acceptRanges") = some 1 := by kernel_rfl
theorem ar201:zqw Tryz.prog 201 16 2 true=true:=by kernel_rfl
theorem zyH:TyB Tryz.prog 200 2 true=true:=by kernel_rfl
instance:zeA Tryz.prog 200 zhm (zhm.zero):=⟨zbl (cs:=[.int .u8 0,.int .u8 0]) rfl (by kernel_rfl) (zn ztJ ztJ)⟩
theorem ze200:ze2 Tryz.prog 200 (zhm.zero:zhm):=zbl (cs:=[.int .u8 0,.int .u8 0]) rfl (by kernel_rfl) (zn ztJ ztJ)
instance:zaX Tryz.prog 200 0 zhm UInt8 zhm.f0:=⟨by kernel_rfl⟩
theorem zqm:zfw Tryz.prog 200 0 0 1 false=true:=by kernel_rfl
instance:zaX Tryz.prog 200 1 zhm UInt8 zhm.f1:=⟨by kernel_rfl⟩
theorem zqa:zfw Tryz.prog 200 1 1 1 false=true:=by kernel_rfl
instance:zaX Tryz.prog 194 0 Tag Int Tag.f0:=⟨by kernel_rfl⟩
instance:zaX Tryz.prog 116 4 zg (List zaF) zg.f4:=⟨by kernel_rfl⟩
instance:EqC Tryz.prog 194 Tag:=⟨Tag.eqOk Tryz.underlying194 (by kernel_rfl) (by kernel_rfl) Tryz.underlying3⟩
instance:zaX Tryz.prog 26 3 zZ (List zg) zZ.f3:=⟨by kernel_rfl⟩
theorem zwk:zfw Tryz.prog 26 3 3 1 false=true:=by kernel_rfl
instance:zaX Tryz.prog 26 3 (Str × (List Str) × (zaa Int) × (List zg)) (List zg) zrR:=⟨by kernel_rfl⟩
theorem zlA:Tryz.prog.follows .mixedOrders=true:=by kernel_rfl
theorem ty9:TyB Tryz.prog 9 1 false=true:=by kernel_rfl
theorem sl22:SlB Tryz.prog 22 1 false=true:=by kernel_rfl
theorem ty50:TyB Tryz.prog 50 5 true=true:=by kernel_rfl
theorem ty37:TyB Tryz.prog 37 1 false=true:=by kernel_rfl
theorem zyS:zfw Tryz.prog 50 0 0 1 false=true:=by kernel_rfl
theorem zu3:zfw Tryz.prog 50 2 2 1 false=true:=by kernel_rfl
theorem ty22:TyB Tryz.prog 22 1 false=true:=by kernel_rfl
theorem zs8:zmy Tryz.prog 22 22 1=true:=by kernel_rfl
theorem zyN:zfw Tryz.prog 50 3 3 1 false=true:=by kernel_rfl
instance:UnC Tryz.prog 3 (.int .i64):=⟨Tryz.underlying3⟩
instance:UnC Tryz.prog 12 (.int .u64):=⟨Tryz.underlying12⟩
instance:zeA Tryz.prog 3 Int (0:Int):=⟨zru (v:=.int .i64 0) rfl (by kernel_rfl) zaT⟩
instance:zaX Tryz.prog 36 5 Val (List Raw) Val.f5:=⟨by kernel_rfl⟩
instance:zaX Tryz.prog 79 1 Raw (List UInt8) Raw.f1:=⟨by kernel_rfl⟩
instance:zaX Tryz.prog 36 3 Val (List Val) Val.f3:=⟨by kernel_rfl⟩
instance:zaX Tryz.prog 36 4 Val Int Val.f4:=⟨by kernel_rfl⟩
instance:zaX Tryz.prog 79 0 Raw Int Raw.f0:=⟨by kernel_rfl⟩
instance:zeA Tryz.prog 79 Raw (Raw.zero):=⟨zbl (cs:=[.int .i64 0,.slice none 0 0]) rfl (by kernel_rfl) (zn zaT zaI)⟩
instance:zaX Tryz.prog 135 0 ziv zZ ziv.f0:=⟨by kernel_rfl⟩
instance:zeA Tryz.prog 135 ziv (ziv.mk (zZ.mk (Str.mk []) ([]:(List Str)) ([]:(List Int)) ([]:(List zg)))):=⟨zbl (cs:=[.string ⟨#[]⟩,.slice none 0 0,.slice none 0 0,.slice none 0 0]) rfl (by kernel_rfl) (zn zeX (zn zaI (zn zaI zaI)))⟩
instance:zaX Tryz.prog 137 0 zy ziv zy.f0:=⟨by kernel_rfl⟩
instance:zeA Tryz.prog 137 zy (zy.mk (ziv.mk (zZ.mk (Str.mk []) ([]:(List Str)) ([]:(List Int)) ([]:(List zg)))) false):=⟨zbl (cs:=[.string ⟨#[]⟩,.slice none 0 0,.slice none 0 0,.slice none 0 0,.bool false]) rfl (by kernel_rfl) (zn (zn zeX (zn zaI (zn zaI zaI))) zci)⟩
instance:zaX Tryz.prog 137 1 zy Bool zy.f1:=⟨by kernel_rfl⟩
instance:zaX Tryz.prog 269 0 zeZ (List zg) zeZ.f0:=⟨by kernel_rfl⟩
instance:zeA Tryz.prog 269 zeZ (zeZ.mk ([]:(List zg))):=⟨zbl (cs:=[.slice none 0 0]) rfl (by kernel_rfl) zaI⟩
instance:zkr Tryz.prog 110 (zaa Tag) (zaa.mk none ([]:(List Tag))):=⟨zru (v:=.slice none 0 0) rfl (by kernel_rfl) zoG⟩
theorem zo4:TyB Tryz.prog 114 1 false=true:=by kernel_rfl
theorem zpy:SlB Tryz.prog 114 11 true=true:=by kernel_rfl
theorem znA:zfw Tryz.prog 129 5 10 1 false=true:=by kernel_rfl
theorem zyr:elB Tryz.prog 165 1=true:=by kernel_rfl
theorem zpA:zmy Tryz.prog 165 165 1=true:=by kernel_rfl
theorem sl24:SlB Tryz.prog 24 13 true=true:=by kernel_rfl
theorem zqs:zfw Tryz.prog 116 5 10 1 false=true:=by kernel_rfl
theorem ziT:zfw Tryz.prog 116 0 0 1 false=true:=by kernel_rfl
theorem zyB:ze2 Tryz.prog 116 ((zg.mk (0:Int) ([]:(List Tag)) (zbx.mk false false false false (0:Int) (0:Int)) ([]:(List zai)) ([]:(List zaF)) (0:Int) false (0:Int)):zg):=zbl (cs:=[.int .i64 0,.slice none 0 0,.bool false,.bool false,.bool false,.bool false,.int .i64 0,.int .i64 0,.slice none 0 0,.slice none 0 0,.int .i64 0,.bool false,.int .i64 0]) rfl (by kernel_rfl) (zn zaT (zn zaI (zn (zn zci (zn zci (zn zci (zn zci (zn zaT zaT))))) (zn zaI (zn zaI (zn zaT (zn zci zaT)))))))
theorem zvL:TyB Tryz.prog 116 13 true=true:=by kernel_rfl
theorem zlk:zfw Tryz.prog 116 4 9 1 false=true:=by kernel_rfl
instance:UnC Tryz.prog 55 (.int .u64):=⟨Tryz.underlying55⟩
instance:zaX Tryz.prog 105 0 zcl Str zcl.f0:=⟨by kernel_rfl⟩
instance:zeA Tryz.prog 105 zcl (zcl.mk (Str.mk []) (0:Int)):=⟨zbl (cs:=[.string ⟨#[]⟩,.int .i64 0]) rfl (by kernel_rfl) (zn zeX zaT)⟩
instance:zaX Tryz.prog 107 0 zab zcl zab.f0:=⟨by kernel_rfl⟩
instance:zeA Tryz.prog 107 zab (zab.mk (zcl.mk (Str.mk []) (0:Int))):=⟨zbl (cs:=[.string ⟨#[]⟩,.int .i64 0]) rfl (by kernel_rfl) (zn zeX zaT)⟩
instance:zaX Tryz.prog 105 1 zcl Int zcl.f1:=⟨by kernel_rfl⟩
instance:IfC Tryz.prog 120:=⟨by kernel_rfl⟩
instance strconv_ParseInt_g a_s zdR zcK:zd Tryz.prog 47 (zba a_s zdR zcK) (.mk [isv a_s,isv zdR,isv zcK] [] λr=>.mk [isv r.1,isv r.2] []):=⟨λr h=>by
 exact zlM h⟩
abbrev zin:Type:=zZ × Vh
abbrev zfV (x:zag) (t0:Vt):zin:=(x.t,⟨t0,x.b.length⟩)
@[reducible] def zvy:Fld zin zZ:=pf0
@[reducible] def znL:Fld zin Vh:=pl1
instance:zaX Tryz.prog 85 0 zin zZ zvy:=⟨by kernel_rfl⟩
instance:zkr Tryz.prog 85 zin ((zZ.mk (Str.mk []) ([]:(List Str)) ([]:(List Int)) ([]:(List zg))),(Vh.mk none 0)):=⟨zbl (cs:=[.string ⟨#[]⟩,.slice none 0 0,.slice none 0 0,.slice none 0 0,.slice none 0 0]) rfl (by kernel_rfl) (zn (zn zeX (zn zaI (zn zaI zaI))) zrC)⟩
theorem zv7:zfw Tryz.prog 85 1 4 1 false=true:=by kernel_rfl
instance:zaX Tryz.prog 85 1 zin Vh znL:=⟨by kernel_rfl⟩
theorem zzE:zrs Tryz.prog 32 9=true:=by kernel_rfl
theorem st9:zkw Tryz.prog 9=true:=by kernel_rfl
theorem el32:elB Tryz.prog 32 1=true:=by kernel_rfl
theorem ztC:zmy Tryz.prog 32 32 1=true:=by kernel_rfl
theorem ty32:TyB Tryz.prog 32 1 false=true:=by kernel_rfl
instance strconv_FormatInt_g a_i zdR:zd Tryz.prog 125 (zdJ a_i zdR) (.mk [isv a_i,isv zdR] [] λr=>.mk [isv r] []):=⟨λr h=>by
 exact zll h⟩
instance strings_ReplaceAll_g a_s zq8 zq2:zd Tryz.prog 127 (strings_ReplaceAll a_s zq8 zq2) (.mk [isv a_s,isv zq8,isv zq2] [] λr=>.mk [isv r] []):=⟨λr h=>by
 exact zkL h⟩
abbrev zeC:Type:=zha × zZ × Int × Int
abbrev zdA (x:zN):zeC:=(x.stream,x.t,x.at_,x.e)
abbrev zgV:Type:=Int × Int × (List UInt8) × Vh × Int × (List Raw)
abbrev zhQ (x:Val) (t0:Vt):zgV:=(x.kind,x.n,x.b,⟨t0,x.l.length⟩,x.rule,x.more)
@[reducible] def zoo:Fld zeC zha:=pf0
@[reducible] def zvn:Fld zeC zZ:=pf1
@[reducible] def zu8:Fld zeC Int:=pl3
@[reducible] def zu5:Fld zeC Int:=pf2
@[reducible] def zwB:Fld zgV Int:=pf0
@[reducible] def zvW:Fld zgV Int:=pf1
@[reducible] def zv2:Fld zgV (List UInt8):=pf2
@[reducible] def zwQ:Fld zgV Vh:=pf3
instance:zaX Tryz.prog 61 0 zha (List zS) zha.f0:=⟨by kernel_rfl⟩
instance:zeA Tryz.prog 61 zha (zha.mk ([]:(List zS)) (0:Int)):=⟨zbl (cs:=[.slice none 0 0,.int .i64 0]) rfl (by kernel_rfl) (zn zaI zaT)⟩
instance:zaX Tryz.prog 63 0 zeC zha zoo:=⟨by kernel_rfl⟩
instance:zaX Tryz.prog 63 1 zeC zZ zvn:=⟨by kernel_rfl⟩
instance:zkr Tryz.prog 63 zeC ((zha.mk ([]:(List zS)) (0:Int)),(zZ.mk (Str.mk []) ([]:(List Str)) ([]:(List Int)) ([]:(List zg))),(0:Int),(0:Int)):=⟨zbl (cs:=[.slice none 0 0,.int .i64 0,.string ⟨#[]⟩,.slice none 0 0,.slice none 0 0,.slice none 0 0,.int .i64 0,.int .i64 0]) rfl (by kernel_rfl) (zn (zn zaI zaT) (zn (zn zeX (zn zaI (zn zaI zaI))) (zn zaT zaT)))⟩
instance:zaX Tryz.prog 63 3 zeC Int zu8:=⟨by kernel_rfl⟩
instance:zaX Tryz.prog 61 1 zha Int zha.f1:=⟨by kernel_rfl⟩
instance:zaX Tryz.prog 63 2 zeC Int zu5:=⟨by kernel_rfl⟩
instance:zaX Tryz.prog 36 0 zgV Int zwB:=⟨by kernel_rfl⟩
instance:zkr Tryz.prog 36 zgV ((0:Int),(0:Int),([]:(List UInt8)),(Vh.mk none 0),(0:Int),([]:(List Raw))):=⟨zbl (cs:=[.int .i64 0,.int .i64 0,.slice none 0 0,.slice none 0 0,.int .i64 0,.slice none 0 0]) rfl (by kernel_rfl) (zn zaT (zn zaT (zn zaI (zn zrC (zn zaT zaI)))))⟩
instance:zaX Tryz.prog 36 1 zgV Int zvW:=⟨by kernel_rfl⟩
instance:zaX Tryz.prog 36 2 zgV (List UInt8) zv2:=⟨by kernel_rfl⟩
instance:zaX Tryz.prog 36 3 zgV Vh zwQ:=⟨by kernel_rfl⟩
instance:UnC Tryz.prog 33 (.slice 36):=⟨Tryz.underlying33⟩
instance:AggC #[.int .i64 0,.int .i64 0,.slice none 0 0,.slice none 0 0,.int .i64 0,.slice none 0 0] Val (Val.mk (0:Int) (0:Int) ([]:(List UInt8)) ([]:(List Val)) (0:Int) ([]:(List Raw))):=⟨(zwu (x:=(Val.mk (0:Int) (0:Int) ([]:(List UInt8)) ([]:(List Val)) (0:Int) ([]:(List Raw)))) (cs:=[.int .i64 0,.int .i64 0,.slice none 0 0,.slice none 0 0,.int .i64 0,.slice none 0 0]) rfl zss)⟩
instance {x:Val} {tt:Vt}:CvF tt x.l ((x.kind,x.n,x.b,Vh.mk tt x.l.length,x.rule,x.more):zgV) (Fld.id (zgV)) _ _ ((x.kind,x.n,x.b,x.l,x.rule,x.more):(Int × Int × (List UInt8) × (List Val) × Int × (List Raw))) (Fld.id ((Int × Int × (List UInt8) × (List Val) × Int × (List Raw)))):=⟨(λS hv=>(Cv.pair Cv.id (Cv.pair Cv.id (Cv.pair Cv.id (Cv.pair (Cv.vh hv (by first | rfl | simp)) (Cv.pair Cv.id Cv.id)))))),rfl⟩
instance {x:Val}:CvC ((x.kind,x.n,x.b,x.l,x.rule,x.more):(Int × Int × (List UInt8) × (List Val) × Int × (List Raw))) Val x:=⟨(Cv.isv rfl λS=>(λcs h=>Cv.val cs (((Cv.pair Cv.id (Cv.pair Cv.id (Cv.pair Cv.id (Cv.pair Cv.id (Cv.pair Cv.id Cv.id))))):Cv S ((x.kind,x.n,x.b,x.l,x.rule,x.more):(Int × Int × (List UInt8) × (List Val) × Int × (List Raw))) (Val.to x)) cs h)))⟩
instance:zaX Tryz.prog 72 1 zaE (List zS) zaE.f1:=⟨by kernel_rfl⟩
instance:zaX Tryz.prog 72 0 zaE zZ zaE.f0:=⟨by kernel_rfl⟩
instance:zeA Tryz.prog 72 zaE (zaE.mk (zZ.mk (Str.mk []) ([]:(List Str)) ([]:(List Int)) ([]:(List zg))) ([]:(List zS)) (0:Int) (0:Int) (0:Int)):=⟨zbl (cs:=[.string ⟨#[]⟩,.slice none 0 0,.slice none 0 0,.slice none 0 0,.slice none 0 0,.int .i64 0,.int .i64 0,.int .i64 0]) rfl (by kernel_rfl) (zn (zn zeX (zn zaI (zn zaI zaI))) (zn zaI (zn zaT (zn zaT zaT))))⟩
instance:zaX Tryz.prog 72 3 zaE Int zaE.f3:=⟨by kernel_rfl⟩
instance:zaX Tryz.prog 72 2 zaE Int zaE.f2:=⟨by kernel_rfl⟩
instance:zaX Tryz.prog 72 4 zaE Int zaE.f4:=⟨by kernel_rfl⟩
section
attribute [local irreducible] isv zbn zal zbK zbw zem zeI zgQ zf1 zdV zdI zcO zj zO zI cal br ck asr jp lp zq
instance r04_at_g a_s a_i:zd Tryz.prog 113 (zhi a_s a_i) (.mk [isv a_s,isv a_i] [] λr=>.mk [isv r] []):=by
 unfold zhi
 exact W (.o 0 12 .a .a) Tryz.func113 e

instance r04_white_g a_s a_i:zd Tryz.prog 56 (zht a_s a_i) (.mk [isv a_s,isv a_i] [] λr=>.mk [isv r] []):=by
 unfold zht
 exact W (.l [1] (.b (.o 13 20 (.o 7 26 (.o 1 32 (.b .a (.o 1 46 (.b (.l [1] (.o 0 58 (.b (.o 0 69 .a .a) .a) .a)) .a) .a)) .a) .a) .a) .a)) Tryz.func56 e

instance r04_letter_g a_c:zd Tryz.prog 114 (zgy a_c) (.mk [isv a_c] [] λr=>.mk [isv r] []):=by
 unfold zgy
 exact W (.o 9 8 (.o 1 16 .a (.b .a (.o 2 15 .a .a))) .a) Tryz.func114 e

instance r04_digit_g a_c:zd Tryz.prog 117 (zfQ a_c) (.mk [isv a_c] [] λr=>.mk [isv r] []):=by
 unfold zfQ
 exact W (.o 1 8 .a .a) Tryz.func117 e

instance r04_name_g a_s a_i:zd Tryz.prog 115 (ziB a_s a_i) (.mk [isv a_s,isv a_i] [] λr=>.mk [isv r] []):=by
 unfold ziB
 exact W (.l [1] (.o 0 35 (.b .a (.o 0 48 .a .a)) (.b (.o 14 21 (.o 1 34 .a (.b .a (.o 2 33 .a .a))) .a) .a))) Tryz.func115 e

instance r04_words_g :zd Tryz.prog 160 (zju ) (.mk [] [] λr=>.mk [isv r] []):=by
 unfold zju
 exact W .a Tryz.func160 e

instance h_In_string_g a_l a_x:zd Tryz.prog 85 (zgF a_l a_x) (.mk [isv a_l,isv a_x] [] λr=>.mk [isv r] []):=by
 unfold zgF
 exact W (.l [5] .a) Tryz.func85 e

instance r04_Word_g a_s:zd Tryz.prog 116 (zil a_s) (.mk [isv a_s] [] λr=>.mk [isv r] []):=by
 unfold zil
 exact W .a Tryz.func116 e

instance r04_number_g a_s a_i:zd Tryz.prog 118 (zgq a_s a_i) (.mk [isv a_s,isv a_i] [] λr=>.mk [isv r] []):=by
 unfold zgq
 exact W (.w [1] (.l [1,7] (.o 0 26 (.b (.w [7] .a .a) (.o 37 49 (.o 27 59 (.o 18 68 (.o 12 74 (.o 8 78 (.o 0 86 .a (.b .a (.o 1 85 .a .a))) .a) .a) (.b .a (.o 19 67 .a .a))) (.b .a (.o 28 58 .a .a))) .a)) .a)) .a) Tryz.func118 e

instance r04_hex_g a_s a_i:zd Tryz.prog 119 (zj1 a_s a_i) (.mk [isv a_s,isv a_i] [] λr=>.mk [isv r.1,isv r.2] []):=by
 unfold zj1
 exact W (.l [1] (.o 0 31 (.b .a (.o 7 44 (.o 0 51 (.b .a (.d 0 .a)) .a) .a)) (.b (.o 1 30 .a (.b .a (.o 2 29 .a .a))) .a))) Tryz.func119 e

instance r04_quoted_g a_s a_i:zd Tryz.prog 120 (zgu a_s a_i) (.mk [isv a_s,isv a_i] [] λr=>.mk [isv r.1,isv r.2] []):=by
 unfold zgu
 exact W (.l [1,6] (.b (.v [1,6] .a .a) .a)) Tryz.func120 e

instance r04_sign_g a_s a_i:zd Tryz.prog 121 (ziN a_s a_i) (.mk [isv a_s,isv a_i] [] λr=>.mk [isv r] []):=by
 unfold ziN
 exact W (.l [7] (.b (.d 0 (.o 0 37 .a .a)) .a)) Tryz.func121 e

instance r04_one_g a_s a_i:zd Tryz.prog 57 (zkk a_s a_i) (.mk [isv a_s,isv a_i] [] λr=>.mk [isv r.1,isv r.2] []):=by
 unfold zkk
 exact W (.q 1 (.q 0 (.q 1 (.w [] (.j 0 (.b 0 λb2=>.m [true] (.v (λq4:Int × zS=>[(8,isv q4.1)]) λq4=>[zj b2 (q4.2:zS)])) .a (.b (.b .a (.d 160 (.j 0 (.b 0 λb2=>.m [true] (.v (λq9:zS=>[]) λq9=>[zj b2 (q9:zS)])) .a .a))) (.o 1 66 (.b (.b .a (.d 160 .a)) (.b .a (.b .a (.b (.d 5120 .a) .a)))) (.b .a (.o 2 65 .a .a))))) .a)))) Tryz.func57 e

instance r04_Tokens_g zaZ:zd Tryz.prog 22 (zfb zaZ) (.mk [isv zaZ] [] λr=>.mk [isv r.1,isv r.2.1,isv r.2.2] []):=by
 unfold zfb
 exact W (.b .a (.k (.m [] (.t λt0=>.v (λq1:(List zS) × Int=>[(5,zbK t0 q1.1),(6,isv q1.2)]) λq1=>[zO t0])) .a)) Tryz.func22 e

instance r05_parser_now_g a_x:zd Tryz.prog 37 (zaD a_x) (.b λzp=>.t λt_a_x1=>.t λt_a_x2=>.v λzX=>.mk [zal zp (Fld.id zc8)] [zj zp (zbN a_x t_a_x1 t_a_x2 zX),zO t_a_x1,zO t_a_x2,zI zX a_x.m.nodes] λr=>.t λu1=>.t λu2=>.mk [isv r.1] [zj zp (zbN r.2 u1 u2 zX),zO u1,zO u2,zI zX r.2.m.nodes]):=by
 unfold zaD
 exact W (.q 1 (.p 0 (.d 1024 .a))) Tryz.func37 e

instance r05_parser_fail_g a_x a_e a_t:zd Tryz.prog 38 (za4 a_x a_e a_t) (.b λzp=>.t λt_a_x1=>.t λt_a_x2=>.v λzX=>.mk [zal zp (Fld.id zc8),isv a_e,isv a_t] [zj zp (zbN a_x t_a_x1 t_a_x2 zX),zO t_a_x1,zO t_a_x2,zI zX a_x.m.nodes] λr=>.t λu1=>.t λu2=>.mk [] [zj zp (zbN r u1 u2 zX),zO u1,zO u2,zI zX r.m.nodes]):=by
 unfold za4
 exact W (.b (.d 1152 .a) .a) Tryz.func38 e

instance r05_parser_next_g a_x:zd Tryz.prog 81 (zbA a_x) (.b λzp=>.t λt_a_x1=>.t λt_a_x2=>.v λzX=>.mk [zal zp (Fld.id zc8)] [zj zp (zbN a_x t_a_x1 t_a_x2 zX),zO t_a_x1,zO t_a_x2,zI zX a_x.m.nodes] λr=>.t λu1=>.t λu2=>.mk [isv r.1] [zj zp (zbN r.2 u1 u2 zX),zO u1,zO u2,zI zX r.2.m.nodes]):=by
 unfold zbA
 exact W (.q 1 (.p 0 (.d 3072 (.p 0 (.d 0 (.j 0 (.w 4 λzX=>.b 0 λzp=>.m [true,false,true,true,true] (.t λt0=>.t λt1=>.v (λq12:zA=>[]) λq12=>[zj zp (zbN q12 t0 t1 zX),zO t0,zO t1,zI zX q12.m.nodes])) .a .a)))))) Tryz.func81 e

instance r05_parser_kind_g a_x a_k:zd Tryz.prog 34 (zbB a_x a_k) (.b λzp=>.t λt_a_x1=>.t λt_a_x2=>.v λzX=>.mk [zal zp (Fld.id zc8),isv a_k] [zj zp (zbN a_x t_a_x1 t_a_x2 zX),zO t_a_x1,zO t_a_x2,zI zX a_x.m.nodes] λr=>.t λu1=>.t λu2=>.mk [isv r.1] [zj zp (zbN r.2 u1 u2 zX),zO u1,zO u2,zI zX r.2.m.nodes]):=by
 unfold zbB
 exact W (.o 0 18 .a .a) Tryz.func34 e

instance r05_parser_is_g a_x a_s:zd Tryz.prog 36 (zE a_x a_s) (.b λzp=>.t λt_a_x1=>.t λt_a_x2=>.v λzX=>.mk [zal zp (Fld.id zc8),isv a_s] [zj zp (zbN a_x t_a_x1 t_a_x2 zX),zO t_a_x1,zO t_a_x2,zI zX a_x.m.nodes] λr=>.t λu1=>.t λu2=>.mk [isv r.1] [zj zp (zbN r.2 u1 u2 zX),zO u1,zO u2,zI zX r.2.m.nodes]):=by
 unfold zE
 exact W (.o 6 22 (.o 0 28 .a .a) (.b (.o 7 21 .a .a) .a)) Tryz.func36 e

instance r05_parser_must_g a_x a_s:zd Tryz.prog 35 (zP a_x a_s) (.b λzp=>.t λt_a_x1=>.t λt_a_x2=>.v λzX=>.mk [zal zp (Fld.id zc8),isv a_s] [zj zp (zbN a_x t_a_x1 t_a_x2 zX),zO t_a_x1,zO t_a_x2,zI zX a_x.m.nodes] λr=>.t λu1=>.t λu2=>.mk [] [zj zp (zbN r u1 u2 zX),zO u1,zO u2,zI zX r.m.nodes]):=by
 unfold zP
 exact W (.j 0 (.w 3 λzX=>.b 0 λzp=>.m [true,true,true,true] (.t λt0=>.t λt1=>.v (λq4:Bool × zA=>[(14,isv q4.1)]) λq4=>[zj zp (zbN q4.2 t0 t1 zX),zO t0,zO t1,zI zX q4.2.m.nodes])) .a .a) Tryz.func35 e

instance r05_begins_g a_t:zd Tryz.prog 82 (zio a_t) (.mk [isv a_t] [] λr=>.mk [isv r] []):=by
 unfold zio
 exact W (.l [4] (.b (.d 0 (.o 0 28 .a (.b (.o 1 27 .a .a) .a))) .a)) Tryz.func82 e

instance r05_Whole_g a_s:zd Tryz.prog 61 (zfj a_s) (.mk [isv a_s] [] λr=>.mk [isv r] []):=by
 unfold zfj
 exact W (.w [0] (.l [4,5] .a) .a) Tryz.func61 e

instance r05_parser_number_g a_x:zd Tryz.prog 83 (zb6 a_x) (.b λzp=>.t λt_a_x1=>.t λt_a_x2=>.v λzX=>.mk [zal zp (Fld.id zc8)] [zj zp (zbN a_x t_a_x1 t_a_x2 zX),zO t_a_x1,zO t_a_x2,zI zX a_x.m.nodes] λr=>.t λu1=>.t λu2=>.mk [isv r.1] [zj zp (zbN r.2 u1 u2 zX),zO u1,zO u2,zI zX r.2.m.nodes]):=by
 unfold zb6
 exact W .a Tryz.func83 e

instance r05_parser_bounds_g a_x:zd Tryz.prog 134 (zcI a_x) (.b λzp=>.t λt_a_x1=>.t λt_a_x2=>.v λzX=>.mk [zal zp (Fld.id zc8)] [zj zp (zbN a_x t_a_x1 t_a_x2 zX),zO t_a_x1,zO t_a_x2,zI zX a_x.m.nodes] λr=>.t λu1=>.t λu2=>.mk [isv r.1] [zj zp (zbN r.2 u1 u2 zX),zO u1,zO u2,zI zX r.2.m.nodes]):=by
 unfold zcI
 exact W (.q 1 (.q 0 (.q 1 (.j 0 (.w 3 λzX=>.b 0 λzp=>.b 4 λb5=>.m [true,true,true,true,true] (.t λt0=>.t λt1=>.v (λq9:zA × zbx=>[]) λq9=>[zj zp (zbN q9.1 t0 t1 zX),zO t0,zO t1,zI zX q9.1.m.nodes,zj b5 (q9.2:zbx)])) (.w [] (.j 0 (.w 3 λzX=>.b 0 λzp=>.b 4 λb5=>.m [true,true,true,true,true] (.t λt0=>.t λt1=>.v (λq14:zA × zbx=>[]) λq14=>[zj zp (zbN q14.1 t0 t1 zX),zO t0,zO t1,zI zX q14.1.m.nodes,zj b5 (q14.2:zbx)])) (.j 0 (.w 3 λzX=>.b 0 λzp=>.b 4 λb5=>.m [true,true,true,true,true] (.t λt0=>.t λt1=>.v (λq28:zA × zbx=>[]) λq28=>[zj zp (zbN q28.1 t0 t1 zX),zO t0,zO t1,zI zX q28.1.m.nodes,zj b5 (q28.2:zbx)])) .a .a) .a) .a) .a)))) Tryz.func134 e

instance r05_parser_size_g a_x:zd Tryz.prog 133 (zcN a_x) (.b λzp=>.t λt_a_x1=>.t λt_a_x2=>.v λzX=>.mk [zal zp (Fld.id zc8)] [zj zp (zbN a_x t_a_x1 t_a_x2 zX),zO t_a_x1,zO t_a_x2,zI zX a_x.m.nodes] λr=>.t λu1=>.t λu2=>.mk [isv r.1] [zj zp (zbN r.2 u1 u2 zX),zO u1,zO u2,zI zX r.2.m.nodes]):=by
 unfold zcN
 exact W (.q 1 .a) Tryz.func133 e

end
section
attribute [local irreducible] isv zbn zal zbK zbw zem zeI zgQ zf1 zdV zdI zcO zj zO zI cal br ck asr jp lp zq

instance r05_parser_items_g a_x a_n_:zd Tryz.prog 135 (zdl a_x a_n_) (.b λzp=>.t λt_a_x1=>.t λt_a_x2=>.v λzX=>.b λzcR=>.t λt_a_n_4=>.t λt_a_n_5=>.mk [zal zp (Fld.id zc8),zal zcR (Fld.id zcH)] [zj zp (zbN a_x t_a_x1 t_a_x2 zX),zO t_a_x1,zO t_a_x2,zI zX a_x.m.nodes,zj zcR (zfG a_n_ t_a_n_4 t_a_n_5),zO t_a_n_4,zO t_a_n_5] λr=>.t λu1=>.t λu2=>.t λu3=>.t λu4=>.mk [] [zj zp (zbN r.1 u1 u2 zX),zO u1,zO u2,zI zX r.1.m.nodes,zj zcR (zfG r.2 u3 u4),zO u3,zO u4]):=by
 unfold zdl
 exact W (.w [] (.j 0 (.w 3 λzX=>.b 4 λzcR=>.b 0 λzp=>.m [true,true,true,true,true,true,true] (.t λt0=>.t λt1=>.t λt2=>.t λt3=>.v (λq6:zA × zh=>[]) λq6=>[zj zp (zbN q6.1 t0 t1 zX),zO t0,zO t1,zI zX q6.1.m.nodes,zj zcR (zfG q6.2 t2 t3),zO t2,zO t3])) .a (.k (.w 3 λzX=>.b 4 λzcR=>.b 0 λzp=>.m [true,true,true,true,true,true,true] (.t λt0=>.t λt1=>.t λt2=>.t λt3=>.v (λq8:zA × zh=>[]) λq8=>[zj zp (zbN q8.1 t0 t1 zX),zO t0,zO t1,zI zX q8.1.m.nodes,zj zcR (zfG q8.2 t2 t3),zO t2,zO t3])) (.b (.o 4 22 (.j 0 (.w 3 λzX=>.b 0 λzp=>.m [true,true,true,true] (.t λt0=>.t λt1=>.v (λq49:Bool × zA=>[(26,isv q49.1)]) λq49=>[zj zp (zbN q49.2 t0 t1 zX),zO t0,zO t1,zI zX q49.2.m.nodes])) (.j 0 (.w 3 λzX=>.b 4 λzcR=>.b 0 λzp=>.m [true,true,true,true,true,true,true] (.t λt0=>.t λt1=>.t λt2=>.t λt3=>.v (λq55:zA × zh=>[]) λq55=>[zj zp (zbN q55.1 t0 t1 zX),zO t0,zO t1,zI zX q55.1.m.nodes,zj zcR (zfG q55.2 t2 t3),zO t2,zO t3])) .a (.b .a (.q 0 (.q 1 (.j 0 (.w 3 λzX=>.b 0 λzp=>.b 4 λb60=>.m [true,true,true,true,true] (.t λt0=>.t λt1=>.v (λq64:zA × zai=>[]) λq64=>[zj zp (zbN q64.1 t0 t1 zX),zO t0,zO t1,zI zX q64.1.m.nodes,zj b60 (q64.2:zai)])) (.p 4 (.e (.v 0 (.v 1 (.v 2 (.v 3 (.v 5 (.alt 4 (.t 6 (.t 7 (.v 8 (.v 9 (.t 10 .nil))))) (.t 6 (.t 4 (.t 7 (.v 8 (.v 9 (.t 10 .nil)))))))))))) (.b .a .a))) .a))))) .a) .a) .a))) .a) Tryz.func135 e

instance r05_Hex_g a_s:zd Tryz.prog 63 (zhf a_s) (.mk [isv a_s] [] λr=>.mk [isv r] []):=by
 unfold zhf
 exact W (.k (.m [] (.t λt0=>.v (λq1:(List UInt8) × Int=>[(3,zbK t0 q1.1),(4,isv q1.2)]) λq1=>[zO t0])) (.b (.l [5,6] (.b (.w [7] .a .a) .a)) .a)) Tryz.func63 e

instance r05_parser_value_g a_x:zd Tryz.prog 203 (zdk a_x) (.b λzp=>.t λt_a_x1=>.t λt_a_x2=>.v λzX=>.mk [zal zp (Fld.id zc8)] [zj zp (zbN a_x t_a_x1 t_a_x2 zX),zO t_a_x1,zO t_a_x2,zI zX a_x.m.nodes] λr=>.t λu1=>.t λu2=>.mk [isv r.1] [zj zp (zbN r.2 u1 u2 zX),zO u1,zO u2,zI zX r.2.m.nodes]):=by
 unfold zdk
 exact W (.q 1 (.w [] (.j 0 (.w 3 λzX=>.b 0 λzp=>.m [true,true,true,true] (.t λt0=>.t λt1=>.v (λq9:zA=>[]) λq9=>[zj zp (zbN q9 t0 t1 zX),zO t0,zO t1,zI zX q9.m.nodes])) .a .a) .a)) Tryz.func203 e

end
end Go.Proofs.Q
