/- The lexer's answer as a plain function of the bytes that are left: white, names, hexes, strings, signs. No condition: general lemmas. -/
import Derived.Test.YthafpblconbjkaaGreatDoorNbB
set_option linter.unusedVariables false
set_option linter.unusedSimpArgs false
set_option maxRecDepth 4000
set_option maxHeartbeats 4000000
namespace Go.Proofs.Q
open Go.Sy
def zbh (a_x:GMk) (a_e:Int):Option (GMk) :=
 br (decide (a_x.e=(0:Int))) (some ((GMk.mk a_x.m a_x.l a_e))) (some (a_x))

def zfZ (ze7:Int):Option (Tag) :=
 br (decide (ze7=(1:Int))) (some ((Tag.mk (0:Int) (1:Int)))) (br (decide (ze7=(2:Int))) (some ((Tag.mk (0:Int) (2:Int)))) (br (decide (ze7=(5:Int))) (some ((Tag.mk (0:Int) (4:Int)))) (br (decide (ze7=(4:Int))) (some ((Tag.mk (0:Int) (5:Int)))) (br (decide (ze7=(3:Int))) (some ((Tag.mk (0:Int) (10:Int)))) (br (decide (ze7=(6:Int))) (some ((Tag.mk (0:Int) (12:Int)))) (jp (ι:=Bool) (λJ3=>br (decide (ze7=(7:Int))) (J3 ((decide (ze7=(7:Int))))) (J3 ((decide (ze7=(10:Int)))))) (λq2=>br q2 (some ((Tag.mk (0:Int) (16:Int)))) (br (decide (ze7=(8:Int))) (some ((Tag.mk (0:Int) (17:Int)))) (some ((Tag.mk (0:Int) (0:Int))))))))))))

def zjr (a_c:zbt) (zqu:Bool):Option (Int) :=
 br (!a_c.has) (some ((0:Int))) (jp (ι:=Bool) (λJ2=>br a_c.hasLow (J2 (a_c.hasHigh)) (J2 (false))) (λq1=>jp (ι:=Bool) (λJ5=>br q1 (J5 ((decide (a_c.high < a_c.low)))) (J5 (false))) (λq4=>br q4 (some ((11:Int))) (jp (ι:=Bool) (λJ8=>br zqu (jp (ι:=Bool) (λJ11=>br (!a_c.hasLow) (J11 (true)) (J11 ((decide (a_c.low < (0:Int)))))) (λq10=>jp (ι:=Bool) (λJ14=>br q10 (J14 (true)) (J14 ((decide ((70000:Int) < a_c.low))))) (λq13=>jp (ι:=Bool) (λJ17=>br q13 (J17 (true)) (jp (ι:=Bool) (λJ20=>br a_c.hasHigh (jp (ι:=Bool) (λJ23=>br (decide (a_c.high < (0:Int))) (J23 (true)) (J23 ((decide ((70000:Int) < a_c.high))))) (λq22=>J20 (q22))) (J20 (false))) (λq19=>J17 (q19)))) (λq16=>J8 (q16))))) (J8 (false))) (λq7=>br q7 (some ((11:Int))) (some ((0:Int))))))))

def zjx (a_l:(List zag)) (a_v:Int):Option (Bool) :=
 lp (ι:=Int) (λL2 q1=>br (decide (q1 < (a_l.length:Int))) (cal (zs a_l q1) λy9=>jp (ι:=Bool) (λJ11=>br y9.has (cal (zs a_l q1) λy13=>J11 ((decide (y13.number=a_v)))) (J11 (false))) (λq10=>br q10 (some (true)) (ck ((q1 + (1:Int))) <| L2 ((q1 + (1:Int)))))) (some (false))) (((0:Int)))

def zdO (a_x:GMk) (a_n_:zh):Option ((List zag) × GMk) :=
 lp (ι:=(List zag) × Int × Int) (λL3 q2=>br (decide (q2.2.2 < a_n_.root)) (cal (zs a_n_.items q2.2.2) λy335=>jp (ι:=Int × zag) (λJ338=>br (!y335.has) (lp (ι:=Int) (λL340 q339=>asr (decide (0 <= (0:Int)/\(0:Int) <= a_n_.root/\a_n_.root <= (a_n_.items.length:Int))) <| cal (zjx ((a_n_.items.take (a_n_.root).toNat).drop (0:Int).toNat) q339) λy346=>br y346 (ck ((q339 + (1:Int))) <| L340 ((q339 + (1:Int)))) (ck ((q339 + (1:Int))) <| J338 ((q339 + (1:Int)),{ y335 with number:=q339 }))) ((q2.2.1))) (J338 (q2.2.1,y335))) (λq337=>asr (Nat.ble (q2.1.length + ([{ q337.2 with has:=false }]:(List zag)).length) 68719476736) <| ck ((q2.2.2 + (1:Int))) <| L3 ((q2.1 ++ ([{ q337.2 with has:=false }]:(List zag))),q337.1,(q2.2.2 + (1:Int))))) (lp (ι:=(List zag) × Int × Bool × Bool × Int) (λL355 q354=>br (decide (q354.2.2.2.2 < (a_n_.items.length:Int))) (cal (zs a_n_.items q354.2.2.2.2) λy558=>jp (ι:=zag) (λJ561=>br (!y558.has) (lp (ι:=Int × zag) (λL563 q562=>br (decide (q562.1 < (q354.1.length:Int))) (jp (ι:=zag) (λJ578=>cal (zs q354.1 q562.1) λy579=>br (decide (y579.number=(9223372036854775807:Int))) (cal (zbh a_x (11:Int)) λy580=>some (([]:(List zag)),y580)) (jp (ι:=Bool) (λJ584=>br (decide (q562.1=(0:Int))) (J584 (true)) (cal (zs q354.1 q562.1) λy586=>J584 ((decide (q562.2.number <= y586.number))))) (λq583=>br q583 (cal (zs q354.1 q562.1) λy587=>ck ((y587.number + (1:Int))) <| J578 ({ q562.2 with number:=(y587.number + (1:Int)) })) (J578 (q562.2))))) (λq577=>ck ((q562.1 + (1:Int))) <| L563 ((q562.1 + (1:Int)),q577))) (J561 (q562.2))) (((0:Int),{ y558 with number:=(0:Int) }))) (J561 (y558))) (λq560=>jp (ι:=Bool) (λJ592=>br q354.2.2.2.1 (J592 (true)) (jp (ι:=Bool) (λJ595=>br q354.2.2.1 (J595 ((decide (q560.number <= q354.2.1)))) (J595 (false))) (λq594=>J592 (q594)))) (λq591=>asr (Nat.ble (q354.1.length + ([{ q560 with has:=false }]:(List zag)).length) 68719476736) <| ck ((q354.2.2.2.2 + (1:Int))) <| L355 ((q354.1 ++ ([{ q560 with has:=false }]:(List zag))),q560.number,true,q591,(q354.2.2.2.2 + (1:Int)))))) (lp (ι:=Bool × Int) (λL602 q601=>br (decide (q601.2 < (q354.1.length:Int))) (lp (ι:=Bool × Int) (λL634 q633=>br (decide (q633.2 < q601.2)) (jp (ι:=Bool) (λJ648=>br q633.1 (J648 (true)) (cal (zs q354.1 q633.2) λy650=>cal (zs q354.1 q601.2) λy651=>J648 ((decide (y650.name=y651.name))))) (λq647=>jp (ι:=Bool) (λJ653=>br q647 (J653 (true)) (cal (zs q354.1 q633.2) λy655=>cal (zs q354.1 q601.2) λy656=>J653 ((decide (y655.number=y656.number))))) (λq652=>ck ((q633.2 + (1:Int))) <| L634 (q652,(q633.2 + (1:Int)))))) (ck ((q601.2 + (1:Int))) <| L602 (q633.1,(q601.2 + (1:Int))))) ((q601.1,(0:Int)))) (jp (ι:=GMk) (λJ661=>br q601.1 (cal (zbh a_x (8:Int)) λy662=>J661 (y662)) (J661 (a_x))) (λq660=>some (q354.1,q660)))) ((q354.2.2.2.1,(0:Int))))) ((q2.1,(0:Int),false,false,a_n_.root)))) ((([]:(List zag)),(0:Int),(0:Int)))

def zd8 (a_c:zbt) (a_v:Int):Option (Bool) :=
 jp (ι:=Bool) (λJ2=>br (!a_c.has) (J2 (true)) (jp (ι:=Bool) (λJ5=>br (!a_c.hasLow) (J5 (true)) (J5 ((decide (a_c.low <= a_v))))) (λq4=>jp (ι:=Bool) (λJ8=>br q4 (jp (ι:=Bool) (λJ11=>br (!a_c.hasHigh) (J11 (true)) (J11 ((decide (a_v <= a_c.high))))) (λq10=>J8 (q10))) (J8 (false))) (λq7=>J2 (q7))))) (λq1=>some (q1))

def zbv (a_s:(List UInt8)):Option (UInt64) :=
 cal (zs a_s (0:Int)) λy1=>cal (zs a_s (1:Int)) λy2=>asr (Nat.ble (8:UInt64).toNat 64) <| cal (zs a_s (2:Int)) λy4=>asr (Nat.ble (16:UInt64).toNat 64) <| cal (zs a_s (3:Int)) λy6=>asr (Nat.ble (24:UInt64).toNat 64) <| cal (zs a_s (4:Int)) λy8=>asr (Nat.ble (32:UInt64).toNat 64) <| cal (zs a_s (5:Int)) λy10=>asr (Nat.ble (40:UInt64).toNat 64) <| cal (zs a_s (6:Int)) λy12=>asr (Nat.ble (48:UInt64).toNat 64) <| cal (zs a_s (7:Int)) λy14=>asr (Nat.ble (56:UInt64).toNat 64) <| some ((((((((y1.toUInt64 ||| (zex y2.toUInt64 (8:UInt64).toNat)) ||| (zex y4.toUInt64 (16:UInt64).toNat)) ||| (zex y6.toUInt64 (24:UInt64).toNat)) ||| (zex y8.toUInt64 (32:UInt64).toNat)) ||| (zex y10.toUInt64 (40:UInt64).toNat)) ||| (zex y12.toUInt64 (48:UInt64).toNat)) ||| (zex y14.toUInt64 (56:UInt64).toNat)))

def zcy (a_p:(List UInt8)):Option (Bool) :=
 asr (decide (0 <= (a_p.length:Int)/\(a_p.length:Int) <= (a_p.length:Int))) <| lp (ι:=(List UInt8)) (λL3 q2=>br (decide ((0:Int) < (q2.length:Int))) (cal (zs q2 (0:Int)) λy99=>br (decide (y99 < (128:UInt8))) (asr (decide (0 <= (1:Int)/\(1:Int) <= (q2.length:Int)/\(q2.length:Int) <= (q2.length:Int))) <| jp (ι:=Bool) (λJ102=>br (decide ((8:Int) < (((q2.take ((q2.length:Int)).toNat).drop ((1:Int)).toNat).length:Int))) (cal (zbv ((q2.take ((q2.length:Int)).toNat).drop ((1:Int)).toNat)) λy104=>J102 ((decide ((y104 &&& (9259542123273814144:UInt64))=(0:UInt64))))) (J102 (false))) (λq101=>jp (ι:=(List UInt8)) (λJ106=>br q101 (asr (decide (0 <= (8:Int)/\(8:Int) <= (((q2.take ((q2.length:Int)).toNat).drop ((1:Int)).toNat).length:Int)/\(((q2.take ((q2.length:Int)).toNat).drop ((1:Int)).toNat).length:Int) <= (((q2.take ((q2.length:Int)).toNat).drop ((1:Int)).toNat).length:Int))) <| jp (ι:=Bool) (λJ109=>br (decide ((16:Int) < (((((q2.take ((q2.length:Int)).toNat).drop ((1:Int)).toNat).take ((((q2.take ((q2.length:Int)).toNat).drop ((1:Int)).toNat).length:Int)).toNat).drop ((8:Int)).toNat).length:Int))) (asr (decide (0 <= (8:Int)/\(8:Int) <= (((((q2.take ((q2.length:Int)).toNat).drop ((1:Int)).toNat).take ((((q2.take ((q2.length:Int)).toNat).drop ((1:Int)).toNat).length:Int)).toNat).drop ((8:Int)).toNat).length:Int)/\(((((q2.take ((q2.length:Int)).toNat).drop ((1:Int)).toNat).take ((((q2.take ((q2.length:Int)).toNat).drop ((1:Int)).toNat).length:Int)).toNat).drop ((8:Int)).toNat).length:Int) <= (((((q2.take ((q2.length:Int)).toNat).drop ((1:Int)).toNat).take ((((q2.take ((q2.length:Int)).toNat).drop ((1:Int)).toNat).length:Int)).toNat).drop ((8:Int)).toNat).length:Int))) <| cal (zbv ((((q2.take ((q2.length:Int)).toNat).drop ((1:Int)).toNat).take ((((q2.take ((q2.length:Int)).toNat).drop ((1:Int)).toNat).length:Int)).toNat).drop ((8:Int)).toNat)) λy112=>cal (zbv ((((((q2.take ((q2.length:Int)).toNat).drop ((1:Int)).toNat).take ((((q2.take ((q2.length:Int)).toNat).drop ((1:Int)).toNat).length:Int)).toNat).drop ((8:Int)).toNat).take ((((((q2.take ((q2.length:Int)).toNat).drop ((1:Int)).toNat).take ((((q2.take ((q2.length:Int)).toNat).drop ((1:Int)).toNat).length:Int)).toNat).drop ((8:Int)).toNat).length:Int)).toNat).drop ((8:Int)).toNat)) λy113=>J109 ((decide (((y112 ||| y113) &&& (9259542123273814144:UInt64))=(0:UInt64))))) (J109 (false))) (λq108=>br q108 (asr (decide (0 <= (16:Int)/\(16:Int) <= (((((q2.take ((q2.length:Int)).toNat).drop ((1:Int)).toNat).take ((((q2.take ((q2.length:Int)).toNat).drop ((1:Int)).toNat).length:Int)).toNat).drop ((8:Int)).toNat).length:Int)/\(((((q2.take ((q2.length:Int)).toNat).drop ((1:Int)).toNat).take ((((q2.take ((q2.length:Int)).toNat).drop ((1:Int)).toNat).length:Int)).toNat).drop ((8:Int)).toNat).length:Int) <= (((((q2.take ((q2.length:Int)).toNat).drop ((1:Int)).toNat).take ((((q2.take ((q2.length:Int)).toNat).drop ((1:Int)).toNat).length:Int)).toNat).drop ((8:Int)).toNat).length:Int))) <| lp (ι:=(List UInt8)) (λL116 q115=>jp (ι:=Bool) (λJ129=>br (decide ((32:Int) < (q115.length:Int))) (asr (decide (0 <= (8:Int)/\(8:Int) <= (q115.length:Int)/\(q115.length:Int) <= (q115.length:Int))) <| asr (decide (0 <= (16:Int)/\(16:Int) <= (q115.length:Int)/\(q115.length:Int) <= (q115.length:Int))) <| asr (decide (0 <= (24:Int)/\(24:Int) <= (q115.length:Int)/\(q115.length:Int) <= (q115.length:Int))) <| cal (zbv q115) λy134=>cal (zbv ((q115.take ((q115.length:Int)).toNat).drop ((8:Int)).toNat)) λy135=>cal (zbv ((q115.take ((q115.length:Int)).toNat).drop ((16:Int)).toNat)) λy136=>cal (zbv ((q115.take ((q115.length:Int)).toNat).drop ((24:Int)).toNat)) λy137=>J129 ((decide ((((y134 ||| y135) ||| (y136 ||| y137)) &&& (9259542123273814144:UInt64))=(0:UInt64))))) (J129 (false))) (λq128=>br q128 (asr (decide (0 <= (32:Int)/\(32:Int) <= (q115.length:Int)/\(q115.length:Int) <= (q115.length:Int))) <| L116 (((q115.take ((q115.length:Int)).toNat).drop ((32:Int)).toNat))) (J106 (q115)))) ((((((((q2.take ((q2.length:Int)).toNat).drop ((1:Int)).toNat).take ((((q2.take ((q2.length:Int)).toNat).drop ((1:Int)).toNat).length:Int)).toNat).drop ((8:Int)).toNat).take ((((((q2.take ((q2.length:Int)).toNat).drop ((1:Int)).toNat).take ((((q2.take ((q2.length:Int)).toNat).drop ((1:Int)).toNat).length:Int)).toNat).drop ((8:Int)).toNat).length:Int)).toNat).drop ((16:Int)).toNat)))) (J106 (((((q2.take ((q2.length:Int)).toNat).drop ((1:Int)).toNat).take ((((q2.take ((q2.length:Int)).toNat).drop ((1:Int)).toNat).length:Int)).toNat).drop ((8:Int)).toNat))))) (J106 (((q2.take ((q2.length:Int)).toNat).drop ((1:Int)).toNat)))) (λq105=>L3 (q105)))) (asr (Nat.ble (4:UInt64).toNat 8) <| asr (Nat.blt (zfn (zfI y99) (4:UInt64).toNat).toNat 16) <| br (decide ((((zfI y99) &&& (7:UInt8)).toNat:Int)=(2:Int))) (jp (ι:=Bool) (λJ144=>br (decide ((q2.length:Int) < (2:Int))) (J144 (true)) (cal (zs q2 (1:Int)) λy146=>J144 ((decide (y146 < (zh1 (zfn (zfI y99) (4:UInt64).toNat)).lo))))) (λq143=>jp (ι:=Bool) (λJ148=>br q143 (J148 (true)) (cal (zs q2 (1:Int)) λy150=>J148 ((decide ((zh1 (zfn (zfI y99) (4:UInt64).toNat)).hi < y150))))) (λq147=>br q147 (some (false)) (asr (decide (0 <= (2:Int)/\(2:Int) <= (q2.length:Int)/\(q2.length:Int) <= (q2.length:Int))) <| L3 (((q2.take ((q2.length:Int)).toNat).drop ((2:Int)).toNat)))))) (br (decide ((((zfI y99) &&& (7:UInt8)).toNat:Int)=(3:Int))) (jp (ι:=Bool) (λJ153=>br (decide ((q2.length:Int) < (3:Int))) (J153 (true)) (cal (zs q2 (1:Int)) λy155=>J153 ((decide (y155 < (zh1 (zfn (zfI y99) (4:UInt64).toNat)).lo))))) (λq152=>jp (ι:=Bool) (λJ157=>br q152 (J157 (true)) (cal (zs q2 (1:Int)) λy159=>J157 ((decide ((zh1 (zfn (zfI y99) (4:UInt64).toNat)).hi < y159))))) (λq156=>jp (ι:=Bool) (λJ161=>br q156 (J161 (true)) (cal (zs q2 (2:Int)) λy163=>J161 ((decide (y163 < (128:UInt8)))))) (λq160=>jp (ι:=Bool) (λJ165=>br q160 (J165 (true)) (cal (zs q2 (2:Int)) λy167=>J165 ((decide ((191:UInt8) < y167))))) (λq164=>br q164 (some (false)) (asr (decide (0 <= (3:Int)/\(3:Int) <= (q2.length:Int)/\(q2.length:Int) <= (q2.length:Int))) <| L3 (((q2.take ((q2.length:Int)).toNat).drop ((3:Int)).toNat)))))))) (br (decide ((((zfI y99) &&& (7:UInt8)).toNat:Int)=(4:Int))) (jp (ι:=Bool) (λJ170=>br (decide ((q2.length:Int) < (4:Int))) (J170 (true)) (cal (zs q2 (1:Int)) λy172=>J170 ((decide (y172 < (zh1 (zfn (zfI y99) (4:UInt64).toNat)).lo))))) (λq169=>jp (ι:=Bool) (λJ174=>br q169 (J174 (true)) (cal (zs q2 (1:Int)) λy176=>J174 ((decide ((zh1 (zfn (zfI y99) (4:UInt64).toNat)).hi < y176))))) (λq173=>jp (ι:=Bool) (λJ178=>br q173 (J178 (true)) (cal (zs q2 (2:Int)) λy180=>J178 ((decide (y180 < (128:UInt8)))))) (λq177=>jp (ι:=Bool) (λJ182=>br q177 (J182 (true)) (cal (zs q2 (2:Int)) λy184=>J182 ((decide ((191:UInt8) < y184))))) (λq181=>jp (ι:=Bool) (λJ186=>br q181 (J186 (true)) (cal (zs q2 (3:Int)) λy188=>J186 ((decide (y188 < (128:UInt8)))))) (λq185=>jp (ι:=Bool) (λJ190=>br q185 (J190 (true)) (cal (zs q2 (3:Int)) λy192=>J190 ((decide ((191:UInt8) < y192))))) (λq189=>br q189 (some (false)) (asr (decide (0 <= (4:Int)/\(4:Int) <= (q2.length:Int)/\(q2.length:Int) <= (q2.length:Int))) <| L3 (((q2.take ((q2.length:Int)).toNat).drop ((4:Int)).toNat)))))))))) (some (false)))))) (some (true))) (((a_p.take ((a_p.length:Int)).toNat)))

def zcS (a_x:GMk) (a_i:Int) (a_v:Val):Option (Val × GMk) :=
 asr (decide (0 <= a_i/\a_i < ((a_x.l.length:Nat):Int))) <| cal (a_x.l[a_i.toNat]?) λy5=>jp (ι:=Bool × Val) (λJ8=>jp (ι:=Bool) (λJ10=>br (decide (y5.kind=(1:Int))) (J10 ((decide (y5.kind=(1:Int))))) (J10 ((decide (y5.kind=(4:Int)))))) (λq9=>br q9 (J8 ((decide (a_v.kind=y5.kind)),a_v)) (br (decide (y5.kind=(2:Int))) (jp (ι:=Bool) (λJ12=>br (decide (a_v.kind=y5.kind)) (cal (zd8 y5.con a_v.n) λy14=>J12 (y14)) (J12 (false))) (λq11=>J8 (q11,a_v))) (jp (ι:=Bool) (λJ16=>br (decide (y5.kind=(5:Int))) (J16 ((decide (y5.kind=(5:Int))))) (J16 ((decide (y5.kind=(6:Int)))))) (λq15=>br q15 (jp (ι:=Bool) (λJ18=>br (decide (a_v.kind=y5.kind)) (cal (zd8 y5.con (a_v.b.length:Int)) λy20=>J18 (y20)) (J18 (false))) (λq17=>jp (ι:=Bool) (λJ22=>br q17 (jp (ι:=Bool) (λJ25=>br (decide (y5.kind=(5:Int))) (J25 (true)) (cal (zcy a_v.b) λy27=>J25 (y27))) (λq24=>J22 (q24))) (J22 (false))) (λq21=>J8 (q21,a_v)))) (br (decide (y5.kind=(3:Int))) (br (decide (a_v.kind=y5.kind)) (lp (ι:=Bool × Int × Val) (λL29 q28=>jp (ι:=Bool) (λJ41=>br (decide (q28.2.1 < y5.root)) (J41 ((!q28.1))) (J41 (false))) (λq40=>br q40 (jp (ι:=Bool × Val) (λJ44=>cal (zs y5.items q28.2.1) λy47=>br (decide (y47.name=(Str.mk q28.2.2.b))) (cal (zs y5.items q28.2.1) λy48=>J44 (true,(Val.mk (3:Int) y48.number ([]:(List UInt8)) ([]:(List Val)) (0:Int) ([]:(List Raw))))) (J44 (q28.1,q28.2.2))) (λq43=>ck ((q28.2.1 + (1:Int))) <| L29 (q43.1,(q28.2.1 + (1:Int)),q43.2))) (J8 (q28.1,q28.2.2)))) ((false,(0:Int),a_v))) (J8 ((decide (a_v.kind=y5.kind)),a_v))) (J8 (false,a_v)))))))) (λq7=>jp (ι:=GMk) (λJ52=>br (!q7.1) (cal (zbh a_x (13:Int)) λy53=>J52 (y53)) (J52 (a_x))) (λq51=>some (q7.2,q51)))

def zdv (a_x:GMk) (a_i:Int):Option (Int × GMk) :=
 asr (decide (0 <= a_i/\a_i < ((a_x.l.length:Nat):Int))) <| cal (a_x.l[a_i.toNat]?) λy3=>br (decide ((0:Int) < (y3.tags.length:Int))) (some ((1:Int),a_x)) (some ((0:Int),a_x))

def zkA (zg8:(List Tag)) (zeq:Int) (zi1:Int):Option ((List Tag) × Int) :=
 jp (ι:=Bool) (λJ2=>br (decide (zeq < (0:Int))) (J2 (true)) (J2 ((decide ((268435456:Int) < zeq))))) (λq1=>jp (ι:=Bool) (λJ5=>br q1 (J5 (true)) (jp (ι:=Bool) (λJ8=>br (decide (zi1=(1:Int))) (J8 ((decide ((zg8.length:Int)=(0:Int))))) (J8 (false))) (λq7=>J5 (q7)))) (λq4=>br q4 (some (([]:(List Tag)),(12:Int))) (br (decide (zi1=(1:Int))) (asr (decide (0 <= (1:Int)/\(1:Int) <= (zg8.length:Int)/\(zg8.length:Int) <= (zg8.length:Int))) <| asr (Nat.ble (([(Tag.mk (2:Int) zeq)]:(List Tag)).length + ((zg8.take ((zg8.length:Int)).toNat).drop ((1:Int)).toNat).length) 68719476736) <| some ((([(Tag.mk (2:Int) zeq)]:(List Tag)) ++ ((zg8.take ((zg8.length:Int)).toNat).drop ((1:Int)).toNat)),(0:Int))) (asr (Nat.ble (([(Tag.mk (2:Int) zeq)]:(List Tag)).length + zg8.length) 68719476736) <| some ((([(Tag.mk (2:Int) zeq)]:(List Tag)) ++ zg8),(0:Int))))))

def zdw (a_x:GMk) (a_i:Int) (zeq:Int) (zi1:Int):Option (GMk) :=
 br (!decide (a_x.e=(0:Int))) (some (a_x)) (asr (decide (0 <= a_i/\a_i < ((a_x.l.length:Nat):Int))) <| cal (a_x.l[a_i.toNat]?) λy3=>cal (zkA y3.tags zeq zi1) λy4=>br (!decide (y4.2=(0:Int))) (cal (zbh a_x y4.2) λy5=>some (y5)) (asr (decide (0 <= a_i/\a_i < ((a_x.l.length:Nat):Int))) <| cal (a_x.l[a_i.toNat]?) λy7=>some ((GMk.mk a_x.m (a_x.l.set a_i.toNat ({ y7 with tags:=y4.1 })) a_x.e))))

def zhY (zjn:(List zg)->Int->Option (Bool)) (a_l:(List zg)) (a_i:Int):Option (Bool) :=
 asr (decide (0 <= a_i/\a_i < ((a_l.length:Nat):Int))) <| cal (a_l[a_i.toNat]?) λy2=>jp (ι:=Bool) (λJ4=>br (!decide (y2.kind=(9:Int))) (J4 (true)) (asr (decide (0 <= a_i/\a_i < ((a_l.length:Nat):Int))) <| cal (a_l[a_i.toNat]?) λy7=>J4 ((decide ((0:Int) < (y7.tags.length:Int)))))) (λq3=>br q3 (some (false)) (asr (decide (0 <= a_i/\a_i < ((a_l.length:Nat):Int))) <| cal (a_l[a_i.toNat]?) λy9=>lp (ι:=Bool × Int) (λL11 q10=>asr (decide (0 <= a_i/\a_i < ((a_l.length:Nat):Int))) <| cal (a_l[a_i.toNat]?) λy23=>br (decide (q10.2 < (y23.fields.length:Int))) (jp (ι:=Bool) (λJ25=>br q10.1 (J25 (true)) (asr (decide (0 <= a_i/\a_i < ((a_l.length:Nat):Int))) <| cal (a_l[a_i.toNat]?) λy28=>cal (zs y28.fields q10.2) λy29=>cal (zjn a_l y29.ty) λy30=>J25 (y30))) (λq24=>ck ((q10.2 + (1:Int))) <| L11 (q24,(q10.2 + (1:Int))))) (some (q10.1))) ((y9.more,(0:Int)))))
def zmu:Nat->((List zg)->Int->Option (Bool))
 | 0=>(λ_ _=>none)
 | n + 1=>let p:=zmu n;(zhY p)
def zji (n:Nat):(List zg)->Int->Option (Bool):=(zmu n)

def zgx (zhq:(List zg)->Int->Option ((List Tag))) (a_l:(List zg)) (a_i:Int):Option ((List Tag)) :=
 asr (decide (0 <= a_i/\a_i < ((a_l.length:Nat):Int))) <| cal (a_l[a_i.toNat]?) λy2=>br (decide ((0:Int) < (y2.tags.length:Int))) (asr (decide (0 <= a_i/\a_i < ((a_l.length:Nat):Int))) <| cal (a_l[a_i.toNat]?) λy4=>asr (decide (0 <= (0:Int)/\(0:Int) <= (1:Int)/\(1:Int) <= (y4.tags.length:Int))) <| some (((y4.tags.take ((1:Int)).toNat).drop (0:Int).toNat))) (lp (ι:=(List Tag) × Int) (λL7 q6=>asr (decide (0 <= a_i/\a_i < ((a_l.length:Nat):Int))) <| cal (a_l[a_i.toNat]?) λy18=>br (decide (q6.2 < (y18.fields.length:Int))) (asr (decide (0 <= a_i/\a_i < ((a_l.length:Nat):Int))) <| cal (a_l[a_i.toNat]?) λy20=>cal (zs y20.fields q6.2) λy21=>cal (zhq a_l y21.ty) λy22=>asr (Nat.ble (q6.1.length + y22.length) 68719476736) <| ck ((q6.2 + (1:Int))) <| L7 ((q6.1 ++ y22),(q6.2 + (1:Int)))) (some (q6.1))) ((([]:(List Tag)),(0:Int))))
def zkH:Nat->((List zg)->Int->Option ((List Tag)))
 | 0=>(λ_ _=>none)
 | n + 1=>let p:=zkH n;(zgx p)
def zg9 (n:Nat):(List zg)->Int->Option ((List Tag)):=(zkH n)

def zfD (a_l:(List Tag)) (a_x:Tag):Option (Bool) :=
 lp (ι:=Int) (λL2 q1=>br (decide (q1 < (a_l.length:Int))) (cal (zs a_l q1) λy5=>br (decide (y5=a_x)) (some (true)) (ck ((q1 + (1:Int))) <| L2 ((q1 + (1:Int))))) (some (false))) (((0:Int)))

def zgz (zlO:(List (List Tag))):Option (Bool) :=
 lp (ι:=(List Tag) × Int) (λL2 q1=>br (decide (q1.2 < (zlO.length:Int))) (lp (ι:=(List Tag) × Int) (λL30 q29=>cal (zs zlO q1.2) λy42=>br (decide (q29.2 < (y42.length:Int))) (cal (zs zlO q1.2) λy43=>cal (zs y43 q29.2) λy44=>cal (zfD q29.1 y44) λy45=>br y45 (some (false)) (cal (zs zlO q1.2) λy46=>cal (zs y46 q29.2) λy47=>asr (Nat.ble (q29.1.length + ([y47]:(List Tag)).length) 68719476736) <| ck ((q29.2 + (1:Int))) <| L30 ((q29.1 ++ ([y47]:(List Tag))),(q29.2 + (1:Int))))) (ck ((q1.2 + (1:Int))) <| L2 (q29.1,(q1.2 + (1:Int))))) ((q1.1,(0:Int)))) (some (true))) ((([]:(List Tag)),(0:Int)))

def zcK (a_x:GMk) (a_l:(List zaC)) (znB:Bool):Option (Bool × GMk) :=
 lp (ι:=(List (List Tag)) × Int) (λL3 q2=>br (decide (q2.2 < (a_l.length:Int))) (cal (zs a_l q2.2) λy25=>cal (zji fuel a_x.l y25.ty) λy26=>jp (ι:=Bool) (λJ28=>br y26 (jp (ι:=Bool) (λJ31=>br znB (J31 (true)) (J31 ((decide ((1:Int) < (a_l.length:Int)))))) (λq30=>J28 (q30))) (J28 (false))) (λq27=>br q27 (some (false,a_x)) (cal (zs a_l q2.2) λy35=>cal (zg9 fuel a_x.l y35.ty) λy36=>asr (Nat.ble (q2.1.length + ([y36]:(List (List Tag))).length) 68719476736) <| ck ((q2.2 + (1:Int))) <| L3 ((q2.1 ++ ([y36]:(List (List Tag)))),(q2.2 + (1:Int)))))) (cal (zgz q2.1) λy41=>some (y41,a_x))) ((([]:(List (List Tag))),(0:Int)))

def zhJ (a_t:zg):Option ((List Bool)) :=
 lp (ι:=(List Bool) × Int) (λL2 q1=>br (decide (q1.2 < (a_t.fields.length:Int))) (cal (zs a_t.fields q1.2) λy15=>jp (ι:=Bool) (λJ17=>br y15.optional (J17 (true)) (cal (zs a_t.fields q1.2) λy19=>J17 (y19.has))) (λq16=>jp (ι:=Bool) (λJ21=>br q16 (J21 (true)) (J21 ((decide (a_t.root <= q1.2))))) (λq20=>asr (Nat.ble (q1.1.length + ([q20]:(List Bool)).length) 68719476736) <| ck ((q1.2 + (1:Int))) <| L2 ((q1.1 ++ ([q20]:(List Bool))),(q1.2 + (1:Int)))))) (some (q1.1))) ((([]:(List Bool)),(0:Int)))

def zjq (a_t:zg):Option (Int) :=
 cal (zhJ a_t) λy1=>lp (ι:=Int) (λL3 q2=>jp (ι:=Bool) (λJ11=>br (decide ((0:Int) < q2)) (ck ((q2 - (1:Int))) <| cal (zs y1 (q2 - (1:Int))) λy14=>J11 (y14)) (J11 (false))) (λq10=>br q10 (ck ((q2 - (1:Int))) <| L3 ((q2 - (1:Int)))) (some (q2)))) ((a_t.root))

def zdN (a_x:GMk) (a_t:zg):Option (Bool × GMk) :=
 br (!decide (a_t.kind=(7:Int))) (cal (zcK a_x a_t.fields a_t.more) λy2=>some (y2.1,y2.2)) (cal (zhJ a_t) λy3=>lp (ι:=Int × GMk) (λL5 q4=>br (decide (q4.1 < (a_t.fields.length:Int))) (jp (ι:=GMk) (λJ37=>cal (zs y3 q4.1) λy38=>br (!y38) (J37 (q4.2)) (ck ((q4.1 + (1:Int))) <| lp (ι:=Int) (λL41 q40=>jp (ι:=Bool) (λJ51=>br (decide (q40 < (a_t.fields.length:Int))) (cal (zs y3 q40) λy53=>J51 (y53)) (J51 (false))) (λq50=>br q50 (ck ((q40 + (1:Int))) <| L41 ((q40 + (1:Int)))) (ck ((q40 + (1:Int))) <| asr (decide (0 <= q4.1/\q4.1 <= (min (q40 + (1:Int)) (a_t.fields.length:Int))/\(min (q40 + (1:Int)) (a_t.fields.length:Int)) <= (a_t.fields.length:Int))) <| cal (zcK q4.2 ((a_t.fields.take ((min (q40 + (1:Int)) (a_t.fields.length:Int))).toNat).drop (q4.1).toNat) false) λy57=>br (!y57.1) (some (false,y57.2)) (J37 (y57.2))))) (((q4.1 + (1:Int)))))) (λq36=>ck ((q4.1 + (1:Int))) <| L5 ((q4.1 + (1:Int)),q36))) (jp (ι:=Bool × GMk) (λJ61=>br (!a_t.more) (J61 (true,q4.2)) (cal (zjq a_t) λy63=>asr (decide (0 <= y63/\y63 <= (a_t.fields.length:Int)/\(a_t.fields.length:Int) <= (a_t.fields.length:Int))) <| cal (zcK q4.2 ((a_t.fields.take ((a_t.fields.length:Int)).toNat).drop (y63).toNat) true) λy65=>J61 (y65.1,y65.2))) (λq60=>some (q60.1,q60.2)))) (((0:Int),a_x)))

def zcT (zaZ:GMk->Int->zh->Int->Option (GMk)) (za5:GMk->Int->Int->Option (Int × GMk)) (zbf:GMk->zh->Int->Option (Int × GMk)) (a_x:GMk) (a_i:Int) (a_n_:zh) (za:Int):Option (GMk) :=
 lp (ι:=Bool × Int) (λL3 q2=>br (decide (q2.2 < (a_n_.fields.length:Int))) (cal (zs a_n_.fields q2.2) λy170=>jp (ι:=Bool) (λJ175=>br q2.1 (J175 (true)) (cal (zs a_x.m.nodes y170.ty) λy177=>J175 (y177.mark.has))) (λq174=>ck ((q2.2 + (1:Int))) <| L3 (q174,(q2.2 + (1:Int))))) (jp (ι:=Bool) (λJ180=>br (decide (a_n_.kind=(9:Int))) (J180 ((decide ((a_n_.fields.length:Int)=(0:Int))))) (J180 (false))) (λq179=>jp (ι:=Bool) (λJ183=>br q179 (J183 ((!a_n_.more))) (J183 (false))) (λq182=>jp (ι:=GMk) (λJ186=>br q182 (cal (zbh a_x (11:Int)) λy187=>J186 (y187)) (J186 (a_x))) (λq185=>lp (ι:=(List zaC) × Int × GMk) (λL189 q188=>jp (ι:=Bool) (λJ263=>br (decide (q188.2.1 < (a_n_.fields.length:Int))) (J263 ((decide (q188.2.2.e=(0:Int))))) (J263 (false))) (λq262=>br q262 (cal (zs a_n_.fields q188.2.1) λy265=>lp (ι:=Int × GMk) (λL268 q267=>br (decide (q267.1 < q188.2.1)) (jp (ι:=GMk) (λJ299=>cal (zs a_n_.fields q267.1) λy302=>br (decide (y302.name=y265.name)) (cal (zbh q267.2 (8:Int)) λy303=>J299 (y303)) (J299 (q267.2))) (λq298=>ck ((q267.1 + (1:Int))) <| L268 ((q267.1 + (1:Int)),q298))) (ck ((za + (1:Int))) <| cal (za5 q267.2 y265.ty (za + (1:Int))) λy306=>jp (ι:=Bool) (λJ309=>br (decide (y306.2.e=(0:Int))) (J309 (y265.has)) (J309 (false))) (λq308=>jp (ι:=zaC × GMk) (λJ312=>br q308 (cal (zcS y306.2 y306.1 y265.dflt) λy313=>J312 ({ { y265 with ty:=y306.1 } with dflt:=y313.1 },y313.2)) (J312 ({ y265 with ty:=y306.1 },y306.2))) (λq311=>jp (ι:=Bool) (λJ315=>br (decide (q311.2.e=(0:Int))) (J315 ((!q2.1))) (J315 (false))) (λq314=>jp (ι:=GMk) (λJ318=>br q314 (cal (zdv q311.2 q311.1.ty) λy321=>cal (zdw y321.2 q311.1.ty q188.2.1 y321.1) λy322=>J318 (y322)) (J318 (q311.2))) (λq317=>asr (Nat.ble (q188.1.length + ([q311.1]:(List zaC)).length) 68719476736) <| ck ((q188.2.1 + (1:Int))) <| L189 ((q188.1 ++ ([q311.1]:(List zaC))),(q188.2.1 + (1:Int)),q317))))))) (((0:Int),q188.2.2))) (br (decide (q188.2.2.e=(0:Int))) (asr (decide (0 <= a_i/\a_i < ((q188.2.2.l.length:Nat):Int))) <| cal (q188.2.2.l[a_i.toNat]?) λy329=>asr (decide (0 <= a_i/\a_i < (((q188.2.2.l.set a_i.toNat ({ y329 with fields:=q188.1 })).length:Nat):Int))) <| cal ((q188.2.2.l.set a_i.toNat ({ y329 with fields:=q188.1 }))[a_i.toNat]?) λy331=>cal (zdN (GMk.mk q188.2.2.m (q188.2.2.l.set a_i.toNat ({ y329 with fields:=q188.1 })) q188.2.2.e) y331) λy332=>br (!y332.1) (cal (zbh y332.2 (12:Int)) λy333=>some (y333)) (some (y332.2))) (some (q188.2.2))))) ((([]:(List zaC)),(0:Int),q185))))))) (((!decide (a_x.m.tagging=(2:Int))),(0:Int)))
def zdi (zaZ:GMk->Int->zh->Int->Option (GMk)) (za5:GMk->Int->Int->Option (Int × GMk)) (zbf:GMk->zh->Int->Option (Int × GMk)) (a_x:GMk) (a_k:Int) (za:Int):Option (Int × GMk) :=
 br (!decide (a_x.e=(0:Int))) (some ((0:Int),a_x)) (cal (zs a_x.m.nodes a_k) λy2=>jp (ι:=Int × GMk) (λJ5=>br (decide (y2.kind=(11:Int))) (cal (zjB a_x.m y2.name) λy6=>cal (zs a_x.m.types y6) λy7=>cal (za5 a_x y7 za) λy8=>J5 (y8.1,y8.2)) (cal (zbf a_x y2 za) λy12=>J5 (y12.1,y12.2))) (λq4=>jp (ι:=Bool) (λJ15=>br (decide (q4.2.e=(0:Int))) (J15 (y2.mark.has)) (J15 (false))) (λq14=>jp (ι:=GMk) (λJ18=>br q14 (jp (ι:=Int × GMk) (λJ20=>br (decide (y2.mark.mode=(2:Int))) (J20 ((1:Int),q4.2)) (jp (ι:=Bool) (λJ22=>br (decide (y2.mark.mode=(0:Int))) (J22 ((!decide (q4.2.m.tagging=(0:Int))))) (J22 (false))) (λq21=>br q21 (cal (zdv q4.2 q4.1) λy24=>J20 (y24.1,y24.2)) (J20 ((0:Int),q4.2))))) (λq19=>cal (zdw q19.2 q4.1 y2.mark.number q19.1) λy25=>J18 (y25))) (J18 (q4.2))) (λq17=>some (q4.1,q17)))))
def zdf (zaZ:GMk->Int->zh->Int->Option (GMk)) (za5:GMk->Int->Int->Option (Int × GMk)) (zbf:GMk->zh->Int->Option (Int × GMk)) (a_x:GMk) (a_n_:zh) (za:Int):Option (Int × GMk) :=
 jp (ι:=Bool) (λJ3=>br (decide ((16:Int) < za)) (J3 (true)) (J3 ((decide ((300:Int) <= ((a_x.l.length:Nat):Int)))))) (λq2=>br q2 (cal (zbh a_x (5:Int)) λy5=>some ((0:Int),y5)) (jp (ι:=zg) (λJ8=>br (!decide (a_n_.kind=(9:Int))) (cal (zfZ a_n_.kind) λy9=>J8 ((zg.mk a_n_.kind ([y9]:(List Tag)) a_n_.con ([]:(List zag)) ([]:(List zaC)) a_n_.root a_n_.more (0:Int)))) (J8 ((zg.mk a_n_.kind ([]:(List Tag)) a_n_.con ([]:(List zag)) ([]:(List zaC)) a_n_.root a_n_.more (0:Int))))) (λq7=>jp (ι:=GMk) (λJ12=>asr (Nat.ble (a_x.l.length + ([q7]:(List zg)).length) 68719476736) <| J12 ((GMk.mk a_x.m (a_x.l ++ ([q7]:(List zg))) a_x.e))) (λq11=>jp (ι:=GMk) (λJ21=>jp (ι:=Bool) (λJ23=>br (decide (a_n_.kind=(2:Int))) (J23 ((decide (a_n_.kind=(2:Int))))) (br (decide (a_n_.kind=(5:Int))) (J23 ((decide (a_n_.kind=(5:Int))))) (br (decide (a_n_.kind=(6:Int))) (J23 ((decide (a_n_.kind=(6:Int))))) (J23 ((decide (a_n_.kind=(10:Int)))))))) (λq22=>br q22 (cal (zjr a_n_.con (!decide (a_n_.kind=(2:Int)))) λy24=>jp (ι:=GMk) (λJ26=>br (!decide (y24=(0:Int))) (cal (zbh q11 y24) λy27=>J26 (y27)) (J26 (q11))) (λq25=>br (decide (a_n_.kind=(10:Int))) (ck ((za + (1:Int))) <| cal (za5 q25 a_n_.of (za + (1:Int))) λy29=>br (decide (y29.2.e=(0:Int))) (asr (decide (0 <= ((a_x.l.length:Nat):Int)/\((a_x.l.length:Nat):Int) < ((y29.2.l.length:Nat):Int))) <| cal (y29.2.l[((a_x.l.length:Nat):Int).toNat]?) λy32=>J21 ((GMk.mk y29.2.m (y29.2.l.set (((a_x.l.length:Nat):Int).toNat) ({ y32 with of:=y29.1 })) y29.2.e))) (J21 (y29.2))) (J21 (q25)))) (br (decide (a_n_.kind=(3:Int))) (cal (zdO q11 a_n_) λy33=>asr (decide (y33.2.l.length=q11.l.length)) <| asr (decide (0 <= ((a_x.l.length:Nat):Int)/\((a_x.l.length:Nat):Int) < ((q11.l.length:Nat):Int))) <| cal (y33.2.l[((a_x.l.length:Nat):Int).toNat]?) λy36=>J21 ((GMk.mk y33.2.m (y33.2.l.set (((a_x.l.length:Nat):Int).toNat) ({ y36 with items:=y33.1 })) y33.2.e))) (jp (ι:=Bool) (λJ38=>br (decide (a_n_.kind=(7:Int))) (J38 ((decide (a_n_.kind=(7:Int))))) (br (decide (a_n_.kind=(8:Int))) (J38 ((decide (a_n_.kind=(8:Int))))) (J38 ((decide (a_n_.kind=(9:Int))))))) (λq37=>br q37 (cal (zaZ q11 ((a_x.l.length:Nat):Int) a_n_ za) λy39=>J21 (y39)) (J21 (q11))))))) (λq20=>some (((a_x.l.length:Nat):Int),q20))))))
def zV:Nat->(GMk->Int->zh->Int->Option (GMk)) × (GMk->Int->Int->Option (Int × GMk)) × (GMk->zh->Int->Option (Int × GMk))
 | 0=>(λ_ _ _ _=>none,λ_ _ _=>none,λ_ _ _=>none)
 | n + 1=>let p:=zV n;(zcT p.1 p.2.1 p.2.2,zdi p.1 p.2.1 p.2.2,zdf p.1 p.2.1 p.2.2)
def zbU (n:Nat):GMk->Int->zh->Int->Option (GMk):=(zV n).1
def zcs (n:Nat):GMk->Int->Int->Option (Int × GMk):=(zV n).2.1
def zcv (n:Nat):GMk->zh->Int->Option (Int × GMk):=(zV n).2.2

def zgS (a_m:zaB):Option (zab × Int × Int) :=
 cal (zjK a_m) λy2=>br (!decide (y2.2.2=(0:Int))) (some ((zab.mk (Str.mk []) ([]:(List Str)) ([]:(List Int)) ([]:(List zg))),y2.2.1,y2.2.2)) (jp (ι:=zab) (λJ6=>asr (Nat.ble (([]:(List Str)).length + a_m.names.length) 68719476736) <| J6 ((zab.mk a_m.name (([]:(List Str)) ++ a_m.names) ([]:(List Int)) ([]:(List zg))))) (λq5=>lp (ι:=Int × zab × GMk) (λL17 q16=>br (decide (q16.1 < (a_m.names.length:Int))) (jp (ι:=zab × GMk) (λJ35=>cal (zs a_m.types q16.1) λy36=>cal (zcs fuel q16.2.2 y36 (0:Int)) λy37=>asr (Nat.ble (q16.2.1.roots.length + ([y37.1]:(List Int)).length) 68719476736) <| J35 ((zab.mk q16.2.1.name q16.2.1.names (q16.2.1.roots ++ ([y37.1]:(List Int))) q16.2.1.types),y37.2)) (λq34=>br (!decide (q34.2.e=(0:Int))) (some ((zab.mk (Str.mk []) ([]:(List Str)) ([]:(List Int)) ([]:(List zg))),q16.1,q34.2.e)) (ck ((q16.1 + (1:Int))) <| L17 ((q16.1 + (1:Int)),q34.1,q34.2)))) (some ((zab.mk q16.2.1.name q16.2.1.names q16.2.1.roots q16.2.2.l),(0:Int),(0:Int)))) (((0:Int),q5,(GMk.mk a_m ([]:(List zg)) (0:Int))))))

def zcg (za3:Str):Option (zab × Bool) :=
 br (decide ((3000:Int) < (za3.b.length:Int))) (some ((zab.mk (Str.mk []) ([]:(List Str)) ([]:(List Int)) ([]:(List zg))),false)) (cal (zfA za3) λy2=>br (!decide (y2.2.2=(0:Int))) (some ((zab.mk (Str.mk []) ([]:(List Str)) ([]:(List Int)) ([]:(List zg))),false)) (cal (zgS y2.1) λy4=>jp (ι:=Bool) (λJ7=>br (decide (y4.2.2=(0:Int))) (J7 ((decide ((y4.1.types.length:Int) <= (120:Int))))) (J7 (false))) (λq6=>some (y4.1,q6))))
theorem zmN (x:GMk) (e:Int):zbh x e=some (if x.e=0 then GMk.mk x.m x.l e else x):=by
 unfold zbh br
 by_cases h:x.e=0 <;> simp [h]
theorem zwQ (k:Int):T (λ_=>True) (zfZ k):=by
 unfold zfZ
 refine T.br (λ_=>T.some trivial) λ_=>T.br (λ_=>T.some trivial) λ_=>T.br (λ_=>T.some trivial) λ_=>T.br (λ_=>T.some trivial) λ_=>T.br (λ_=>T.some trivial) λ_=>T.br (λ_=>T.some trivial) λ_=>?_
 refine T.jp (λ_=>True) (λJ h=>T.br (λ_=>h _ trivial) λ_=>h _ trivial) λq _=>T.br (λ_=>T.some trivial) λ_=>T.br (λ_=>T.some trivial) λ_=>T.some trivial
theorem zvw (c:zbt) (b:Bool):T (λ_=>True) (zjr c b):=by
 unfold zjr
 refine T.br (λ_=>T.some trivial) λ_=>T.jp (λ_=>True) (λJ h=>T.br (λ_=>h _ trivial) λ_=>h _ trivial) λq _=>T.jp (λ_=>True) (λJ h=>T.br (λ_=>h _ trivial) λ_=>h _ trivial) λq2 _=>T.br (λ_=>T.some trivial) λ_=>?_
 refine T.jp (λ_=>True) (λJ h=>T.br (λ_=>?_) λ_=>h _ trivial) λq3 _=>T.br (λ_=>T.some trivial) λ_=>T.some trivial
 refine T.jp (λ_=>True) (λJ2 h2=>T.br (λ_=>h2 _ trivial) λ_=>h2 _ trivial) λq4 _=>T.jp (λ_=>True) (λJ2 h2=>T.br (λ_=>h2 _ trivial) λ_=>h2 _ trivial) λq5 _=>?_
 refine T.jp (λ_=>True) (λJ2 h2=>T.br (λ_=>h2 _ trivial) λ_=>T.jp (λ_=>True) (λJ3 h3=>T.br (λ_=>T.jp (λ_=>True) (λJ4 h4=>T.br (λ_=>h4 _ trivial) λ_=>h4 _ trivial) λq _=>h3 _ trivial) λ_=>h3 _ trivial) λq _=>h2 _ trivial) λq6 _=>h _ trivial
theorem zo0 (c:zbt) (v:Int):T (λ_=>True) (zd8 c v):=by
 unfold zd8
 refine T.jp (λ_=>True) (λJ h=>T.br (λ_=>h _ trivial) λ_=>?_) λq _=>T.some trivial
 refine T.jp (λ_=>True) (λJ2 h2=>T.br (λ_=>h2 _ trivial) λ_=>h2 _ trivial) λq2 _=>?_
 exact T.jp (λ_=>True) (λJ2 h2=>T.br (λ_=>T.jp (λ_=>True) (λJ3 h3=>T.br (λ_=>h3 _ trivial) λ_=>h3 _ trivial) λq _=>h2 _ trivial) λ_=>h2 _ trivial) λq3 _=>h _ trivial

/-! ### Numbers of items -/
def zkM (l:List zag) (v:Int):Bool:=l.any λit=>it.has && decide (it.number=v)
theorem zry (y:zag) (l:List zag) (v:Int):zkM (y :: l) v=((y.has && decide (y.number=v)) || zkM l v):=by unfold zkM;rw [List.any_cons]
theorem zwr (l:List zag) (v:Int) (hl:l.length <= 1000000):zjx l v=some (zkM l v):=by
 refine T.eqs ?_
 unfold zjx
 refine T.lp (λ(k:Int)=>0 <= k/\k <= (l.length:Int)/\zkM l v=zkM (l.drop k.toNat) v) (λ(k:Int)=>((l.length:Int) - k).toNat) ⟨zIl _,by omega,rfl⟩ (by omega) λL k ⟨h1,h2,h3⟩ hL=>?_
 refine T.br (λhb=>?_) λhb=>T.some ?_
 ·have hb:=zOT hb
  refine T.get h1 hb λy hy=>?_
  rw [zi9 h1 hy] at h3
  refine T.jp (λq=>q=(y.has && decide (y.number=v))) (λJ h=>T.br (λh4=>T.get h1 hb λy' hy'=>h _ (by rw [hy] at hy';cases hy';rw [h4];rfl)) λh4=>h _ (by rw [h4];rfl)) λq hq=>?_
  subst hq
  rw [zry] at h3
  refine T.br (λh5=>T.some (by rw [h3,h5];rfl)) λh5=>T.ck (by omega) (hL _ ⟨by omega,by omega,?_⟩ (by omega))
  rw [h3,h5,Bool.false_or]
 ·have hb:=zOF hb
  rw [zDn (by omega)] at h3
  rw [h3];rfl
def zkR (l:List zag) (v:Int):Nat:=(l.filter λit=>it.has && decide (v <= it.number)).length
theorem zsE (l:List zag) (v:Int):zkR l v <= l.length:=List.length_filter_le _ _
theorem zoS (l:List zag) (v:Int):zkR l (v + 1) <= zkR l v:=by
 unfold zkR
 induction l with
 | nil=>exact zNl _
 | cons a l ih =>
  rw [List.filter_cons,List.filter_cons]
  by_cases h1:a.has && decide (v + 1 <= a.number)
  ·have h2:(a.has && decide (v <= a.number))=true:=by
    simp only [zBa,decide_eq_true_eq] at h1 ⊢
    exact ⟨h1.1,by omega⟩
   rw [if_pos h1,if_pos h2];simp only [zLc];omega
  ·rw [if_neg h1]
   split
   ·simp only [zLc];omega
   ·exact ih
theorem znp {l:List zag} {v:Int} (h:zkM l v=true):zkR l (v + 1) + 1 <= zkR l v:=by
 induction l with
 | nil=>cases h
 | cons a l ih =>
  unfold zkM at h ih
  rw [List.any_cons,Bool.or_eq_true] at h
  have hm:=zoS l v
  unfold zkR at hm ih ⊢
  rw [List.filter_cons,List.filter_cons]
  by_cases h1:(a.has && decide (a.number=v))=true
  ·simp only [zBa,decide_eq_true_eq] at h1
   have h2:¬ (a.has && decide (v + 1 <= a.number))=true:=by
    simp only [zBa,decide_eq_true_eq,not_and]
    intro _;omega
   have h3:(a.has && decide (v <= a.number))=true:=by
    simp only [zBa,decide_eq_true_eq];exact ⟨h1.1,by omega⟩
   rw [if_neg h2,if_pos h3];simp only [zLc];omega
  ·have ih:=ih (by rcases h with h | h;exact absurd h h1;exact h)
   by_cases h2:(a.has && decide (v + 1 <= a.number))=true
   ·have h3:(a.has && decide (v <= a.number))=true:=by
     simp only [zBa,decide_eq_true_eq] at h2 ⊢;exact ⟨h2.1,by omega⟩
    rw [if_pos h2,if_pos h3];simp only [zLc];omega
   ·rw [if_neg h2]
    split
    ·simp only [zLc];omega
    ·exact ih
theorem zrC (x:GMk) (n:zh) (ok:zir n) (hk:n.root <= n.items.length):T (λr=>r.2.m=x.m/\r.2.l=x.l/\(r.2.e=0->x.e=0/\r.1.length=n.items.length/\∀ it ∈ r.1,I64 it.number)) (zdO x n):=by
 unfold zdO
 have hr0:=ok.root0
 have hil:=ok.ilen
 have htk:(n.items.take n.root.toNat).drop (0:Int).toNat=n.items.take n.root.toNat:=rfl
 refine T.lp (ι:=(List zag) × Int × Int) (λq=>0 <= q.2.2/\q.2.2 <= n.root/\(q.1.length:Int)=q.2.2/\0 <= q.2.1/\q.2.1 + (zkR (n.items.take n.root.toNat) q.2.1:Int) <= q.2.2 + n.root/\∀ it ∈ q.1,I64 it.number) (λq=>(n.root - q.2.2).toNat)
  ⟨zIl _,hr0,rfl,zIl _,by
   have:=zsE (n.items.take n.root.toNat) 0
   rw [zLt] at this
   dsimp only;omega,by simp⟩ (by dsimp only;omega) λL q ⟨h1,h2,h3,h4,h5,h6⟩ hL=>?_
 obtain ⟨out,next,i⟩:=q
 dsimp only at h1 h2 h3 h4 h5 h6 hL ⊢
 refine T.br (λhb=>?_) λhb=>?_
 ·have hb:=zOT hb
  refine T.get h1 (by omega) λy hy=>?_
  have hyn:I64 y.number:=ok.nums y (List.mem_of_getElem? hy)
  refine T.jp (ι:=Int × zag) (λp=>0 <= p.1/\p.1 + (zkR (n.items.take n.root.toNat) p.1:Int) <= i + 1 + n.root/\I64 p.2.number) (λJ h=>T.br (λ_=>?_) λ_=>h _ ⟨h4,by dsimp only;omega,hyn⟩) λp ⟨p1,p2,p3⟩=>?_
  ·refine T.lp (λ(v:Int)=>0 <= v/\v + (zkR (n.items.take n.root.toNat) v:Int) <= i + n.root) (λ(v:Int)=>zkR (n.items.take n.root.toNat) v) ⟨h4,h5⟩ (by have:=zsE (n.items.take n.root.toNat) next;rw [zLt] at this;omega) λL2 v ⟨v1,v2⟩ hL2=>?_
   refine T.asd ⟨zIl _,hr0,hk⟩ ?_
   rw [htk]
   refine T.eq (zwr _ v (by rw [zLt];omega)) (T.br (λht=>T.ck (by omega) (hL2 _ ⟨by omega,?_⟩ ?_)) λ_=>T.ck (by omega) (h _ ⟨by dsimp only;omega,?_,?_⟩))
   ·have:=znp ht;omega
   ·have:=znp ht;omega
   ·have:=zoS (n.items.take n.root.toNat) v;dsimp only;omega
   ·unfold I64;dsimp only;omega
  ·refine T.abl (by simp only [zLs];omega) (T.ck (by omega) (hL _ ⟨by dsimp only;omega,by dsimp only;omega,by dsimp only;rw [zLa,zLs];omega,p1,p2,?_⟩ (by dsimp only;omega)))
   intro it hit
   rcases List.mem_append.1 hit with h | h
   ·exact h6 it h
   ·rw [zMo.1 h];exact p3
 ·have hb:=zOF hb
  refine T.lp (ι:=(List zag) × Int × Bool × Bool × Int) (λq=>n.root <= q.2.2.2.2/\q.2.2.2.2 <= n.items.length/\(q.1.length:Int)=q.2.2.2.2/\∀ it ∈ q.1,I64 it.number) (λq=>((n.items.length:Int) - q.2.2.2.2).toNat) ⟨zIl _,hk,by dsimp only;omega,h6⟩ (by dsimp only;omega) λL2 q ⟨k1,k2,k3,k4⟩ hL2=>?_
  obtain ⟨o,rise,some_,twice_,j⟩:=q
  dsimp only at k1 k2 k3 k4 hL2 ⊢
  refine T.br (λhb2=>?_) λhb2=>?_
  ·have hb2:=zOT hb2
   refine T.get (by omega) hb2 λy hy=>?_
   have hyn:I64 y.number:=ok.nums y (List.mem_of_getElem? hy)
   refine T.jp (ι:=zag) (λp=>I64 p.number) (λJ h=>T.br (λ_=>?_) λ_=>h _ hyn) λp hp=>?_
   ·refine T.lp (ι:=Int × zag) (λp=>0 <= p.1/\p.1 <= o.length/\I64 p.2.number) (λp=>((o.length:Int) - p.1).toNat) ⟨zIl _,by dsimp only;omega,by unfold I64;dsimp only;omega⟩ (by dsimp only;omega) λL3 p ⟨p1,p2,p3⟩ hL3=>?_
    obtain ⟨k,it⟩:=p
    dsimp only at p1 p2 p3 hL3 ⊢
    refine T.br (λhb3=>?_) λ_=>h _ p3
    have hb3:=zOT hb3
    refine T.jp (ι:=zag) (λit=>I64 it.number) (λJ2 h2=>T.get p1 hb3 λz hz=>T.br (λ_=>?_) λhne=>?_) λit2 hit2=>T.ck (by omega) (hL3 _ ⟨by dsimp only;omega,by dsimp only;omega,hit2⟩ (by dsimp only;omega))
    ·refine T.eq (zmN _ _) (T.some ⟨?_,?_,?_⟩)
     ·dsimp only;split <;> rfl
     ·dsimp only;split <;> rfl
     ·dsimp only
      split
      ·intro h;cases h
      ·rename_i hx;intro h;exact absurd h hx
    ·have hz1:I64 z.number:=k4 z (List.mem_of_getElem? hz)
     have hne:=zOF hne
     refine T.jp (λ_=>True) (λJ3 h3=>T.br (λ_=>h3 _ trivial) λ_=>T.get p1 hb3 λ_ _=>h3 _ trivial) λq _=>T.br (λ_=>T.get p1 hb3 λz2 hz2=>?_) λ_=>h2 _ p3
     rw [hz] at hz2;cases hz2
     unfold I64 at hz1
     exact T.ck (by omega) (h2 _ (by unfold I64;dsimp only;omega))
   ·refine T.jp (λ_=>True) (λJ h=>T.br (λ_=>h _ trivial) λ_=>T.jp (λ_=>True) (λJ2 h2=>T.br (λ_=>h2 _ trivial) λ_=>h2 _ trivial) λ_ _=>h _ trivial) λq _=>?_
    refine T.abl (by simp only [zLs];omega) (T.ck (by omega) (hL2 _ ⟨by dsimp only;omega,by dsimp only;omega,by dsimp only;rw [zLa,zLs];omega,?_⟩ (by dsimp only;omega)))
    intro it hit
    rcases List.mem_append.1 hit with h | h
    ·exact k4 it h
    ·rw [zMo.1 h];exact hp
  ·have hb2:=zOF hb2
   refine T.lp (ι:=Bool × Int) (λq=>0 <= q.2/\q.2 <= o.length) (λq=>((o.length:Int) - q.2).toNat) ⟨zIl _,by dsimp only;omega⟩ (by dsimp only;omega) λL3 q ⟨p1,p2⟩ hL3=>?_
   obtain ⟨tw,k⟩:=q
   dsimp only at p1 p2 hL3 ⊢
   refine T.br (λhb3=>?_) λ_=>?_
   ·have hb3:=zOT hb3
    refine T.lp (ι:=Bool × Int) (λq=>0 <= q.2/\q.2 <= k) (λq=>(k - q.2).toNat) ⟨zIl _,p1⟩ (by dsimp only;omega) λL4 q ⟨s1,s2⟩ hL4=>?_
    refine T.br (λhb4=>?_) λ_=>T.ck (by omega) (hL3 _ ⟨by dsimp only;omega,by dsimp only;omega⟩ (by dsimp only;omega))
    have hb4:=zOT hb4
    refine T.jp (λ_=>True) (λJ h=>T.br (λ_=>h _ trivial) λ_=>T.get s1 (by omega) λ_ _=>T.get p1 hb3 λ_ _=>h _ trivial) λq2 _=>T.jp (λ_=>True) (λJ h=>T.br (λ_=>h _ trivial) λ_=>T.get s1 (by omega) λ_ _=>T.get p1 hb3 λ_ _=>h _ trivial) λq3 _=>T.ck (by omega) (hL4 _ ⟨by dsimp only;omega,by dsimp only;omega⟩ (by dsimp only;omega))
   ·refine T.jp (ι:=GMk) (λy=>y.m=x.m/\y.l=x.l/\(y.e=0->x.e=0)) (λJ h=>T.br (λ_=>T.eq (zmN _ _) (h _ ?_)) λ_=>h _ ⟨rfl,rfl,λh=>h⟩) λy hy=>T.some ⟨hy.1,hy.2.1,λe=>⟨hy.2.2 e,by dsimp only;omega,k4⟩⟩
    refine ⟨by split <;> rfl,by split <;> rfl,?_⟩
    split
    ·intro h;cases h
    ·rename_i hx;intro h;exact absurd h hx

/-! ### UTF-8 -/
theorem tkl {α:Type} (l:List α):l.take ((l.length:Int)).toNat=l:=by rw [Int.toNat_natCast,List.take_length]
theorem zha (s:List UInt8) (h:8 <= s.length):T (λ_=>True) (zbv s):=by
 unfold zbv
 refine T.get (by omega) (by omega) λ_ _=>T.get (by omega) (by omega) λ_ _=>T.asr (by decide) (T.get (by omega) (by omega) λ_ _=>T.asr (by decide) (T.get (by omega) (by omega) λ_ _=>T.asr (by decide) (T.get (by omega) (by omega) λ_ _=>T.asr (by decide) (T.get (by omega) (by omega) λ_ _=>T.asr (by decide) (T.get (by omega) (by omega) λ_ _=>T.asr (by decide) (T.get (by omega) (by omega) λ_ _=>T.asr (by decide) (T.some trivial)))))))
theorem zyZ (y:UInt8):(zfn (zfI y) (4:UInt64).toNat).toNat < 16:=by
 unfold zfn
 have h:=(zfI y).toNat_lt
 have e:(4:UInt64).toNat=4:=rfl
 rw [e,UInt8.toNat_ofNat',show (2:Nat) ^ 4=16 from rfl]
 omega
theorem zr4 (p:List UInt8) (hp:p.length <= 1000000):T (λ_=>True) (zcy p):=by
 unfold zcy
 have e1:(1:Int).toNat=1:=rfl
 have e2:(2:Int).toNat=2:=rfl
 have e3:(3:Int).toNat=3:=rfl
 have e4:(4:Int).toNat=4:=rfl
 have e8:(8:Int).toNat=8:=rfl
 have e16:(16:Int).toNat=16:=rfl
 have e24:(24:Int).toNat=24:=rfl
 have e32:(32:Int).toNat=32:=rfl
 simp only [tkl,e1,e2,e3,e4,e8,e16,e24,e32,List.drop_drop]
 refine T.asd ⟨by omega,zIl _⟩ (T.lp (λ(q:List UInt8)=>q.length <= 1000000) (λ(q:List UInt8)=>q.length) hp (by omega) λL q hq hL=>?_)
 refine T.br (λhb=>?_) λ_=>T.some trivial
 have hb:=zOT hb
 refine T.get (by omega) hb λy hy=>T.br (λ_=>?_) λ_=>?_
 ·have hd1:(q.drop 1).length=q.length - 1:=zLd
  refine T.asd ⟨by omega,by omega,by omega⟩ ?_
  refine T.jp (λb=>b=true->8 < (q.drop 1).length) (λJ h=>T.br (λh2=>?_) λ_=>h _ λh=>by cases h) λb hb1=>?_
  ·have h2:=zOT h2
   exact T.cal (zha _ (by omega)) λ_ _ _=>h _ λ_=>by omega
  refine T.jp (λ(r:List UInt8)=>r.length < q.length) (λJ h=>T.br (λh2=>?_) λ_=>h _ (by omega)) λr hr=>hL _ (by omega) hr
  have h2:=hb1 h2
  have hd9:(q.drop (1 + 8)).length=q.length - 9:=zLd
  refine T.asd ⟨by omega,by omega,by omega⟩ ?_
  refine T.jp (λb=>b=true->16 < (q.drop (1 + 8)).length) (λJ2 h3=>T.br (λh4=>?_) λ_=>h3 _ λh=>by cases h) λb2 hb2=>?_
  ·have h4:=zOT h4
   have hd17:(q.drop (1 + 8 + 8)).length=q.length - 17:=zLd
   exact T.asd ⟨by omega,by omega,by omega⟩ (T.cal (zha _ (by omega)) λ_ _ _=>T.cal (zha _ (by omega)) λ_ _ _=>h3 _ λ_=>by omega)
  refine T.br (λh5=>?_) λ_=>h _ (by omega)
  have h5:=hb2 h5
  have hd25:(q.drop (1 + 8 + 16)).length=q.length - 25:=zLd
  refine T.asd ⟨by omega,by omega,by omega⟩ (T.lp (λ(r:List UInt8)=>r.length < q.length) (λ(r:List UInt8)=>r.length) (by omega) (by omega) λL2 r hr hL2=>?_)
  have r8:(r.drop 8).length=r.length - 8:=zLd
  have r16:(r.drop 16).length=r.length - 16:=zLd
  have r24:(r.drop 24).length=r.length - 24:=zLd
  have r32:(r.drop 32).length=r.length - 32:=zLd
  refine T.jp (λb=>b=true->32 < r.length) (λJ2 h3=>T.br (λh6=>?_) λ_=>h3 _ λh=>by cases h) λb3 hb3=>?_
  ·have h6:=zOT h6
   exact T.asd ⟨by omega,by omega,by omega⟩ (T.asd ⟨by omega,by omega,by omega⟩ (T.asd ⟨by omega,by omega,by omega⟩ (T.cal (zha _ (by omega)) λ_ _ _=>T.cal (zha _ (by omega)) λ_ _ _=>T.cal (zha _ (by omega)) λ_ _ _=>T.cal (zha _ (by omega)) λ_ _ _=>h3 _ λ_=>by omega)))
  ·refine T.br (λh6=>?_) λ_=>h _ hr
   have h6:=hb3 h6
   exact T.asd ⟨by omega,by omega,by omega⟩ (hL2 _ (by omega) (by omega))
 ·have hd2:(q.drop 2).length=q.length - 2:=zLd
  have hd3:(q.drop 3).length=q.length - 3:=zLd
  have hd4:(q.drop 4).length=q.length - 4:=zLd
  have ht:Nat.blt (zfn (zfI y) (4:UInt64).toNat).toNat 16=true:=by have:=zyZ y;simpa using this
  have or1:∀ {β:Type} {R:β->Prop} {b:Bool} {n:Nat} {f:UInt8->Bool} {i:Int} {K:Bool->Option β},(b=false->(n:Int) <= q.length)->0 <= i->i < n->(∀ c,(c=false->(n:Int) <= q.length)->T R (K c))->T R (jp (ι:=Bool) (λJ=>br b (J true) (cal (zs q i) λz=>J (f z))) K):=λ{β R b n f i K} h1 h2 h3 h4=>T.jp (λc=>c=false->(n:Int) <= q.length) (λJ h=>T.br (λ_=>h _ λh=>by cases h) λhb=>T.get h2 (by have:=h1 hb;omega) λ_ _=>h _ λ_=>h1 hb) h4
  have lt1:∀ {n:Nat},decide ((q.length:Int) < (n:Int))=false->(n:Int) <= q.length:=λ{n} h=>by have:=zOF h;omega
  refine T.asr (by decide) (T.asr ht (T.br (λ_=>?_) λ_=>T.br (λ_=>?_) λ_=>T.br (λ_=>?_) λ_=>T.some trivial))
  ·refine or1 (n:=2) lt1 (by omega) (by omega) λc1 k1=>or1 (n:=2) k1 (by omega) (by omega) λc2 k2=>T.br (λ_=>T.some trivial) λh6=>?_
   have:=k2 h6
   exact T.asd ⟨by omega,by omega,by omega⟩ (hL _ (by omega) (by omega))
  ·refine or1 (n:=3) lt1 (by omega) (by omega) λc1 k1=>or1 (n:=3) k1 (by omega) (by omega) λc2 k2=>or1 (n:=3) k2 (by omega) (by omega) λc3 k3=>or1 (n:=3) k3 (by omega) (by omega) λc4 k4=>T.br (λ_=>T.some trivial) λh6=>?_
   have:=k4 h6
   exact T.asd ⟨by omega,by omega,by omega⟩ (hL _ (by omega) (by omega))
  ·refine or1 (n:=4) lt1 (by omega) (by omega) λc1 k1=>or1 (n:=4) k1 (by omega) (by omega) λc2 k2=>or1 (n:=4) k2 (by omega) (by omega) λc3 k3=>or1 (n:=4) k3 (by omega) (by omega) λc4 k4=>or1 (n:=4) k4 (by omega) (by omega) λc5 k5=>or1 (n:=4) k5 (by omega) (by omega) λc6 k6=>T.br (λ_=>T.some trivial) λh6=>?_
   have:=k6 h6
   exact T.asd ⟨by omega,by omega,by omega⟩ (hL _ (by omega) (by omega))
def zhk (t:zg):List Int:=t.fields.map (λf=>f.ty) ++ (if t.kind=10 then [t.of] else [])
structure zjO (t:zg):Prop where
 tags:t.kind ≠ 9->t.tags ≠ []
 tlen:t.tags.length <= 100000
 root0:0 <= t.root
 rootF:t.kind=7 \/ t.kind=8 \/ t.kind=9->t.root <= t.fields.length
 rootI:t.kind=3->t.root <= t.items.length
 fields:¬ (t.kind=7 \/ t.kind=8 \/ t.kind=9)->t.fields=[]
 items:t.kind ≠ 3->t.items=[]
 ilen:t.items.length <= 8001
 nums:∀ it ∈ t.items,I64 it.number
 dflt:∀ f ∈ t.fields,DOk f.dflt
 rootZ:t.kind ≠ 3->¬ (t.kind=7 \/ t.kind=8 \/ t.kind=9)->t.root=0
def zbO:Nat->List zg->Nat->Nat->Prop
 | 0,_,_,_=>False
 | h + 1,l,i,j=>∃ t,l[i]?=some t/\zjO t/\zaN (zbO h l) (zhk t) (i + 1) j
theorem zbO.lt:∀ {h l i j},zbO h l i j->i < j:=by
 intro h
 induction h with
 | zero=>intro l i j h;exact h.elim
 | succ h ih=>intro l i j ⟨n,_,_,h2⟩;exact zaN.le (λx y h=>Nat.le_of_lt (ih h)) h2
theorem zbO.mono:∀ {h l l' i j},(∀ k,i <= k->k < j->l'[k]?=l[k]?)->zbO h l i j->zbO h l' i j:=by
 intro h
 induction h with
 | zero=>intro l l' i j _ h;exact h
 | succ h ih =>
  intro l l' i j hl hs
  have hlt:=hs.lt
  obtain ⟨n,h1,h0,h2⟩:=hs
  refine ⟨n,by rw [hl i (zNl _) hlt];exact h1,h0,zaN.mono (λx y h=>Nat.le_of_lt h.lt) (λx y hx hy hs=>ih (λk h3 h4=>hl k (by omega) (by omega)) hs) h2⟩
theorem KidsT.monoL {h l l' r a b} (hl:∀ k,a <= k->k < b->l'[k]?=l[k]?) (hk:zaN (zbO h l) r a b):zaN (zbO h l') r a b :=
 zaN.mono (λx y h=>Nat.le_of_lt h.lt) (λx y hx hy hs=>hs.mono λk h3 h4=>hl k (by omega) (by omega)) hk
theorem zbO.up:∀ {h l i j},zbO h l i j->zbO (h + 1) l i j:=by
 intro h
 induction h with
 | zero=>intro l i j h;exact h.elim
 | succ h ih =>
  intro l i j ⟨n,h1,h0,h2⟩
  exact ⟨n,h1,h0,zaN.mono (λx y h=>Nat.le_of_lt h.lt) (λx y _ _ hs=>ih hs) h2⟩
theorem zbO.ups {h l i j} (hs:zbO h l i j):∀ {h'},h <= h'->zbO h' l i j:=by
 intro h' hle
 induction h' with
 | zero =>
  have:h=0:=by omega
  subst this;exact hs
 | succ n ih =>
  rcases Nat.lt_or_ge n h with h1 | h1
  ·have:h=n + 1:=by omega
   subst this;exact hs
  ·exact (ih h1).up
theorem zbO.set {h l i j t t'} (hs:zbO h l i j) (ht:l[i]?=some t) (ok:zjO t') (hk:zhk t'=zhk t):zbO h (l.set i t') i j:=by
 cases h with
 | zero=>exact hs
 | succ h =>
  obtain ⟨n,h1,h0,h2⟩:=hs
  rw [ht] at h1;cases h1
  have hlt:=(List.getElem?_eq_some_iff.1 ht).1
  refine ⟨t',by rw [List.getElem?_set_self hlt],ok,?_⟩
  rw [hk]
  exact KidsT.monoL (λk h3 h4=>List.getElem?_set_ne (by omega)) h2
theorem zaN.mem3 {S:Nat->Nat->Prop} (hS:∀ x y,S x y->x <= y) {k:Int}:∀ {r a b},zaN S r a b->k ∈ r->∃ (c d:Nat),k=(c:Int)/\S c d/\a <= c/\d <= b:=by
 intro r
 induction r with
 | nil=>intro a b _ h;cases h
 | cons x r ih =>
  intro a b ⟨c,h0,h1,h2⟩ hm
  have h3:=zaN.le hS h2
  rcases List.mem_cons.1 hm with e | e
  ·exact ⟨a,c,e.trans h0,h1,zNl _,h3⟩
  ·obtain ⟨c',d',k1,k2,k3,k4⟩:=ih h2 e
   have:=hS _ _ h1
   exact ⟨c',d',k1,k2,by omega,k4⟩
theorem zbO.le' {h l}:∀ x y,zbO h l x y->x <= y:=λx y h=>Nat.le_of_lt h.lt
theorem znL {t:zg} (f:zaC) (hf:f ∈ t.fields):f.ty ∈ zhk t:=List.mem_append_left _ (List.mem_map.2 ⟨f,hf,rfl⟩)
theorem zbO.inb:∀ {h l i j},zbO h l i j->j <= l.length:=by
 intro h
 induction h with
 | zero=>intro l i j h;exact h.elim
 | succ h ih =>
  intro l i j ⟨t,h1,h0,h2⟩
  have hi:=(List.getElem?_eq_some_iff.1 h1).1
  have:∀ (r:List Int) (a b:Nat),zaN (zbO h l) r a b->a <= l.length->b <= l.length:=by
   intro r
   induction r with
   | nil=>intro a b h2 ha;cases h2;exact ha
   | cons x r ih2=>intro a b ⟨c,k1,k2,k3⟩ ha;exact ih2 c b k3 (ih k2)
  exact this _ _ _ h2 (by omega)

/-! ### By which tags they begin -/
def bgs:Nat->List zg->Int->List Tag
 | 0,_,_=>[]
 | h + 1,l,i=>match (if 0 <= i then l[i.toNat]? else none) with
  | none=>[]
  | some t=>if 0 < t.tags.length then t.tags.take 1 else t.fields.flatMap λf=>bgs h l f.ty
def wld:Nat->List zg->Int->Bool
 | 0,_,_=>false
 | h + 1,l,i=>match (if 0 <= i then l[i.toNat]? else none) with
  | none=>false
  | some t=>if t.kind ≠ 9 \/ 0 < t.tags.length then false else t.more || t.fields.any λf=>wld h l f.ty
theorem ztj {l:List zg} {h i:Nat} {t:zg} (e:l[i]?=some t):bgs (h + 1) l (i:Int)=if 0 < t.tags.length then t.tags.take 1 else t.fields.flatMap λf=>bgs h l f.ty:=by
 conv=>lhs;unfold bgs
 rw [if_pos (by omega),Int.toNat_natCast,e]
theorem zAZ {l:List zg} {h i:Nat} {t:zg} (e:l[i]?=some t):wld (h + 1) l (i:Int)=if t.kind ≠ 9 \/ 0 < t.tags.length then false else t.more || t.fields.any λf=>wld h l f.ty:=by
 conv=>lhs;unfold wld
 rw [if_pos (by omega),Int.toNat_natCast,e]
theorem zpB {h:Nat} {l:List zg} (F:Int->List Tag) (hF:∀ x y,zbO h l x y->(F (x:Int)).length <= y - x):∀ {r:List Int} {a b:Nat},zaN (zbO h l) r a b->(r.flatMap F).length <= b - a:=by
 intro r
 induction r with
 | nil=>intro a b _;simp
 | cons k r ih =>
  intro a b ⟨c,h0,h1,h2⟩
  have e1:=hF _ _ h1
  have e2:=ih h2
  have e3:=h1.lt
  have e4:=zaN.le zbO.le' h2
  rw [List.flatMap_cons,zLa,h0]
  omega
theorem zaN.app {S:Nat->Nat->Prop} {ys:List Int}:∀ {xs:List Int} {a b:Nat},zaN S (xs ++ ys) a b->∃ c,zaN S xs a c/\zaN S ys c b:=by
 intro xs
 induction xs with
 | nil=>intro a b h;exact ⟨a,rfl,h⟩
 | cons x xs ih =>
  intro a b ⟨c,h0,h1,h2⟩
  obtain ⟨d,h3,h4⟩:=ih h2
  exact ⟨d,⟨c,h0,h1,h3⟩,h4⟩
theorem zl2:∀ {h l i j},zbO h l i j->(bgs h l (i:Int)).length <= j - i:=by
 intro h
 induction h with
 | zero=>intro l i j h;exact h.elim
 | succ h ih =>
  intro l i j hs
  have hlt:=hs.lt
  obtain ⟨t,h1,h0,h2⟩:=hs
  rw [ztj h1]
  split
  ·rw [zLt];omega
  ·unfold zhk at h2
   obtain ⟨c,h3,h4⟩:=zaN.app h2
   have:=zpB (bgs h l) (λx y hs=>ih hs) h3
   rw [List.flatMap_map] at this
   have e4:=zaN.le zbO.le' h4
   have e3:=zaN.le zbO.le' h3
   omega
theorem zpK {α β:Type} {l:List α} {f:α->List β} {k:Nat} {y:α} (h:l[k]?=some y):(l.take (k + 1)).flatMap f=(l.take k).flatMap f ++ f y:=by
 rw [List.take_add_one,h]
 simp
theorem zqb {α β:Type} {l:List α} {f:α->List β} {k:Nat}:((l.take k).flatMap f).length <= (l.flatMap f).length:=by
 conv=>rhs;rw [<- List.take_append_drop k l]
 rw [List.flatMap_append,zLa]
 omega
theorem zr6:∀ {h n l i j},zbO h l i j->h <= n->l.length <= 1000->zg9 n l (i:Int)=some (bgs h l (i:Int)):=by
 intro h
 induction h with
 | zero=>intro n l i j h;exact h.elim
 | succ h ih =>
  intro n l i j hs hn hl
  obtain ⟨n,rfl⟩:∃ n',n=n' + 1:=⟨n - 1,by omega⟩
  have hjl:=hs.inb
  have hbl:=zl2 hs
  have hlt:=hs.lt
  obtain ⟨t,h1,h0,h2⟩:=hs
  have hti:(i:Int).toNat=i:=Int.toNat_natCast i
  have hget:∀ {β:Type} {R:β->Prop} {K:zg->Option β},T R (K t)->T R (asr (decide (0 <= (i:Int)/\(i:Int) < ((l.length:Nat):Int))) (cal (l[(i:Int).toNat]?) K)):=λh=>T.asd ⟨by omega,by omega⟩ (by rw [hti];exact T.eq h1 h)
  refine T.eqs ?_
  show T _ (zgx (zg9 n) l (i:Int))
  unfold zgx
  rw [ztj h1] at hbl ⊢
  refine hget (T.br (λhb=>hget (T.asd ⟨zIl _,by omega,by have:=zOT hb;omega⟩ (T.some ?_))) λhb=>?_)
  ·have hb:=zOT hb
   rw [if_pos (by omega)];rfl
  have hb:=zOF hb
  rw [if_neg (by omega)] at hbl ⊢
  have hfl:∀ (k:Nat),(((t.fields.take k).flatMap λf=>bgs h l f.ty)).length <= 1000:=λk=>by
   have:=zqb (l:=t.fields) (f:=λf=>bgs h l f.ty) (k:=k)
   omega
  have hfc:t.fields.length <= 1000:=by
   unfold zhk at h2
   obtain ⟨c,h3,h4⟩:=zaN.app h2
   have e:∀ (r:List Int) (a b:Nat),zaN (zbO h l) r a b->r.length <= b - a:=by
    intro r
    induction r with
    | nil=>intro a b _;exact zNz _
    | cons x r ih2 =>
     intro a b ⟨c,k0,k1,k2⟩
     have:=ih2 _ _ k2
     have:=k1.lt
     have:=zaN.le zbO.le' k2
     simp only [zLc];omega
   have:=e _ _ _ h3
   rw [List.length_map] at this
   have:=zaN.le zbO.le' h4
   omega
  refine T.lp (ι:=List Tag × Int) (λq=>0 <= q.2/\q.2 <= t.fields.length/\q.1=(t.fields.take q.2.toNat).flatMap λf=>bgs h l f.ty) (λq=>((t.fields.length:Int) - q.2).toNat) ⟨zIl _,by dsimp only;omega,rfl⟩ (by dsimp only;omega) λL q ⟨q1,q2,q3⟩ hL=>?_
  obtain ⟨o,k⟩:=q
  dsimp only at q1 q2 q3 hL ⊢
  refine hget (T.br (λhb2=>?_) λhb2=>T.some ?_)
  ·have hb2:=zOT hb2
   refine hget (T.get q1 hb2 λf hf=>?_)
   obtain ⟨c,d,e1,e2,e3,e4⟩:=zaN.mem3 zbO.le' h2 (znL f (List.mem_of_getElem? hf))
   rw [e1]
   have hk1:(k + 1).toNat=k.toNat + 1:=by omega
   have hnx:=zpK (f:=λf:zaC=>bgs h l f.ty) hf
   have hle:=hfl (k.toNat + 1)
   rw [hnx,zLa,e1] at hle
   have hle2:=hfl k.toNat
   refine T.eq (ih e2 (by omega) hl) (T.abl (by rw [q3];omega) (T.ck (by omega) (hL _ ⟨by dsimp only;omega,by dsimp only;omega,?_⟩ (by dsimp only;omega))))
   dsimp only
   rw [hk1,hnx,q3,e1]
  ·have hb2:=zOF hb2
   rw [q3,zTl (by omega)]
theorem zu6:∀ {h n l i j},zbO h l i j->h <= n->l.length <= 1000->zji n l (i:Int)=some (wld h l (i:Int)):=by
 intro h
 induction h with
 | zero=>intro n l i j h;exact h.elim
 | succ h ih =>
  intro n l i j hs hn hl
  obtain ⟨n,rfl⟩:∃ n',n=n' + 1:=⟨n - 1,by omega⟩
  have hjl:=hs.inb
  have hlt:=hs.lt
  obtain ⟨t,h1,h0,h2⟩:=hs
  have hti:(i:Int).toNat=i:=Int.toNat_natCast i
  have hget:∀ {β:Type} {R:β->Prop} {K:zg->Option β},T R (K t)->T R (asr (decide (0 <= (i:Int)/\(i:Int) < ((l.length:Nat):Int))) (cal (l[(i:Int).toNat]?) K)):=λh=>T.asd ⟨by omega,by omega⟩ (by rw [hti];exact T.eq h1 h)
  refine T.eqs ?_
  show T _ (zhY (zji n) l (i:Int))
  unfold zhY
  rw [zAZ h1]
  have hfc:t.fields.length <= 1000:=by
   unfold zhk at h2
   obtain ⟨c,h3,h4⟩:=zaN.app h2
   have e:∀ (r:List Int) (a b:Nat),zaN (zbO h l) r a b->r.length <= b - a:=by
    intro r
    induction r with
    | nil=>intro a b _;exact zNz _
    | cons x r ih2 =>
     intro a b ⟨c,k0,k1,k2⟩
     have:=ih2 _ _ k2
     have:=k1.lt
     have:=zaN.le zbO.le' k2
     simp only [zLc];omega
   have:=e _ _ _ h3
   rw [List.length_map] at this
   have:=zaN.le zbO.le' h4
   omega
  refine hget (T.jp (λb=>b=decide (t.kind ≠ 9 \/ 0 < t.tags.length)) (λJ hJ=>T.br (λhb=>hJ _ ?_) λhb=>hget (hJ _ ?_)) λb hb=>?_)
  ·have:¬ t.kind=9:=by simpa using hb
   rw [zDT (.inl this)]
  ·have:t.kind=9:=by simpa using hb
   rw [decide_eq_decide];omega
  subst hb
  refine T.br (λhb=>T.some ?_) λhb=>hget ?_
  ·rw [if_pos (zOT hb)]
  rw [if_neg (zOF hb)]
  refine T.lp (ι:=Bool × Int) (λq=>0 <= q.2/\q.2 <= t.fields.length/\q.1=(t.more || (t.fields.take q.2.toNat).any λf=>wld h l f.ty)) (λq=>((t.fields.length:Int) - q.2).toNat) ⟨zIl _,by dsimp only;omega,by simp⟩ (by dsimp only;omega) λL q ⟨q1,q2,q3⟩ hL=>?_
  obtain ⟨o,k⟩:=q
  dsimp only at q1 q2 q3 hL ⊢
  refine hget (T.br (λhb2=>?_) λhb2=>T.some ?_)
  ·have hb2:=zOT hb2
   have hk1:(k + 1).toNat=k.toNat + 1:=by omega
   obtain ⟨f,hf⟩:∃ f,t.fields[k.toNat]?=some f:=⟨_,List.getElem?_eq_getElem (by omega)⟩
   have hnx:(t.fields.take (k.toNat + 1)).any (λf=>wld h l f.ty)=((t.fields.take k.toNat).any (λf=>wld h l f.ty) || wld h l f.ty):=by
    rw [List.take_add_one,hf];simp
   refine T.jp (λb=>b=(o || wld h l f.ty)) (λJ hJ=>T.br (λhb=>hJ _ (by rw [hb];rfl)) λhb=>hget (T.get q1 hb2 λf' hf'=>?_)) λb hb=>T.ck (by omega) (hL _ ⟨by dsimp only;omega,by dsimp only;omega,by dsimp only;rw [hk1,hnx,hb,q3,Bool.or_assoc]⟩ (by dsimp only;omega))
   rw [hf] at hf';cases hf'
   obtain ⟨c,d,e1,e2,e3,e4⟩:=zaN.mem3 zbO.le' h2 (znL f (List.mem_of_getElem? hf))
   rw [e1] at hJ ⊢
   exact T.eq (ih e2 (by omega) hl) (hJ _ (by rw [hb];rfl))
  ·have hb2:=zOF hb2
   rw [q3,zTl (by omega)]

/-! ### Told apart -/
theorem zvy (l:List Tag) (x:Tag) (hl:l.length <= 1000000):zfD l x=some (decide (x ∈ l)):=by
 refine T.eqs ?_
 unfold zfD
 refine T.lp (λ(k:Int)=>0 <= k/\k <= (l.length:Int)/\x ∉ l.take k.toNat) (λ(k:Int)=>((l.length:Int) - k).toNat) ⟨zIl _,by omega,by simp⟩ (by omega) λL k hk hL=>?_
 refine T.br (λh2=>?_) λh2=>T.some ?_
 ·have h2:=zOT h2
  refine T.get hk.1 h2 λy hy=>T.br (λh3=>T.some ?_) λh3=>T.ck (by omega) (hL _ ⟨by omega,by omega,?_⟩ (by omega))
  ·have h3:=zOT h3
   subst h3
   exact (zDT (List.mem_of_getElem? hy)).symm
  ·have h3:=zOF h3
   have e:(k + 1).toNat=k.toNat + 1:=by omega
   rw [e,List.take_add_one,hy]
   simp only [Option.toList_some,List.mem_append,zMo,not_or]
   exact ⟨hk.2.2,λh=>h3 h.symm⟩
 ·have h2:=zOF h2
  have h4:=hk.2.2
  rw [zTl (by omega)] at h4
  exact (zDF h4).symm
theorem zoE {α:Type} {l:List (List α)} {k:Nat} {y:List α} (h:l[k]?=some y):(l.take (k + 1)).flatten=(l.take k).flatten ++ y:=by
 rw [List.take_add_one,h];simp
theorem zyg {α:Type} (l:List (List α)) (k:Nat):((l.take k).flatten).length <= l.flatten.length:=by
 conv=>rhs;rw [<- List.take_append_drop k l]
 rw [List.flatten_append,zLa]
 omega
theorem zqF (s:List (List Tag)) (h1:s.length <= 10000) (h2:s.flatten.length <= 100000):zgz s=some (decide s.flatten.Nodup):=by
 refine T.eqs ?_
 unfold zgz
 refine T.lp (ι:=List Tag × Int) (λq=>0 <= q.2/\q.2 <= s.length/\q.1=(s.take q.2.toNat).flatten/\q.1.Nodup) (λq=>((s.length:Int) - q.2).toNat) ⟨zIl _,by dsimp only;omega,rfl,List.nodup_nil⟩ (by dsimp only;omega) λL q ⟨q1,q2,q3,q4⟩ hL=>?_
 obtain ⟨o,k⟩:=q
 dsimp only at q1 q2 q3 q4 hL ⊢
 refine T.br (λhb=>?_) λhb=>T.some ?_
 ·have hb:=zOT hb
  obtain ⟨y,hy⟩:∃ y,s[k.toNat]?=some y:=⟨_,List.getElem?_eq_getElem (by omega)⟩
  have hk1:(k + 1).toNat=k.toNat + 1:=by omega
  have hnx:=zoE hy
  have hle:=zyg s (k.toNat + 1)
  rw [hnx,zLa] at hle
  have hget:∀ {β:Type} {R:β->Prop} {K:List Tag->Option β},T R (K y)->T R (cal (zs s k) K):=λh=>T.get q1 hb λy' hy'=>by rw [hy] at hy';cases hy';exact h
  have hpre:∀ n:Nat,n <= y.length->¬ ((s.take k.toNat).flatten ++ y.take n).Nodup->¬ s.flatten.Nodup:=λn hn hno h=>hno (by
   have e:s.flatten=((s.take k.toNat).flatten ++ y.take n) ++ (y.drop n ++ (s.drop (k.toNat + 1)).flatten):=by
    conv=>lhs;rw [<- List.take_append_drop (k.toNat + 1) s]
    rw [List.flatten_append,hnx]
    conv=>lhs;rw [<- List.take_append_drop n y]
    simp only [zLA]
   rw [e] at h
   exact (List.nodup_append.1 h).1)
  refine T.lp (ι:=List Tag × Int) (λp=>0 <= p.2/\p.2 <= y.length/\p.1=(s.take k.toNat).flatten ++ y.take p.2.toNat/\p.1.Nodup) (λp=>((y.length:Int) - p.2).toNat) ⟨zIl _,by dsimp only;omega,by dsimp only;rw [q3];simp,q4⟩ (by dsimp only;omega) λL2 p ⟨p1,p2,p3,p4⟩ hL2=>?_
  obtain ⟨o2,i⟩:=p
  dsimp only at p1 p2 p3 p4 hL2 ⊢
  have hi1:(i + 1).toNat=i.toNat + 1:=by omega
  refine hget (T.br (λhb2=>?_) λhb2=>T.ck (by omega) (hL _ ⟨by dsimp only;omega,by dsimp only;omega,?_,p4⟩ (by dsimp only;omega)))
  ·have hb2:=zOT hb2
   obtain ⟨z,hz⟩:∃ z,y[i.toNat]?=some z:=⟨_,List.getElem?_eq_getElem (by omega)⟩
   have hget2:∀ {β:Type} {R:β->Prop} {K:Tag->Option β},T R (K z)->T R (cal (zs y i) K):=λh=>T.get p1 hb2 λz' hz'=>by rw [hz] at hz';cases hz';exact h
   have hz2:y.take (i.toNat + 1)=y.take i.toNat ++ [z]:=by rw [List.take_add_one,hz];rfl
   have hol:o2.length <= 100000:=by rw [p3,zLa,zLt];omega
   refine hget (hget2 (T.eq (zvy _ _ (by omega)) (T.br (λhm=>T.some ?_) λhm=>hget (hget2 (T.abl (by simp only [zLs];omega) (T.ck (by omega) (hL2 _ ⟨by dsimp only;omega,by dsimp only;omega,?_,?_⟩ (by dsimp only;omega))))))))
   ·have hm:=zOT hm
    symm
    refine zDF (hpre (i.toNat + 1) (by omega) ?_)
    rw [hz2,<- zLA,<- p3]
    intro hnd
    have:=(List.nodup_append.1 hnd).2.2 z hm z (zMo.2 rfl)
    exact this rfl
   ·dsimp only;rw [hi1,hz2,p3,zLA]
   ·have hm:=zOF hm
    dsimp only
    rw [List.nodup_append]
    refine ⟨p4,by simp,λa ha b hb e=>?_⟩
    rw [zMo.1 hb] at e
    exact hm (e ▸ ha)
  ·have hb2:=zOF hb2
   dsimp only
   rw [hk1,hnx,p3,zTl (show y.length <= i.toNat by omega)]
 ·have hb:=zOF hb
  rw [q3,zTl (by omega)] at q4
  exact (zDT q4).symm

theorem znV {h:Nat} {l:List zg}:∀ {r:List Int} {a b:Nat},zaN (zbO h l) r a b->r.length <= b - a:=by
 intro r
 induction r with
 | nil=>intro a b _;exact zNz _
 | cons x r ih =>
  intro a b ⟨c,k0,k1,k2⟩
  have:=ih k2
  have:=k1.lt
  have:=zaN.le zbO.le' k2
  simp only [zLc];omega
def tld (h:Nat) (l:List zg) (fs:List zaC) (o:Bool):Bool:=!(fs.any λf=>wld h l f.ty && (o || decide (1 < fs.length))) && decide (fs.flatMap λf=>bgs h l f.ty).Nodup
theorem zuy {h a b:Nat} {x:GMk} {fs:List zaC} {o:Bool} (hk:zaN (zbO h x.l) (fs.map λf=>f.ty) a b) (hh:h <= 1000) (hl:x.l.length <= 1000) (hb:b <= x.l.length):zcK x fs o=some (tld h x.l fs o,x):=by
 refine T.eqs ?_
 unfold zcK
 have hfl:=znV hk
 rw [List.length_map] at hfl
 have hflat:=zpB (bgs h x.l) (λx y hs=>zl2 hs) hk
 rw [List.flatMap_map] at hflat
 have hfu:h <= fuel:=by unfold fuel;omega
 have hsub:∀ f ∈ fs,∃ c d:Nat,f.ty=(c:Int)/\zbO h x.l c d:=λf hf=>by
  obtain ⟨c,d,e1,e2,_⟩:=zaN.mem3 zbO.le' hk (List.mem_map.2 ⟨f,hf,rfl⟩)
  exact ⟨c,d,e1,e2⟩
 refine T.lp (ι:=List (List Tag) × Int) (λq=>0 <= q.2/\q.2 <= fs.length/\q.1=(fs.take q.2.toNat).map (λf=>bgs h x.l f.ty)/\(fs.take q.2.toNat).any (λf=>wld h x.l f.ty && (o || decide (1 < fs.length)))=false) (λq=>((fs.length:Int) - q.2).toNat) ⟨zIl _,by dsimp only;omega,rfl,rfl⟩ (by dsimp only;omega) λL q ⟨q1,q2,q3,q4⟩ hL=>?_
 obtain ⟨s,k⟩:=q
 dsimp only at q1 q2 q3 q4 hL ⊢
 refine T.br (λhb1=>?_) λhb1=>?_
 ·have hb1:=zOT hb1
  have hk1:(k + 1).toNat=k.toNat + 1:=by omega
  refine T.get q1 hb1 λf hf=>?_
  obtain ⟨c,d,e1,e2⟩:=hsub f (List.mem_of_getElem? hf)
  have htk:fs.take (k.toNat + 1)=fs.take k.toNat ++ [f]:=by rw [List.take_add_one,hf];rfl
  rw [e1]
  refine T.eq (zu6 e2 hfu hl) (T.jp (λq=>q=(wld h x.l f.ty && (o || decide (1 < fs.length)))) (λJ hJ=>T.br (λh2=>T.jp (λq=>q=(o || decide (1 < fs.length))) (λJ2 hJ2=>T.br (λh3=>hJ2 _ (by rw [h3];rfl)) λh3=>hJ2 _ (by rw [h3,Bool.false_or,decide_eq_decide];omega)) λq hq=>hJ _ (by rw [e1,h2,hq];rfl)) λh2=>hJ _ (by rw [e1,h2];rfl)) λq hq=>?_)
  refine T.br (λh2=>T.some ?_) λh2=>T.get q1 hb1 λf' hf'=>?_
  ·have:(fs.any λf=>wld h x.l f.ty && (o || decide (1 < fs.length)))=true:=List.any_eq_true.2 ⟨f,List.mem_of_getElem? hf,by rw [<- hq];exact h2⟩
   unfold tld
   rw [this];rfl
  ·rw [hf] at hf';cases hf'
   rw [e1]
   refine T.eq (zr6 e2 hfu hl) (T.abl (by rw [q3,List.length_map,zLt,zLs];omega) (T.ck (by omega) (hL _ ⟨by dsimp only;omega,by dsimp only;omega,?_,?_⟩ (by dsimp only;omega))))
   ·dsimp only;rw [hk1,htk,q3,List.map_append,List.map_singleton,e1]
   ·dsimp only;rw [hk1,htk,List.any_append,q4,List.any_cons,<- hq,h2];rfl
 ·have hb1:=zOF hb1
  rw [zTl (by omega)] at q3 q4
  have hfe:s.flatten=fs.flatMap λf=>bgs h x.l f.ty:=by rw [q3];rfl
  refine T.eq (zqF s (by rw [q3,List.length_map];omega) (by rw [hfe];omega)) (T.some ?_)
  unfold tld
  rw [q4,hfe];rfl

def lse (t:zg):List Bool:=t.fields.mapIdx λk f=>f.optional || f.has || decide (t.root <= (k:Int))
theorem zq6 (t:zg):(lse t).length=t.fields.length:=by unfold lse;rw [List.length_mapIdx]
theorem zt8 {t:zg} {k:Nat} {f:zaC} (h:t.fields[k]?=some f):(lse t)[k]?=some (f.optional || f.has || decide (t.root <= (k:Int))):=by
 unfold lse;rw [List.getElem?_mapIdx,h];rfl
theorem zrR (t:zg) (hl:t.fields.length <= 1000):zhJ t=some (lse t):=by
 refine T.eqs ?_
 unfold zhJ
 have hll:=zq6 t
 refine T.lp (ι:=List Bool × Int) (λq=>0 <= q.2/\q.2 <= t.fields.length/\q.1=(lse t).take q.2.toNat) (λq=>((t.fields.length:Int) - q.2).toNat) ⟨zIl _,by dsimp only;omega,rfl⟩ (by dsimp only;omega) λL q ⟨q1,q2,q3⟩ hL=>?_
 obtain ⟨s,k⟩:=q
 dsimp only at q1 q2 q3 hL ⊢
 refine T.br (λhb=>?_) λhb=>T.some ?_
 ·have hb:=zOT hb
  refine T.get q1 hb λf hf=>?_
  refine T.jp (λq=>q=(f.optional || f.has)) (λJ h=>T.br (λh2=>h _ (by rw [h2];rfl)) λh2=>T.get q1 hb λf' hf'=>h _ (by rw [hf] at hf';cases hf';rw [h2];rfl)) λq hq=>?_
  refine T.jp (λq'=>q'=(f.optional || f.has || decide (t.root <= k))) (λJ h=>T.br (λh2=>h _ (by rw [<- hq,h2];rfl)) λh2=>h _ (by rw [<- hq,h2];rfl)) λq' hq'=>?_
  have hk1:(k + 1).toNat=k.toNat + 1:=by omega
  have hkk:((k.toNat:Nat):Int)=k:=by omega
  have:=zt8 hf
  rw [hkk] at this
  refine T.abl (by rw [q3,zLt,zLs];omega) (T.ck (by omega) (hL _ ⟨by dsimp only;omega,by dsimp only;omega,?_⟩ (by dsimp only;omega)))
  dsimp only
  rw [hk1,List.take_add_one,this,q3,hq'];rfl
 ·have hb:=zOF hb
  rw [q3,zTl (by omega)]
def lst (t:zg):Nat->Nat
 | 0=>0
 | k + 1=>if (lse t)[k]?=some true then lst t k else k + 1
theorem ztz (t:zg):∀ k,lst t k <= k
 | 0=>zNl _
 | k + 1=>by
  unfold lst
  split
  ·exact Nat.le_trans (ztz t k) (Nat.le_succ k)
  ·exact zNl _
theorem zyG (t:zg) (hl:t.fields.length <= 1000) (h0:0 <= t.root) (h1:t.root <= t.fields.length):zjq t=some ((lst t t.root.toNat:Nat):Int):=by
 refine T.eqs ?_
 unfold zjq
 have hll:=zq6 t
 refine T.eq (zrR t hl) (T.lp (λ(k:Int)=>0 <= k/\k <= t.root/\lst t t.root.toNat=lst t k.toNat) (λ(k:Int)=>k.toNat) ⟨h0,zIl _,rfl⟩ (by omega) λL k ⟨k1,k2,k3⟩ hL=>?_)
 refine T.jp (λq=>(q=true->0 < k/\lst t k.toNat=lst t (k - 1).toNat)/\(q=false->lst t k.toNat=k.toNat)) (λJ h=>T.br (λhb=>?_) λhb=>h _ ⟨(λh=>by cases h),λ_=>?_⟩) λq hq=>?_
 ·have hb:=zOT hb
  have e:k.toNat=(k - 1).toNat + 1:=by omega
  refine T.ck (by omega) (T.get (by omega) (by omega) λy hy=>h _ ?_)
  rw [e]
  refine ⟨λhy1=>⟨hb,?_⟩,λhy1=>?_⟩
  ·rw [lst,if_pos (by rw [hy,hy1])]
  ·rw [lst,if_neg (by rw [hy,hy1];simp)]
 ·have hb:=zOF hb
  have e:k.toNat=0:=by omega
  rw [e];rfl
 ·refine T.br (λh2=>T.ck (by have:=(hq.1 h2).1;omega) (hL _ ⟨by have:=(hq.1 h2).1;omega,by omega,by rw [k3,(hq.1 h2).2]⟩ (by have:=(hq.1 h2).1;omega))) λh2=>T.some ?_
  rw [k3,hq.2 h2];omega
theorem KidsT.sub {h:Nat} {l:List zg}:∀ {r a b} (n m:Nat),zaN (zbO h l) r a b->∃ c d,zaN (zbO h l) ((r.take n).drop m) c d/\d <= b:=by
 intro r a b n m hk
 have h1:r=(r.take n).take m ++ ((r.take n).drop m ++ r.drop n):=by
  rw [<- zLA,List.take_append_drop,List.take_append_drop]
 rw [h1] at hk
 obtain ⟨c,_,h3⟩:=zaN.app hk
 obtain ⟨d,h4,h5⟩:=zaN.app h3
 exact ⟨c,d,h4,zaN.le zbO.le' h5⟩
theorem zvz {h a b:Nat} {x:GMk} {t:zg} (hk:zaN (zbO h x.l) (t.fields.map λf=>f.ty) a b) (hh:h <= 1000) (hl:x.l.length <= 1000) (hb:b <= x.l.length) (r0:0 <= t.root) (r1:t.kind=7->t.root <= t.fields.length):T (λr=>r.2=x) (zdN x t):=by
 unfold zdN
 have hfl:=znV hk
 rw [List.length_map] at hfl
 have hfl1:t.fields.length <= 1000:=by omega
 have hll:=zq6 t
 refine T.br (λ_=>T.eq (zuy hk hh hl hb) (T.some rfl)) λhk7=>?_
 have hk7:t.kind=7:=by simpa using hk7
 have hsub:∀ (n m:Nat) (o:Bool),zcK x ((t.fields.take n).drop m) o=some (tld h x.l ((t.fields.take n).drop m) o,x):=λn m o=>by
  obtain ⟨c,d,k1,k2⟩:=KidsT.sub n m hk
  rw [<- List.map_take,<- List.map_drop] at k1
  exact zuy k1 hh hl (by omega)
 refine T.eq (zrR t hfl1) (T.lp (ι:=Int × GMk) (λq=>0 <= q.1/\q.1 <= t.fields.length/\q.2=x) (λq=>((t.fields.length:Int) - q.1).toNat) ⟨zIl _,by dsimp only;omega,rfl⟩ (by dsimp only;omega) λL q ⟨q1,q2,q3⟩ hL=>?_)
 obtain ⟨k,y⟩:=q
 dsimp only at q1 q2 q3 hL ⊢
 subst q3
 refine T.br (λhb1=>?_) λhb1=>?_
 ·have hb1:=zOT hb1
  refine T.jp (ι:=GMk) (λz=>z=y) (λJ hJ=>T.get q1 (by omega) λc hc=>T.br (λ_=>hJ _ rfl) λ_=>T.ck (by omega) ?_) λz hz=>T.ck (by omega) (hL _ ⟨by dsimp only;omega,by dsimp only;omega,hz⟩ (by dsimp only;omega))
  refine T.lp (λ(e:Int)=>k + 1 <= e/\e <= t.fields.length) (λ(e:Int)=>((t.fields.length:Int) - e).toNat) ⟨zIl _,by omega⟩ (by omega) λL2 e ⟨e1,e2⟩ hL2=>?_
  refine T.jp (λq=>q=true->e < t.fields.length) (λJ2 h2=>T.br (λh3=>T.get (by omega) (by have:=zOT h3;omega) λ_ _=>h2 _ λ_=>zOT h3) λ_=>h2 _ λh=>by cases h) λq hq=>?_
  refine T.br (λh3=>T.ck (by have:=hq h3;omega) (hL2 _ (by have:=hq h3;omega) (by have:=hq h3;omega))) λ_=>T.ck (by omega) (T.asd (by omega) (T.eq (hsub _ _ _) (T.br (λ_=>T.some rfl) λ_=>hJ _ rfl)))
 ·refine T.jp (ι:=Bool × GMk) (λz=>z.2=y) (λJ hJ=>T.br (λ_=>hJ _ rfl) λ_=>T.eq (zyG t hfl1 r0 (r1 hk7)) ?_) λz hz=>T.some hz
  have:=ztz t t.root.toNat
  have:=r1 hk7
  exact T.asd ⟨by omega,by omega,zIl _⟩ (T.eq (hsub _ _ _) (hJ _ rfl))
def fl (x:GMk) (e:Int):GMk:=if x.e=0 then GMk.mk x.m x.l e else x
theorem zlI (x:GMk) (e:Int):zbh x e=some (fl x e):=zmN x e
theorem zBM (x:GMk) (e:Int):(fl x e).m=x.m:=by unfold fl;split <;> rfl
theorem zBv (x:GMk) (e:Int):(fl x e).l=x.l:=by unfold fl;split <;> rfl
theorem zwi {x:GMk} {e:Int} (h:e ≠ 0):(fl x e).e ≠ 0:=by
 unfold fl
 split
 ·exact h
 ·assumption
structure Sm (x y:GMk):Prop where
 m:y.m=x.m
 l:y.l=x.l
 e:y.e=0->x.e=0
theorem Sm.refl (x:GMk):Sm x x:=⟨rfl,rfl,λh=>h⟩
theorem Sm.trans {x y z:GMk} (h:Sm x y) (k:Sm y z):Sm x z:=⟨k.m.trans h.m,k.l.trans h.l,λe=>h.e (k.e e)⟩
theorem Sm.fl {x:GMk} {e:Int} (h:e ≠ 0):Sm x (fl x e):=⟨zBM x e,zBv x e,λk=>absurd k (zwi h)⟩
theorem zoa {x:GMk} {i:Nat} {t:zg} (v:Val) (ht:x.l[i]?=some t) (hv:DOk v) (r0:0 <= t.root) (r1:t.kind=3->t.root <= t.items.length) (hi:t.items.length <= 8001) :
    T (λr=>Sm x r.2/\DOk r.1) (zcS x (i:Int) v):=by
  unfold zcS
  have hlt:=(List.getElem?_eq_some_iff.1 ht).1
  have hti:(i:Int).toNat=i:=Int.toNat_natCast i
  refine T.asd ⟨by omega,by omega⟩ ?_
  rw [hti]
  refine T.eq ht (T.jp (ι:=Bool × Val) (λq=>DOk q.2) (λJ k=>?_) λq hq=>T.jp (ι:=GMk) (λy=>Sm x y) (λJ k=>T.br (λ_=>T.eq (zlI _ _) (k _ (Sm.fl (by decide)))) λ_=>k _ (Sm.refl x)) λy hy=>T.some ⟨hy,hq⟩)
  refine T.jp (λ_=>True) (λJ1 k1=>T.br (λ_=>k1 _ trivial) λ_=>k1 _ trivial) λb1 _=>T.br (λ_=>k _ hv) λ_=>?_
  refine T.br (λ_=>T.jp (λ_=>True) (λJ1 k1=>T.br (λ_=>T.cal (zo0 _ _) λ_ _ _=>k1 _ trivial) λ_=>k1 _ trivial) λb2 _=>k _ hv) λ_=>?_
  refine T.jp (λ_=>True) (λJ1 k1=>T.br (λ_=>k1 _ trivial) λ_=>k1 _ trivial) λb3 _=>T.br (λ_=>?_) λ_=>?_
  · refine T.jp (λ_=>True) (λJ1 k1=>T.br (λ_=>T.cal (zo0 _ _) λ_ _ _=>k1 _ trivial) λ_=>k1 _ trivial) λb4 _=>?_
    refine T.jp (λ_=>True) (λJ1 k1=>T.br (λ_=>T.jp (λ_=>True) (λJ2 k2=>T.br (λ_=>k2 _ trivial) λ_=>T.cal (zr4 _ (by have:=hv.1;omega)) λ_ _ _=>k2 _ trivial) λb5 _=>k1 _ trivial) λ_=>k1 _ trivial) λb6 _=>k _ hv
  · refine T.br (λh3=>T.br (λ_=>?_) λ_=>k _ hv) λ_=>k _ hv
    have h3:=zOT h3
    have r2:=r1 h3
    refine T.lp (ι:=Bool × Int × Val) (λq=>0 <= q.2.1/\q.2.1 <= t.root/\DOk q.2.2) (λq=>(t.root - q.2.1).toNat) ⟨zIl _,r0,hv⟩ (by dsimp only;omega) λL q ⟨q1,q2,q3⟩ hL=>?_
    obtain ⟨b,j,w⟩:=q
    dsimp only at q1 q2 q3 hL ⊢
    refine T.jp (λb'=>b'=true->j < t.root) (λJ1 k1=>T.br (λh4=>k1 _ λ_=>zOT h4) λ_=>k1 _ λh=>by cases h) λb' hb'=>T.br (λh5=>?_) λ_=>k _ q3
    have h5:=hb' h5
    refine T.jp (ι:=Bool × Val) (λp=>DOk p.2) (λJ2 k2=>T.get q1 (by omega) λy _=>T.br (λ_=>T.get q1 (by omega) λy2 _=>k2 _ ⟨zNz _,rfl,rfl,zOT rfl,zOT rfl,rfl⟩) λ_=>k2 _ q3) λp hp=>T.ck (by omega) (hL _ ⟨by dsimp only;omega,by dsimp only;omega,hp⟩ (by dsimp only;omega))
theorem zo3 {x:GMk} {i:Nat} (hi:i < x.l.length):T (λr=>r.2=x) (zdv x (i:Int)):=by
 unfold zdv
 have hti:(i:Int).toNat=i:=Int.toNat_natCast i
 refine T.asd ⟨by omega,by omega⟩ ?_
 rw [hti]
 exact T.eq (List.getElem?_eq_getElem hi) (T.br (λ_=>T.some rfl) λ_=>T.some rfl)
theorem zva (tags:List Tag) (n mode:Int) (hl:tags.length <= 1000000):T (λr=>r.2=0->r.1 ≠ []/\r.1.length <= tags.length + 1) (zkA tags n mode):=by
 unfold zkA
 refine T.jp (λ_=>True) (λJ k=>T.br (λ_=>k _ trivial) λ_=>k _ trivial) λb1 _=>?_
 refine T.jp (λb=>b=false->(mode=1->0 < tags.length)) (λJ k=>T.br (λ_=>k _ λh=>by cases h) λ_=>?_) λb2 hb2=>T.br (λ_=>T.some λh=>by cases h) λh2=>?_
 ·refine T.jp (λb=>b=false->(mode=1->0 < tags.length)) (λJ2 k2=>T.br (λ_=>k2 _ λh _=>?_) λh=>k2 _ λ_ hm=>absurd hm (zOF h)) λb hb=>k _ hb
  have:=zOF h
  omega
 ·have h2:=hb2 h2
  rw [tkl]
  refine T.br (λh3=>T.asd ⟨by omega,by have:=h2 (zOT h3);omega,zIl _⟩ (T.abl (by rw [zLd,zLs];omega) (T.some λ_=>⟨by simp,by dsimp only;rw [zLa,zLd,zLs];omega⟩))) λh3=>T.abl (by rw [zLs];omega) (T.some λ_=>⟨by simp,by dsimp only;rw [zLa,zLs];omega⟩)
def Wp1 (x y:GMk) (i:Nat):Prop:=y.m=x.m/\y.l.length=x.l.length/\(y.e=0->x.e=0/\∀ t,x.l[i]?=some t->∃ tg:List Tag,y.l=x.l.set i { t with tags:=tg }/\tg ≠ []/\tg.length <= t.tags.length + 1)
theorem zn0 {x:GMk} {i:Nat} {t:zg} (n mode:Int) (ht:x.e=0->x.l[i]?=some t/\t.tags.length <= 100000):T (λy=>Wp1 x y i) (zdw x (i:Int) n mode):=by
 unfold zdw
 refine T.br (λhe=>T.some ⟨rfl,rfl,λh=>absurd h (by simpa using he)⟩) λhe=>?_
 have he:x.e=0:=by simpa using he
 obtain ⟨h1,h2⟩:=ht he
 have hlt:=(List.getElem?_eq_some_iff.1 h1).1
 have hti:(i:Int).toNat=i:=Int.toNat_natCast i
 refine T.asd ⟨by omega,by omega⟩ ?_
 rw [hti]
 refine T.eq h1 (T.cal (zva _ _ _ (by omega)) λr _ hr=>T.br (λhr2=>T.eq (zlI _ _) (T.some ⟨zBM _ _,by rw [zBv],λh=>absurd h (zwi (by simpa using hr2))⟩)) λhr2=>?_)
 have hr2:r.2=0:=by simpa using hr2
 obtain ⟨h3,h4⟩:=hr hr2
 refine T.asd ⟨by omega,by omega⟩ (T.eq h1 (T.some ⟨rfl,by dsimp only;rw [List.length_set],λ_=>⟨he,λt' ht'=>?_⟩⟩))
 rw [h1] at ht';cases ht'
 exact ⟨r.1,rfl,h3,h4⟩
theorem zjO.tag {t:zg} (h:zjO t) {tg:List Tag} (h1:tg ≠ []) (h2:tg.length <= 100000):zjO { t with tags:=tg } :=
 ⟨λ_=>h1,h2,h.root0,h.rootF,h.rootI,h.fields,h.items,h.ilen,h.nums,h.dflt,h.rootZ⟩
def Dn (m:zaB) (a:Int) (k j:Nat):Prop:=∀ (p:Nat) (n:zh),k <= p->p < j->m.nodes[p]?=some n->n.kind=11->0 <= fnd m.names n.name/\Ed (gr m) a (fnd m.names n.name)
structure Env (m:zaB) (rk:Int->Nat):Prop where
 wf:WF m
 rk40:∀ i,rk i <= 40
 ed:∀ i j,Ed (gr m) i j->rk j < rk i
 root:∀ b:Int,0 <= b->b < m.names.length->∃ c d:Nat,m.types[b.toNat]?=some (c:Int)/\Sub 17 m.nodes c d/\d <= m.nodes.length/\Dn m b c d
structure Gk (x y:GMk):Prop where
 m:y.m=x.m
 le:x.l.length <= y.l.length
 lim:y.l.length <= 300
 e:y.e=0->x.e=0
 pre:y.e=0->∀ k,k < x.l.length->y.l[k]?=x.l[k]?
theorem Gk.refl {x:GMk} (h:x.l.length <= 300):Gk x x:=⟨rfl,zNl _,h,λe=>e,λ_ _ _=>rfl⟩
theorem Gk.sm {x y:GMk} (h:Sm x y) (k:x.l.length <= 300):Gk x y:=⟨h.m,by rw [h.l];exact zNl _,by rw [h.l];exact k,h.e,λ_ _ _=>by rw [h.l]⟩
theorem Gk.trans {x y z:GMk} (h:Gk x y) (k:Gk y z):Gk x z :=
 ⟨k.m.trans h.m,Nat.le_trans h.le k.le,k.lim,λe=>h.e (k.e e),λe p hp=>(k.pre e p (Nat.lt_of_lt_of_le hp h.le)).trans (h.pre (k.e e) p hp)⟩
def zso (m:zaB) (rk:Int->Nat) (f:GMk->Int->Int->Option (Int × GMk)) (N:Nat):Prop :=
 ∀ (x:GMk) (k j h:Nat) (a d:Int),x.m=m->x.l.length <= 300->Sub h m.nodes k j->j <= m.nodes.length->Dn m a k j->rk a * 301 + (j - k) <= N->0 <= d->d <= 17 ->
 T (λr=>Gk x r.2/\(r.2.e=0->r.1=(x.l.length:Int)/\zbO (17 - d).toNat r.2.l x.l.length r.2.l.length/\∃ t,r.2.l[x.l.length]?=some t/\t.tags.length <= N + 1)) (f x (k:Int) d)
def zrD (m:zaB) (rk:Int->Nat) (f:GMk->zh->Int->Option (Int × GMk)) (N:Nat):Prop :=
 ∀ (x:GMk) (n:zh) (k j h:Nat) (a d:Int),x.m=m->x.l.length <= 300->m.nodes[k]?=some n->n.kind ≠ 11->Sub h m.nodes k j->j <= m.nodes.length->Dn m a k j->rk a * 301 + (j - k) <= N->0 <= d->d <= 17 ->
 T (λr=>Gk x r.2/\(r.2.e=0->r.1=(x.l.length:Int)/\zbO (17 - d).toNat r.2.l x.l.length r.2.l.length/\∃ t,r.2.l[x.l.length]?=some t/\t.tags.length <= 1)) (f x n d)
def zmw (m:zaB) (rk:Int->Nat) (f:GMk->Int->zh->Int->Option GMk) (N:Nat):Prop :=
 ∀ (x:GMk) (n:zh) (k j h:Nat) (a d:Int) (l0:List zg) (t:zg),x.m=m->x.l=l0 ++ [t]->x.l.length <= 300->m.nodes[k]?=some n->zaN (Sub h m.nodes) (n.fields.map λf=>f.ty) (k + 1) j->j <= m.nodes.length->Dn m a k j->rk a * 301 + (j - k) <= N->0 <= d->d <= 16 ->
  (n.kind=7 \/ n.kind=8 \/ n.kind=9)->t.kind=n.kind->t.root=n.root ->
 T (λy=>y.m=m/\x.l.length <= y.l.length/\y.l.length <= 300/\(y.e=0->x.e=0/\(∀ p,p < l0.length->y.l[p]?=x.l[p]?)/\∃ fs,y.l[l0.length]?=some { t with fields:=fs }/\fs.length=n.fields.length/\zaN (zbO (16 - d).toNat y.l) (fs.map λf=>f.ty) x.l.length y.l.length/\∀ f ∈ fs,DOk f.dflt)) (f x (l0.length:Int) n d)

theorem zaN.subs {h:Nat} {l:List zh} {k:Int} {r:List Int} {a b:Nat} (hk:zaN (Sub h l) r a b) (hm:k ∈ r):∃ (c d:Nat),k=(c:Int)/\Sub h l c d/\a <= c/\d <= b:=zaN.mem3 (λx y h=>Nat.le_of_lt h.lt) hk hm
theorem Dn.part {m:zaB} {a:Int} {k j c d:Nat} (h:Dn m a k j) (h1:k <= c) (h2:d <= j):Dn m a c d:=λp n hp hq=>h p n (by omega) (by omega)

theorem zmn {m : zaB} {rk:Int->Nat} {Fs Nd Md} {N:Nat} (E:Env m rk) (hN:N <= 50000) (hnd:∀ N',N' + 1=N->zso m rk Nd N'):zmw m rk (zcT Fs Nd Md) N:=by
  intro x n k j h a d l0 t hm hxl hx3 hk hkid hj hdn hN2 hd0 hd hkind htk htr
  unfold zcT
  have hok:=E.wf.ok n (List.mem_of_getElem? hk)
  have hkl:=zaN.length hkid
  have hnl:=E.wf.nodes
  rw [List.length_map] at hkl
  have hxlen:x.l.length=l0.length + 1:=by rw [hxl,zLa,zLs]
  have hsub:∀ f ∈ n.fields,∃ c d:Nat,f.ty=(c:Int)/\Sub h m.nodes c d/\k + 1 <= c/\d <= j:=λf hf=>by
    obtain ⟨c,d,h1,h2,h3,h4⟩:=zaN.subs hkid (List.mem_map.2 ⟨f,hf,rfl⟩)
    exact ⟨c,d,h1,h2,h3,h4⟩
  refine T.lp (ι:=Bool × Int) (λq=>0 <= q.2/\q.2 <= n.fields.length) (λq=>((n.fields.length:Int) - q.2).toNat) ⟨zIl _,by dsimp only;omega⟩ (by dsimp only;omega) λL q ⟨q1,q2⟩ hL=>?_
  obtain ⟨mk,i⟩:=q
  dsimp only at q1 q2 hL ⊢
  refine T.br (λhb=>?_) λhb=>?_
  · have hb:=zOT hb
    refine T.get q1 hb λf hf=>?_
    obtain ⟨c,dd,h1,h2,h3,h4⟩:=hsub f (List.mem_of_getElem? hf)
    have:=h2.lt
    refine T.jp (λ_=>True) (λJ kk=>T.br (λ_=>kk _ trivial) λ_=>T.get (by omega) (by rw [hm];omega) λ_ _=>kk _ trivial) λb _=>T.ck (by omega) (hL _ ⟨by dsimp only;omega,by dsimp only;omega⟩ (by dsimp only;omega))
  refine T.jp (λ_=>True) (λJ kk=>T.br (λ_=>kk _ trivial) λ_=>kk _ trivial) λb1 _=>T.jp (λ_=>True) (λJ kk=>T.br (λ_=>kk _ trivial) λ_=>kk _ trivial) λb2 _=>?_
  refine T.jp (ι:=GMk) (λy=>Sm x y) (λJ kk=>T.br (λ_=>T.eq (zlI _ _) (kk _ (Sm.fl (by decide)))) λ_=>kk _ (Sm.refl x)) λx1 hx1=>?_
  -- the fields, one behind the other
  have hD:(17 - (d + 1)).toNat=(16 - d).toNat:=by omega
  refine T.lp (ι:=List zaC × Int × GMk) (λq=>0 <= q.2.1/\q.2.1 <= n.fields.length/\Gk x q.2.2/\(q.1.length:Int)=q.2.1/\(q.2.2.e=0->zaN (zbO (16 - d).toNat q.2.2.l) (q.1.map λf=>f.ty) x.l.length q.2.2.l.length/\∀ f ∈ q.1,DOk f.dflt)) (λq=>((n.fields.length:Int) - q.2.1).toNat)
    ⟨zIl _,by dsimp only;omega,Gk.sm hx1 hx3,rfl,λ_=>⟨by dsimp only;rw [hx1.l];rfl,by simp⟩⟩ (by dsimp only;omega) λL2 q ⟨p1,p2,p3,p4,p5⟩ hL2=>?_
  obtain ⟨out,i2,y⟩:=q
  dsimp only at p1 p2 p3 p4 p5 hL2 ⊢
  refine T.jp (λb=>(b=true->i2 < n.fields.length)/\(b=false->y.e=0->¬ i2 < n.fields.length)) (λJ kk=>T.br (λh1=>kk _ ⟨λ_=>zOT h1,λh2 h3=>absurd h3 (zOF h2)⟩) λh1=>kk _ ⟨(λh=>by cases h),λ_ _=>zOF h1⟩) λb hb2=>T.br (λhb3=>?_) λhb3=>?_
  · have hb3 := hb2.1 hb3
    refine T.get p1 hb3 λf hf=>?_
    obtain ⟨c,dd,h1,h2,h3,h4⟩:=hsub f (List.mem_of_getElem? hf)
    have hclt:=h2.lt
    have hN1:N - 1 + 1 < 100000:=by omega
    have hA:∀ p:zaC,(out ++ [p]).length <= 100000/\((out ++ [p]).length:Int)=i2 + 1:=λp=>by rw [zLa,zLs];omega
    have hA2:0 <= i2 + 1/\i2 + 1 <= (n.fields.length:Int)/\i2 + 1 <= 100000:=by omega
    have hA4:-9223372036854775808 <= i2 + 1/\i2 + 1 <= 9223372036854775807:=by omega
    have hA3:((n.fields.length:Int) - (i2 + 1)).toNat < ((n.fields.length:Int) - i2).toNat:=by omega
    have hfd:DOk f.dflt:=hok.dflt f (List.mem_of_getElem? hf)
    refine T.lp (ι:=Int × GMk) (λp=>0 <= p.1/\p.1 <= i2/\Sm y p.2) (λp=>(i2 - p.1).toNat) ⟨zIl _,p1,Sm.refl y⟩ (by dsimp only;omega) λL3 p ⟨s1,s2,s3⟩ hL3=>?_
    obtain ⟨i3,y2⟩:=p
    dsimp only at s1 s2 s3 hL3 ⊢
    refine T.br (λhb4=>?_) λhb4=>?_
    · have hb4:=zOT hb4
      refine T.jp (ι:=GMk) (λz=>Sm y z) (λJ kk=>T.get s1 (by omega) λg _=>T.br (λ_=>T.eq (zlI _ _) (kk _ (s3.trans (Sm.fl (by decide))))) λ_=>kk _ s3) λz hz=>T.ck (by omega) (hL3 _ ⟨by dsimp only;omega,by dsimp only;omega,hz⟩ (by dsimp only;omega))
    refine T.ck (by omega) ?_
    rw [h1]
    have hy2l:y2.l.length=y.l.length:=by rw [s3.l]
    have hlim:=p3.lim
    refine T.cal (hnd (N - 1) (by omega) y2 c dd h a (d + 1) (s3.m.trans (p3.m.trans hm)) (by omega) h2 (by omega) (hdn.part (by omega) h4) (by omega) (by omega) (by omega)) λr _ ⟨r1,r2⟩=>?_
    have g1:Gk x r.2:=p3.trans ((Gk.sm s3 hlim).trans r1)
    refine T.jp (λb=>b=true->r.2.e=0) (λJ kk=>T.br (λh5=>kk _ λ_=>zOT h5) λ_=>kk _ λh=>by cases h) λb5 hb5=>?_
    -- the default
    refine T.jp (ι:=zaC × GMk) (λp=>Sm r.2 p.2/\p.1.ty=r.1/\DOk p.1.dflt) (λJ kk=>T.br (λh6=>?_) λ_=>kk _ ⟨Sm.refl _,rfl,hfd⟩) λp ⟨u1,u2,u3⟩=>?_
    · have h6:=hb5 h6
      obtain ⟨e1,e2,t1,e3,e4⟩:=r2 h6
      rw [e1]
      have hto:zjO t1:=by
        have:0 < (17 - (d + 1)).toNat:=by
          rcases Nat.eq_zero_or_pos (17 - (d + 1)).toNat with h | h
          · rw [h] at e2;exact e2.elim
          · exact h
        obtain ⟨D',hD'⟩:∃ D',(17 - (d + 1)).toNat=D' + 1:=⟨_,(Nat.succ_pred_eq_of_pos this).symm⟩
        rw [hD'] at e2
        obtain ⟨t2,k1,k2,_⟩:=e2
        rw [e3] at k1;cases k1;exact k2
      exact T.cal (zoa f.dflt e3 hfd hto.root0 hto.rootI hto.ilen) λs _ hs=>kk _ ⟨hs.1,e1.symm,hs.2⟩
    refine T.jp (λb=>b=true->p.2.e=0) (λJ kk=>T.br (λh5=>kk _ λ_=>zOT h5) λ_=>kk _ λh=>by cases h) λb6 hb6=>?_
    -- a tag of its own
    have hfin : ∀ z:GMk,z.m=r.2.m->z.l.length=r.2.l.length->(z.e=0->r.2.e=0/\((z.l=r.2.l) \/ ∃ t1 tg,r.2.l[y2.l.length]?=some t1/\z.l=r.2.l.set y2.l.length { t1 with tags:=tg }/\tg ≠ []/\tg.length <= t1.tags.length + 1)) ->
        Gk x z/\(z.e=0->zaN (zbO (16 - d).toNat z.l) ((out ++ [p.1]).map λf=>f.ty) x.l.length z.l.length/\∀ f ∈ out ++ [p.1],DOk f.dflt):=by
      intro z z1 z2 z3
      have hpre:z.e=0->∀ q,q < y2.l.length->z.l[q]?=r.2.l[q]?:=λez q hq=>by
        rcases (z3 ez).2 with h | ⟨t1,tg,_,h,_⟩
        · rw [h]
        · rw [h,List.getElem?_set_ne (by omega)]
      refine ⟨⟨z1.trans g1.m,by rw [z2];exact g1.le,by rw [z2];exact g1.lim,λez=>g1.e (z3 ez).1,λez q hq=>?_⟩,λez=>?_⟩
      · have:=p3.le
        rw [hpre ez q (by omega)]
        exact g1.pre (z3 ez).1 q hq
      · have er := (z3 ez).1
        obtain ⟨e1,e2,t1,e3,e4⟩:=r2 er
        have ey:y.e=0:=s3.e (r1.e er)
        obtain ⟨k1,k2⟩:=p5 ey
        rw [hD] at e2
        have e2z:zbO (16 - d).toNat z.l y2.l.length z.l.length:=by
          rw [z2]
          rcases (z3 ez).2 with h | ⟨t2,tg,k3,h,k4,k5⟩
          · rw [h];exact e2
          · rw [h]
            rw [e3] at k3;cases k3
            have hto:zjO t1:=by
              cases hDz:(16 - d).toNat with
              | zero=>rw [hDz] at e2;exact e2.elim
              | succ D' =>
                rw [hDz] at e2
                obtain ⟨t3,k6,k7,_⟩:=e2
                rw [e3] at k6;cases k6;exact k7
            exact e2.set e3 (hto.tag k4 (Nat.le_trans k5 (Nat.succ_le_of_lt (Nat.lt_of_le_of_lt e4 hN1)))) rfl
        rw [hy2l] at e2z
        refine ⟨?_,λf' hf'=>?_⟩
        · rw [List.map_append,List.map_singleton,u2,e1,hy2l]
          refine zaN.snoc (KidsT.monoL (λq hq1 hq2=>?_) k1) e2z
          rw [hpre ez q (by omega),r1.pre er q (by omega),s3.l]
        · rcases List.mem_append.1 hf' with h | h
          · exact k2 f' h
          · rw [zMo.1 h];exact u3
    refine T.jp (ι:=GMk) (λz=>Gk x z/\(z.e=0->zaN (zbO (16 - d).toNat z.l) ((out ++ [p.1]).map λf=>f.ty) x.l.length z.l.length/\∀ f ∈ out ++ [p.1],DOk f.dflt)) (λJ kk=>T.br (λh6=>?_) λ_=>kk _ (hfin p.2 u1.m (by rw [u1.l]) λez=>⟨u1.e ez,.inl u1.l⟩)) λz ⟨v1,v2⟩=>?_
    · have h6:=hb6 h6
      have er:=u1.e h6
      obtain ⟨e1,e2,t1,e3,e4⟩:=r2 er
      have hlt:=(List.getElem?_eq_some_iff.1 e3).1
      rw [u2,e1]
      refine T.cal (zo3 (x:=p.2) (i:=y2.l.length) (by rw [u1.l];exact hlt)) λs _ hs=>?_
      rw [hs]
      refine T.cal (zn0 (t:=t1) _ _ (λ_=>⟨by rw [u1.l];exact e3,by omega⟩)) λz _ ⟨w1,w2,w3⟩=>kk _ (hfin z (w1.trans u1.m) (by rw [w2,u1.l]) λez=>⟨er,?_⟩)
      obtain ⟨tg,k1,k2,k3⟩:=(w3 ez).2 t1 (by rw [u1.l];exact e3)
      exact .inr ⟨t1,tg,e3,by rw [k1,u1.l],k2,k3⟩
    · exact T.abl (by have:=(hA p.1).1;rw [zLa] at this;exact Nat.le_trans this (by decide)) (T.ck hA4 (hL2 _ ⟨hA2.1,hA2.2.1,v1,(hA _).2,v2⟩ hA3))
  · -- all are there
    refine T.br (λhe=>?_) λhe=>T.some ⟨p3.m.trans hm,p3.le,p3.lim,λh=>absurd h (zOF he)⟩
    have he:=zOT he
    have hfin:=hb2.2 hb3 he
    obtain ⟨k1,k2⟩:=p5 he
    have hti:((l0.length:Nat):Int).toNat=l0.length:=Int.toNat_natCast _
    have hle:=p3.le
    have hlim:=p3.lim
    have hget:y.l[l0.length]?=some t:=by
      rw [p3.pre he l0.length (by omega),hxl,List.getElem?_append_right (zNl _),Nat.sub_self];rfl
    have hget2:(y.l.set l0.length { t with fields:=out })[l0.length]?=some { t with fields:=out }:=List.getElem?_set_self (by omega)
    have hmono:∀ q,l0.length + 1 <= q->(y.l.set l0.length { t with fields:=out })[q]?=y.l[q]?:=λq hq=>List.getElem?_set_ne (by omega)
    have hkids:zaN (zbO (16 - d).toNat (y.l.set l0.length { t with fields:=out })) (out.map λf=>f.ty) x.l.length y.l.length:=KidsT.monoL (λq hq1 hq2=>hmono q (by omega)) k1
    refine T.asd ⟨by omega,by omega⟩ ?_
    rw [hti]
    refine T.eq hget (T.asd ⟨by omega,by rw [List.length_set];omega⟩ (T.eq hget2 ?_))
    have hpost:∀ z:GMk,Sm (GMk.mk y.m (y.l.set l0.length { t with fields:=out }) y.e) z->(z.m=m/\x.l.length <= z.l.length/\z.l.length <= 300/\(z.e=0->x.e=0/\(∀ p,p < l0.length->z.l[p]?=x.l[p]?)/\∃ fs,z.l[l0.length]?=some { t with fields:=fs }/\fs.length=n.fields.length/\zaN (zbO (16 - d).toNat z.l) (fs.map λf=>f.ty) x.l.length z.l.length/\∀ f ∈ fs,DOk f.dflt)):=by
      intro z hz
      have zl:=hz.l
      dsimp only at zl
      refine ⟨hz.m.trans (p3.m.trans hm),by rw [zl,List.length_set];exact hle,by rw [zl,List.length_set];exact hlim,λez=>⟨p3.e (hz.e ez),λq hq=>?_,out,by rw [zl];exact hget2,by omega,by rw [zl,List.length_set];exact hkids,k2⟩⟩
      rw [zl,List.getElem?_set_ne (by omega)]
      exact p3.pre he q (by omega)
    refine T.cal (zvz (h:=(16 - d).toNat) (a:=x.l.length) (b:=y.l.length) (x:=GMk.mk y.m (y.l.set l0.length { t with fields:=out }) y.e) (t:={ t with fields:=out }) hkids (by omega) (by dsimp only;rw [List.length_set];omega) (by dsimp only;rw [List.length_set];exact zNl _) (by dsimp only;rw [htr];exact hok.root0) (λh7=>by dsimp only;rw [htr];have:=hok.fields (by omega);omega)) λr _ hr=>?_
    rw [hr]
    exact T.br (λ_=>T.eq (zlI _ _) (T.some (hpost _ (Sm.fl (by decide))))) λ_=>T.some (hpost _ (Sm.refl _))
theorem zwq {U V N p q c:Nat} (h:U + (c + 1) <= V) (h2:V + p <= N) (hp:0 < p) (hq:q <= c):U + q <= N - 1:=by omega
theorem zv2 (c:Nat) {u v N p q:Nat} (h:u < v) (h2:v * (c + 1) + p <= N) (hp:0 < p) (hq:q <= c):u * (c + 1) + q <= N - 1:=by
 have h3:=Nat.mul_le_mul_right (c + 1) (Nat.succ_le_of_lt h)
 rw [Nat.succ_mul] at h3
 exact zwq h3 h2 hp hq
theorem zyN {u v N p q:Nat} (h:u < v) (h2:v * 301 + p <= N) (hp:0 < p) (hq:q <= 300):u * 301 + q <= N - 1:=zv2 300 h h2 hp hq
theorem znT {m:zaB} {rk:Int->Nat} {Fs Nd Md} {N:Nat} (E:Env m rk) (hN:N <= 50000) (hnd:∀ N',N' + 1=N->zso m rk Nd N') (hmd:zrD m rk Md N):zso m rk (zdi Fs Nd Md) N:=by
 intro x k j h a d hm hx3 hs hj hdn hN2 hd0 hd
 unfold zdi
 have hlt:=hs.lt
 obtain ⟨n,hn⟩:∃ n,m.nodes[k]?=some n:=⟨_,List.getElem?_eq_getElem (by omega)⟩
 refine T.br (λhb=>T.some ⟨Gk.refl hx3,λe=>absurd e (by simpa using hb)⟩) λhb=>?_
 refine T.get (Int.natCast_nonneg _) (by rw [hm];omega) λn' hn'=>?_
 rw [hm,Int.toNat_natCast,hn] at hn'
 cases hn'
 have hN0:1 <= N:=by omega
 refine T.jp (ι:=Int × GMk) (λr=>Gk x r.2/\(r.2.e=0->r.1=(x.l.length:Int)/\zbO (17 - d).toNat r.2.l x.l.length r.2.l.length/\∃ t,r.2.l[x.l.length]?=some t/\t.tags.length <= N)) (λJ kk=>T.br (λhk=>?_) λhk=>?_) λq ⟨q1,q2⟩=>?_
 ·have hk:=zOT hk
  obtain ⟨f0,f1⟩:=hdn k n (zNl _) hlt hn hk
  have hf2:fnd m.names n.name < m.names.length:=by
   rcases zmk m.names n.name with h | h
   ·omega
   ·exact h.2.1
  obtain ⟨c,dd,c1,c2,c3,c4⟩:=E.root _ f0 (by omega)
  have hrk:=E.ed _ _ f1
  have hwn:=E.wf.nodes
  have hc:=c2.lt
  have hNN:rk (fnd m.names n.name) * 301 + (dd - c) <= N - 1:=zyN hrk hN2 (Nat.sub_pos_of_lt hlt) (Nat.le_trans (Nat.sub_le _ _) (Nat.le_trans c3 hwn))
  refine T.eq (zsF x.m n.name (by rw [hm];have:=E.wf.names;omega)) (T.get (by rw [hm];exact f0) (by rw [hm,E.wf.types];omega) λy hy=>?_)
  rw [hm,c1] at hy
  cases hy
  exact T.cal (hnd (N - 1) (by omega) x c dd 17 _ d hm hx3 c2 c3 c4 hNN hd0 hd) λr _ ⟨r1,r2⟩=>kk _ ⟨r1,λe=>by
   obtain ⟨e1,e2,t,e3,e4⟩:=r2 e
   exact ⟨e1,e2,t,e3,Nat.le_trans e4 (by rw [Nat.sub_add_cancel hN0];exact zNl _)⟩⟩
 ·have hk:=zOF hk
  exact T.cal (hmd x n k j h a d hm hx3 hn hk hs hj hdn hN2 hd0 hd) λr _ ⟨r1,r2⟩=>kk _ ⟨r1,λe=>by
   obtain ⟨e1,e2,t,e3,e4⟩:=r2 e
   exact ⟨e1,e2,t,e3,Nat.le_trans e4 hN0⟩⟩
 have hNb:N < 100000:=by omega
 refine T.jp (λb=>b=true->q.2.e=0) (λJ kk=>T.br (λh5=>kk _ λ_=>zOT h5) λ_=>kk _ λh=>by cases h) λb hb3=>?_
 refine T.jp (ι:=GMk) (λz=>Gk x z/\(z.e=0->q.1=(x.l.length:Int)/\zbO (17 - d).toNat z.l x.l.length z.l.length/\∃ t,z.l[x.l.length]?=some t/\t.tags.length <= N + 1)) (λJ kk=>T.br (λh6=>?_) λ_=>kk _ ⟨q1,λe=>?_⟩) λz ⟨z1,z2⟩=>T.some ⟨z1,z2⟩
 ·have h6:=hb3 h6
  obtain ⟨e1,e2,t,e3,e4⟩:=q2 h6
  have hl1:=(List.getElem?_eq_some_iff.1 e3).1
  have hto:zjO t:=by
   cases hD:(17 - d).toNat with
   | zero=>rw [hD] at e2;exact e2.elim
   | succ D' =>
    rw [hD] at e2
    obtain ⟨t3,k6,k7,_⟩:=e2
    rw [e3] at k6;cases k6;exact k7
  refine T.jp (ι:=Int × GMk) (λp=>p.2=q.2) (λJ2 k2=>T.br (λ_=>k2 _ rfl) λ_=>T.jp (λ_=>True) (λJ3 k3=>T.br (λ_=>k3 _ trivial) λ_=>k3 _ trivial) λb4 _=>T.br (λ_=>?_) λ_=>k2 _ rfl) λp hp=>?_
  ·rw [e1]
   exact T.cal (zo3 hl1) λs _ hs=>k2 _ hs
  ·rw [hp,e1]
   refine T.cal (zn0 (t:=t) _ _ (λ_=>⟨e3,Nat.le_of_lt (Nat.lt_of_le_of_lt e4 hNb)⟩)) λz _ ⟨w1,w2,w3⟩=>kk _ ⟨⟨w1.trans q1.m,by rw [w2];exact q1.le,by rw [w2];exact q1.lim,λez=>q1.e (w3 ez).1,λez p hp=>?_⟩,λez=>?_⟩
   ·obtain ⟨tg,k1,k2,k3⟩:=(w3 ez).2 t e3
    rw [k1,List.getElem?_set_ne (Nat.ne_of_gt hp)]
    exact q1.pre h6 p hp
   ·obtain ⟨tg,k1,k2,k3⟩:=(w3 ez).2 t e3
    rw [w2,k1]
    exact ⟨e1,e2.set e3 (hto.tag k2 (Nat.le_trans k3 (Nat.succ_le_of_lt (Nat.lt_of_le_of_lt e4 hNb)))) rfl,_,List.getElem?_set_self hl1,Nat.le_trans k3 (Nat.succ_le_succ e4)⟩
 ·obtain ⟨e1,e2,t,e3,e4⟩:=q2 e
  exact ⟨e1,e2,t,e3,Nat.le_succ_of_le e4⟩
structure New (n:zh) (t:zg):Prop where
 kind:t.kind=n.kind
 root:t.root=n.root
 items:t.items=[]
 fields:t.fields=[]
 tags:t.kind ≠ 9->t.tags ≠ []
 tlen:t.tags.length <= 1
theorem New.ok {n:zh} {t:zg} (h:New n t) (hn:zir n) (h3:n.kind ≠ 3) (h7:n.kind ≠ 7) (h8:n.kind ≠ 8) (h9:n.kind ≠ 9) (o:Int):zjO { t with of:=o }:=by
 have hk:=h.kind
 exact ⟨h.tags,by have:=h.tlen;show t.tags.length <= _;omega,by rw [h.root];exact hn.root0,λe=>by rcases e with e | e | e <;> (rw [hk] at e;contradiction),λe=>by rw [hk] at e;contradiction,λ_=>h.fields,λ_=>h.items,by show t.items.length <= _;rw [h.items];decide,λit hit=>(by dsimp only at hit;rw [h.items] at hit;cases hit),λf hf=>(by dsimp only at hf;rw [h.fields] at hf;cases hf),λ_ _=>(by dsimp only;rw [h.root];exact hn.rootZ h3 (by omega))⟩
theorem zmD {α:Type} (l:List α) (t:α):(l ++ [t])[l.length]?=some t:=by rw [List.getElem?_append_right (zNl _),Nat.sub_self];rfl
theorem zo2 {m:zaB} {rk:Int->Nat} {Fs Nd Md} {N:Nat} (E:Env m rk) (hN:N <= 50000) (hnd:∀ N',N' + 1=N->zso m rk Nd N') (hfs:zmw m rk Fs N):zrD m rk (zdf Fs Nd Md) N:=by
 intro x n k j h a d hm hx3 hn hk11 hs hj hdn hN2 hd0 hd
 unfold zdf
 have hlt:=hs.lt
 have hok:=E.wf.ok n (List.mem_of_getElem? hn)
 obtain ⟨h',rfl,hkid⟩:∃ h',h=h' + 1/\zaN (Sub h' m.nodes) (zet n) (k + 1) j:=by
  cases h with
  | zero=>exact hs.elim
  | succ h' =>
   obtain ⟨n',e1,e2⟩:=hs
   rw [hn] at e1;cases e1
   exact ⟨h',rfl,e2⟩
 refine T.jp (λb=>b=false->d <= 16/\x.l.length < 300) (λJ kk=>T.br (λ_=>kk _ λh=>by cases h) λh1=>kk _ λh2=>?_) λb hb=>T.br (λ_=>T.eq (zlI _ _) (T.some ⟨Gk.sm (Sm.fl (by decide)) hx3,λe=>absurd e (zwi (by decide))⟩)) λhb1=>?_
 ·have h1:=zOF h1
  have h2:=zOF h2
  omega
 obtain ⟨hd16,hx300⟩:=hb hb1
 obtain ⟨D,hD,hD2⟩:∃ D,(17 - d).toNat=D + 1/\(16 - d).toNat=D:=⟨(16 - d).toNat,by omega,rfl⟩
 refine T.jp (ι:=zg) (λt=>New n t) (λJ kk=>T.br (λ_=>T.cal (zwQ _) λu _ _=>kk _ ⟨rfl,rfl,rfl,rfl,λ_=>by simp,by simp⟩) λh9=>kk _ ⟨rfl,rfl,rfl,rfl,λh=>absurd (by simpa using h9) h,by simp⟩) λt ht=>?_
 refine T.jp (ι:=GMk) (λy=>y=GMk.mk x.m (x.l ++ [t]) x.e) (λJ kk=>T.abl (by rw [zLs];omega) (kk _ rfl)) λy hy=>?_
 subst hy
 have hxl1:(x.l ++ [t]).length=x.l.length + 1:=by rw [zLa,zLs]
 have hkind:=ht.kind
 have g0:∀ y:GMk,Sm (GMk.mk x.m (x.l ++ [t]) x.e) y->Gk x y:=λy hy=>⟨hy.m,by rw [hy.l];dsimp only;omega,by rw [hy.l];dsimp only;omega,hy.e,λ_ q hq=>by rw [hy.l];exact List.getElem?_append_left hq⟩
 have hti:((x.l.length:Nat):Int).toNat=x.l.length:=Int.toNat_natCast _
 have hleaf:n.kind ≠ 3->n.kind ≠ 7->n.kind ≠ 8->n.kind ≠ 9->n.kind ≠ 10->∀ y:GMk,Sm (GMk.mk x.m (x.l ++ [t]) x.e) y->(y.e=0->zbO (17 - d).toNat y.l x.l.length y.l.length/\∃ t,y.l[x.l.length]?=some t/\t.tags.length <= 1):=λh3 h7 h8 h9 h10 y hy _=>by
  have hl:=hy.l
  dsimp only at hl
  rw [hl,hD,hxl1]
  refine ⟨⟨t,zmD _ _,ht.ok hok h3 h7 h8 h9 t.of,?_⟩,t,zmD _ _,ht.tlen⟩
  unfold zhk
  rw [ht.fields,if_neg (by rw [hkind];exact h10)]
  rfl
 refine T.jp (ι:=GMk) (λy=>Gk x y/\(y.e=0->zbO (17 - d).toNat y.l x.l.length y.l.length/\∃ t,y.l[x.l.length]?=some t/\t.tags.length <= 1)) (λJ kk=>?_) λy ⟨y1,y2⟩=>T.some ⟨y1,λe=>⟨rfl,y2 e⟩⟩
 refine T.jp (λb=>b=decide (n.kind=2 \/ n.kind=5 \/ n.kind=6 \/ n.kind=10)) (λJ1 k1=>T.br (λh1=>k1 _ ?_) λh1=>T.br (λh2=>k1 _ ?_) λh2=>T.br (λh3=>k1 _ ?_) λh3=>k1 _ ?_) λb hb=>?_
 ·have h1:=zOT h1
  rw [zDT h1,zDT (.inl h1)]
 ·have h2:=zOT h2
  rw [zDT h2,zDT (.inr (.inl h2))]
 ·have h3:=zOT h3
  rw [zDT h3,zDT (.inr (.inr (.inl h3)))]
 ·have h1:=zOF h1
  have h2:=zOF h2
  have h3:=zOF h3
  rw [decide_eq_decide];omega
 subst hb
 refine T.br (λhb=>?_) λhb=>?_
 · -- a leaf with bounds, or a list
  have hb:=zOT hb
  refine T.cal (zvw _ _) λce _ _=>T.jp (ι:=GMk) (λy=>Sm (GMk.mk x.m (x.l ++ [t]) x.e) y) (λJ1 k1=>T.br (λhc=>T.eq (zlI _ _) (k1 _ (Sm.fl (by simpa using hc)))) λ_=>k1 _ (Sm.refl _)) λy hy=>T.br (λh10=>?_) λh10=>kk _ ⟨g0 y hy,hleaf (by omega) (by omega) (by omega) (by omega) (zOF h10) y hy⟩
  have h10:=zOT h10
  have hko:zet n=n.fields.map (λf=>f.ty) ++ [n.of]:=by unfold zet;rw [if_neg hk11,if_pos h10]
  obtain ⟨c,dd,c1,c2,c3,c4⟩:=zaN.subs hkid (k:=n.of) (by rw [hko];simp)
  have hc:=c2.lt
  have hyl:=hy.l
  dsimp only at hyl
  refine T.ck (by omega) ?_
  rw [c1]
  refine T.cal (hnd (N - 1) (by omega) y c dd h' a (d + 1) (hy.m.trans hm) (by rw [hyl];omega) c2 (by omega) (hdn.part (by omega) c4) (by omega) (by omega) (by omega)) λr _ ⟨r1,r2⟩=>?_
  have g1:Gk x r.2:=(g0 y hy).trans r1
  refine T.br (λhe=>?_) λhe=>kk _ ⟨g1,λe=>absurd e (zOF he)⟩
  have he:=zOT he
  have hpre:=r1.pre he x.l.length (by rw [hyl];omega)
  rw [hyl,zmD] at hpre
  have hl1:=(List.getElem?_eq_some_iff.1 hpre).1
  have hr:=r2 he
  clear r2
  obtain ⟨e1,e2,_⟩:=hr
  refine T.asd ⟨by omega,by omega⟩ ?_
  rw [hti]
  refine T.eq hpre (kk _ ⟨⟨g1.m,by rw [List.length_set];exact g1.le,by rw [List.length_set];exact g1.lim,g1.e,λe q hq=>by dsimp only;rw [List.getElem?_set_ne (by omega)];exact g1.pre he q hq⟩,λ_=>?_⟩)
  dsimp only
  rw [hD,List.length_set]
  refine ⟨⟨_,List.getElem?_set_self hl1,ht.ok hok (by omega) (by omega) (by omega) (by omega) r.1,?_⟩,_,List.getElem?_set_self hl1,ht.tlen⟩
  unfold zhk
  dsimp only
  rw [ht.fields,if_pos (by rw [hkind];exact h10)]
  have hD3:(17 - (d + 1)).toNat=D:=by omega
  rw [hD3,hyl,hxl1] at e2
  rw [e1,hyl,hxl1]
  exact ⟨_,rfl,zbO.mono (λq hq _=>List.getElem?_set_ne (by omega)) e2,rfl⟩
 have hb:=zOF hb
 refine T.br (λh3=>?_) λh3=>?_
 · -- an enumerated type
  have h3:=zOT h3
  refine T.cal (zrC (GMk.mk x.m (x.l ++ [t]) x.e) n hok (hok.items h3)) λr _ ⟨r1,r2,r3⟩=>?_
  dsimp only at r1 r2 r3 ⊢
  refine T.asd (by rw [r2]) (T.asd ⟨by omega,by omega⟩ ?_)
  rw [hti]
  have hget:r.2.l[x.l.length]?=some t:=by rw [r2];exact zmD _ _
  have hrl:r.2.l.length=x.l.length + 1:=by rw [r2];exact hxl1
  refine T.eq hget (kk _ ⟨⟨r1,by dsimp only;rw [List.length_set];omega,by dsimp only;rw [List.length_set];omega,λe=>(r3 e).1,λe q hq=>by dsimp only;rw [List.getElem?_set_ne (by omega),r2];exact List.getElem?_append_left hq⟩,λe=>?_⟩)
  obtain ⟨e1,e2,e3⟩:=r3 e
  have hil:=hok.ilen
  dsimp only
  rw [hD,List.length_set]
  refine ⟨⟨_,List.getElem?_set_self (by omega),⟨ht.tags,by have:=ht.tlen;dsimp only;omega,by dsimp only;rw [ht.root];exact hok.root0,λe=>by dsimp only at e;rw [hkind] at e;omega,λ_=>by dsimp only;rw [ht.root,e2];exact hok.items h3,λ_=>ht.fields,λe=>by dsimp only at e;rw [hkind] at e;contradiction,by dsimp only;rw [e2];exact hil,e3,λf hf=>(by dsimp only at hf;rw [ht.fields] at hf;cases hf),λe=>absurd (by dsimp only;rw [hkind];exact h3) e⟩,?_⟩,_,List.getElem?_set_self (by omega),ht.tlen⟩
  unfold zhk
  dsimp only
  rw [ht.fields,if_neg (by rw [hkind];omega),hrl]
  rfl
 have h3:=zOF h3
 refine T.jp (λb=>b=decide (n.kind=7 \/ n.kind=8 \/ n.kind=9)) (λJ1 k1=>T.br (λh1=>k1 _ ?_) λh1=>T.br (λh2=>k1 _ ?_) λh2=>k1 _ ?_) λb hb2=>?_
 ·have h1:=zOT h1
  rw [zDT h1,zDT (.inl h1)]
 ·have h2:=zOT h2
  rw [zDT h2,zDT (.inr (.inl h2))]
 ·have h1:=zOF h1
  have h2:=zOF h2
  rw [decide_eq_decide];omega
 subst hb2
 refine T.br (λhb2=>?_) λhb2=>kk _ ⟨g0 _ (Sm.refl _),?_⟩
 · -- fields
  have hb2:=zOT hb2
  have hko:zet n=n.fields.map (λf=>f.ty):=by unfold zet;rw [if_neg hk11,if_neg (by omega),List.append_nil]
  rw [hko] at hkid
  refine T.cal (hfs (GMk.mk x.m (x.l ++ [t]) x.e) n k j h' a d x.l t hm rfl (by dsimp only;omega) hn hkid hj hdn hN2 hd0 hd16 hb2 hkind ht.root) λy _ ⟨y1,y2,y3,y4⟩=>kk _ ⟨⟨y1.trans hm.symm,by dsimp only at y2;omega,y3,λe=>(y4 e).1,λe q hq=>?_⟩,λe=>?_⟩
  ·rw [(y4 e).2.1 q hq];exact List.getElem?_append_left hq
  obtain ⟨e1,e2,fs,e3,e4,e5,e6⟩:=y4 e
  dsimp only at e5
  rw [hD]
  refine ⟨⟨_,e3,⟨ht.tags,by have:=ht.tlen;dsimp only;omega,by dsimp only;rw [ht.root];exact hok.root0,λ_=>by dsimp only;rw [ht.root,e4];exact hok.fields hb2,λe=>by dsimp only at e;rw [hkind] at e;contradiction,λe=>absurd (by dsimp only;rw [hkind];exact hb2) e,λ_=>ht.items,by dsimp only;rw [ht.items];decide,λit hit=>(by dsimp only at hit;rw [ht.items] at hit;cases hit),e6,λ_ e=>absurd (by dsimp only;rw [hkind];exact hb2) e⟩,?_⟩,_,e3,ht.tlen⟩
  unfold zhk
  dsimp only
  rw [if_neg (by rw [hkind];omega),List.append_nil]
  rw [hD2,hxl1] at e5
  exact e5
 ·have hb2:=zOF hb2
  exact hleaf h3 (by omega) (by omega) (by omega) (by omega) _ (Sm.refl _)
theorem zuU {m:zaB} {rk:Int->Nat} (E:Env m rk):∀ N,N <= 30000 ->
    (∀ n,3 * N + 1 <= n->zmw m rk (zbU n) N)/\(∀ n,3 * N + 2 <= n->zrD m rk (zcv n) N)/\(∀ n,3 * N + 3 <= n->zso m rk (zcs n) N):=by
  intro N
  induction N with
  | zero =>
    intro _
    have hf:∀ n,1 <= n->zmw m rk (zbU n) 0:=λn hn=>by
      obtain ⟨n,rfl⟩:∃ n',n=n' + 1:=⟨n - 1,by omega⟩
      exact zmn (Fs:=(zV n).1) (Nd:=(zV n).2.1) (Md:=(zV n).2.2) E (by omega) λN' h=>by omega
    have hm:∀ n,2 <= n->zrD m rk (zcv n) 0:=λn hn=>by
      obtain ⟨n,rfl⟩:∃ n',n=n' + 1:=⟨n - 1,by omega⟩
      exact zo2 (Fs:=(zV n).1) (Nd:=(zV n).2.1) (Md:=(zV n).2.2) E (by omega) (λN' h=>by omega) (hf n (by omega))
    refine ⟨λn hn=>hf n (by omega),λn hn=>hm n (by omega),λn hn=>?_⟩
    obtain ⟨n,rfl⟩:∃ n',n=n' + 1:=⟨n - 1,by omega⟩
    exact znT (Fs:=(zV n).1) (Nd:=(zV n).2.1) (Md:=(zV n).2.2) E (by omega) (λN' h=>by omega) (hm n (by omega))
  | succ N ih =>
    intro hN
    obtain ⟨_,_,ihn⟩:=ih (by omega)
    have hf:∀ n,3 * (N + 1) + 1 <= n->zmw m rk (zbU n) (N + 1):=λn hn=>by
      obtain ⟨n,rfl⟩:∃ n',n=n' + 1:=⟨n - 1,by omega⟩
      exact zmn (Fs:=(zV n).1) (Nd:=(zV n).2.1) (Md:=(zV n).2.2) E (by omega) λN' h=>by
        have:N'=N:=by omega
        subst this;exact ihn n (by omega)
    have hm:∀ n,3 * (N + 1) + 2 <= n->zrD m rk (zcv n) (N + 1):=λn hn=>by
      obtain ⟨n,rfl⟩:∃ n',n=n' + 1:=⟨n - 1,by omega⟩
      exact zo2 (Fs:=(zV n).1) (Nd:=(zV n).2.1) (Md:=(zV n).2.2) E (by omega) (λN' h=>by
        have:N'=N:=by omega
        subst this;exact ihn n (by omega)) (hf n (by omega))
    refine ⟨hf,hm,λn hn=>?_⟩
    obtain ⟨n,rfl⟩:∃ n',n=n' + 1:=⟨n - 1,by omega⟩
    exact znT (Fs:=(zV n).1) (Nd:=(zV n).2.1) (Md:=(zV n).2.2) E (by omega) (λN' h=>by
        have:N'=N:=by omega
        subst this;exact ihn n (by omega)) (hm n (by omega))
theorem zaN.find {S:Nat->Nat->Prop} {p:Nat}:∀ {r:List Int} {a b:Nat},zaN S r a b->a <= p->p < b->∃ (k:Int) (c d:Nat),k ∈ r/\k=(c:Int)/\S c d/\c <= p/\p < d:=by
 intro r
 induction r with
 | nil=>intro a b h h1 h2;cases h;omega
 | cons x r ih =>
  intro a b ⟨c,h0,h1,h2⟩ ha hb
  rcases Nat.lt_or_ge p c with h | h
  ·exact ⟨x,a,c,zMs,h0,h1,ha,h⟩
  ·obtain ⟨k,c',d',k1,k2,k3,k4,k5⟩:=ih h2 h hb
   exact ⟨k,c',d',zMm _ k1,k2,k3,k4,k5⟩
theorem zyR:∀ {h:Nat} {l:List zh} {c d p:Nat} {n:zh},Sub h l c d->c <= p->p < d->l[p]?=some n->n.kind=11->n.name ∈ nmx l h (c:Int):=by
 intro h
 induction h with
 | zero=>intro l c d p n hs;exact hs.elim
 | succ h ih =>
  intro l c d p n ⟨n0,h1,h2⟩ hc hd hn hk
  rw [znH h1]
  rcases Nat.eq_or_lt_of_le hc with e | e
  ·subst e
   rw [h1] at hn;cases hn
   rw [if_pos hk];exact zMo.2 rfl
  ·by_cases h0:n0.kind=11
   ·have:zet n0=[]:=by unfold zet;rw [if_pos h0]
    rw [this] at h2
    cases h2
    omega
   ·rw [if_neg h0]
    obtain ⟨k,c',d',k1,k2,k3,k4,k5⟩:=zaN.find h2 e hd
    refine List.mem_flatMap.2 ⟨k,k1,?_⟩
    rw [k2]
    exact ih k3 k4 k5 hn hk
theorem zy4 {m:zaB} (h:(wr m).2=0):first (zmx m) m.names.length 0=none:=by
 unfold wr at h
 split at h
 ·cases h
 ·split at h
  ·cases h
  ·assumption
theorem zwB {m:zaB} (h:(wr m).2=0):first (zpX m) m.names.length 0=none:=by
 unfold wr at h
 split at h
 ·cases h
 ·assumption
theorem zAP {m:zaB} (w:WF m) (h:(wr m).2=0):∃ rk:Int->Nat,Env m rk:=by
 obtain ⟨rk,r1,r2⟩:=zz3 w h
 have hn:=w.names
 have ht:=w.types
 refine ⟨rk,w,λi=>Nat.le_trans (r1 i) hn,r2,λb b0 b1=>?_⟩
 obtain ⟨t,hbt⟩:∃ t,m.types[b.toNat]?=some t:=⟨_,List.getElem?_eq_getElem (by omega)⟩
 obtain ⟨c,d,e1,e2,e3,e4⟩:=zaN.subs w.forest (List.mem_of_getElem? hbt)
 subst e1
 refine ⟨c,d,hbt,e2,e4,λp n hp hq hpn hk=>?_⟩
 have hmem:n.name ∈ nms m (c:Int):=zyR e2 hp hq hpn hk
 have hno:=zjY (zy4 h) b b0 (by omega)
 unfold zmx at hno
 rw [hbt] at hno
 have hno:zsa m (c:Int)=false:=hno
 unfold zsa at hno
 have h1:=List.any_eq_false.1 hno _ hmem
 have h2:0 <= fnd m.names n.name:=by
  refine Classical.byContradiction λhc=>h1 (zDT (by omega))
 refine ⟨h2,b0,zmV m (c:Int),by unfold gr;rw [List.getElem?_map,hbt];rfl,?_⟩
 unfold zmV
 refine zsu.2 (.inr (List.mem_filterMap.2 ⟨_,hmem,?_⟩))
 unfold idx
 rw [if_neg (by omega)]
theorem zbO.sub:∀ {h:Nat} {l:List zg} {r:List Int} {a b:Nat},zaN (zbO h l) r a b->∀ i,a <= i->i < b->∃ j,zbO h l i j:=by
 intro h
 induction h with
 | zero =>
  intro l r a b hk i h1 h2
  cases r with
  | nil=>cases hk;omega
  | cons k r=>obtain ⟨c,_,h,_⟩:=hk;exact h.elim
 | succ h ih =>
  intro l r a b hk i h1 h2
  obtain ⟨k,c,d,_,_,k3,k4,k5⟩:=zaN.find hk h1 h2
  rcases Nat.eq_or_lt_of_le k4 with e | e
  ·subst e;exact ⟨d,k3⟩
  ·obtain ⟨t,_,_,h3⟩:=k3
   obtain ⟨j,hj⟩:=ih h3 i e k5
   exact ⟨j,hj.up⟩
structure zdp (t:zab):Prop where
 names:t.names.length <= 40
 roots:t.roots.length=t.names.length
 types:t.types.length <= 300
 kids:zaN (zbO 17 t.types) t.roots 0 t.types.length
 fnds:∀ (p:Nat) (s:Str),t.names[p]?=some s->fnd t.names s=(p:Int)
theorem zdp.empty (s:Str):zdp (zab.mk s [] [] []):=⟨zNz _,rfl,zNz _,rfl,λp s h=>by simp at h⟩
theorem zw8 {m:zaB} (w:WF m):T (λr=>zdp r.1/\(r.2.2=0->r.1.names=m.names/\r.1.name=m.name)) (zgS m):=by
 unfold zgS
 have hn:=w.names
 have ht:=w.types
 refine T.eq (zvs w) (T.br (λhb=>T.some ⟨zdp.empty _,λh=>absurd h (by simpa using hb)⟩) λhb=>?_)
 have hw:(wr m).2=0:=by
  have hb:(ztw m).2.2=0:=by simpa using hb
  unfold ztw at hb
  split at hb
  ·assumption
  ·exact hb
 obtain ⟨rk,E⟩:=zAP w hw
 have hfn:∀ (p:Nat) (s:Str),m.names[p]?=some s->fnd m.names s=(p:Int):=λp s hp=>by
  have hlt:=(List.getElem?_eq_some_iff.1 hp).1
  have h1:=zjY (zwB hw) (p:Int) (by omega) (by omega)
  unfold zpX at h1
  rw [Int.toNat_natCast,hp] at h1
  have h2:=zOF h1
  rcases zmk m.names s with h3 | h3
  ·exact absurd (List.mem_of_getElem? hp) h3.2
  ·rcases Int.lt_or_le (p:Int) (fnd m.names s) with h4 | h4
   ·exact absurd hp (h3.2.2.2 p (by omega))
   ·omega
 have hnode:=(zuU E 12400 (by omega)).2.2 fuel (by unfold fuel;omega)
 refine T.jp (ι:=zab) (λt=>t=zab.mk m.name m.names [] []) (λJ kk=>T.abl (by rw [zLn];omega) (kk _ (by rw [List.nil_append]))) λt htb=>?_
 subst htb
 refine T.lp (ι:=Int × zab × GMk) (λq=>0 <= q.1/\q.1 <= m.names.length/\q.2.1.names=m.names/\q.2.1.name=m.name/\(q.2.1.roots.length:Int)=q.1/\q.2.2.m=m/\q.2.2.l.length <= 300/\zaN (zbO 17 q.2.2.l) q.2.1.roots 0 q.2.2.l.length) (λq=>((m.names.length:Int) - q.1).toNat) ⟨zIl _,by dsimp only;omega,rfl,rfl,rfl,rfl,zNz _,rfl⟩ (by dsimp only;omega) λL q ⟨q1,q2,q3,q4,q5,q6,q7,q8⟩ hL=>?_
 obtain ⟨i,t,y⟩:=q
 dsimp only at q1 q2 q3 q4 q5 q6 q7 q8 hL ⊢
 refine T.br (λhi=>?_) λhi=>T.some ⟨⟨by dsimp only;rw [q3];exact hn,by dsimp only;rw [q3];have:=zOF hi;omega,q7,q8,λp s h=>(by rw [q3] at h ⊢;exact hfn p s h)⟩,λ_=>⟨q3,q4⟩⟩
 have hi:=zOT hi
 obtain ⟨c,d,e1,e2,e3,e4⟩:=E.root i q1 hi
 have hwn:=w.nodes
 have hrk:=E.rk40 i
 have hcd:=e2.lt
 refine T.jp (ι:=zab × GMk) (λp=>p.1.names=m.names/\p.1.name=m.name/\(p.1.roots.length:Int)=i + 1/\p.2.m=m/\p.2.l.length <= 300/\(p.2.e=0->zaN (zbO 17 p.2.l) p.1.roots 0 p.2.l.length)) (λJ kk=>T.get q1 (by omega) λy36 h36=>?_) λp ⟨p1,p2,p3,p4,p5,p6⟩=>?_
 ·rw [e1] at h36;cases h36
  have hNN:rk i * 301 + (d - c) <= 12400:=by
   have:=Nat.mul_le_mul_right 301 hrk
   have h2:d - c <= 300:=Nat.le_trans (Nat.sub_le _ _) (Nat.le_trans e3 hwn)
   exact Nat.le_trans (Nat.add_le_add this h2) (by decide)
  refine T.cal (hnode y c d 17 i 0 q6 q7 e2 e3 e4 hNN (zIl _) (by decide)) λr _ ⟨r1,r2⟩=>T.abl (by rw [zLs];omega) (kk _ ⟨q3,q4,by dsimp only;rw [zLa,zLs];omega,r1.m.trans q6,r1.lim,λe=>?_⟩)
  obtain ⟨k1,k2,_⟩:=r2 e
  dsimp only
  rw [k1]
  exact zaN.snoc (KidsT.monoL (λk _ hk=>r1.pre e k hk) q8) k2
 ·refine T.br (λhe=>T.some ⟨zdp.empty _,λh=>absurd h (by simpa using he)⟩) λhe=>T.ck (by omega) (hL _ ⟨by dsimp only;omega,by dsimp only;omega,p1,p2,p3,p4,p5,p6 (by simpa using he)⟩ (by dsimp only;omega))
theorem zuK (s:Str):T (λr=>zdp r.1) (zcg s):=by
 unfold zcg
 refine T.br (λ_=>T.some (zdp.empty _)) λ_=>T.cal (zu7 s) λr _ hr=>T.br (λ_=>T.some (zdp.empty _)) λ_=>T.cal (zw8 hr) λt _ ht=>T.jp (λ_=>True) (λJ kk=>T.br (λ_=>kk _ trivial) λ_=>kk _ trivial) λb _=>T.some ht.1
def zfj (a_t:zab) (zfH:Int):Option (Int × Bool) :=
 br (decide ((a_t.roots.length:Int)=(0:Int))) (some ((0:Int),false)) (asr (!decide ((UInt64.ofNat ((a_t.roots.length:Int) % 18446744073709551616).toNat)=0)) <| ck ((((UInt64.ofNat (zfH % 18446744073709551616).toNat) % (UInt64.ofNat ((a_t.roots.length:Int) % 18446744073709551616).toNat)).toNat:Int)) <| cal (zs a_t.roots (((UInt64.ofNat (zfH % 18446744073709551616).toNat) % (UInt64.ofNat ((a_t.roots.length:Int) % 18446744073709551616).toNat)).toNat:Int)) λy3=>some (y3,true))

def zjD (zkL:Val->Int->Option (Bool × Int)) (a_v:Val) (zbz:Int):Option (Bool × Int) :=
 asr (!decide ((50:Int)=0)) <| ck (((a_v.b.length:Int).tdiv (50:Int))) <| ck ((zbz - (1:Int))) <| ck (((zbz - (1:Int)) - ((a_v.b.length:Int).tdiv (50:Int)))) <| ck ((((zbz - (1:Int)) - ((a_v.b.length:Int).tdiv (50:Int))) - (a_v.more.length:Int))) <| lp (ι:=Int × Int) (λL7 q6=>jp (ι:=Bool) (λJ26=>br (decide (q6.1 < (a_v.more.length:Int))) (J26 ((decide ((0:Int) <= q6.2)))) (J26 (false))) (λq25=>br q25 (cal (zs a_v.more q6.1) λy28=>asr (!decide ((50:Int)=0)) <| ck (((y28.b.length:Int).tdiv (50:Int))) <| ck ((q6.2 - ((y28.b.length:Int).tdiv (50:Int)))) <| ck ((q6.1 + (1:Int))) <| L7 ((q6.1 + (1:Int)),(q6.2 - ((y28.b.length:Int).tdiv (50:Int))))) (br (decide (q6.2 < (0:Int))) (some (false,q6.2)) (lp (ι:=Int × Int) (λL34 q33=>br (decide (q33.1 < (a_v.l.length:Int))) (cal (zs a_v.l q33.1) λy38=>cal (zkL y38 q33.2) λy39=>br (!y39.1) (some (false,y39.2)) (ck ((q33.1 + (1:Int))) <| L34 ((q33.1 + (1:Int)),y39.2))) (some (true,q33.2))) (((0:Int),q6.2)))))) (((0:Int),(((zbz - (1:Int)) - ((a_v.b.length:Int).tdiv (50:Int))) - (a_v.more.length:Int))))
def zni:Nat->(Val->Int->Option (Bool × Int))
 | 0=>(λ_ _=>none)
 | n + 1=>let p:=zni n;(zjD p)
def zk6 (n:Nat):Val->Int->Option (Bool × Int):=(zni n)

def zmC (a_v:Val) (zq1:Int):Option (Bool) :=
 cal (zk6 fuel a_v zq1) λy2=>some (y2.1)

def zl6 (a_a:(List UInt8)) (a_b:(List UInt8)):Option (Bool) :=
 some ((decide ((Str.mk a_a)=(Str.mk a_b))))

def zrh (a_a:Raw) (a_b:Raw):Option (Bool) :=
 jp (ι:=Bool) (λJ2=>br (decide (a_a.n=a_b.n)) (cal (zl6 a_a.b a_b.b) λy4=>J2 (y4)) (J2 (false))) (λq1=>some (q1))

def zgT (a_a:(List Raw)) (a_b:(List Raw)):Option (Bool) :=
 br (!decide ((a_a.length:Int)=(a_b.length:Int))) (some (false)) (lp (ι:=Int) (λL2 q1=>br (decide (q1 < (a_a.length:Int))) (cal (zs a_a q1) λy7=>cal (zs a_b q1) λy8=>cal (zrh y7 y8) λy9=>br (!y9) (some (false)) (ck ((q1 + (1:Int))) <| L2 ((q1 + (1:Int))))) (some (true))) (((0:Int))))

def zd3 (zb0:(List Val)->(List Val)->Option (Bool)) (zfU:Val->Val->Option (Bool)) (a_a:(List Val)) (a_b:(List Val)):Option (Bool) :=
 br (!decide ((a_a.length:Int)=(a_b.length:Int))) (some (false)) (lp (ι:=Int) (λL2 q1=>br (decide (q1 < (a_a.length:Int))) (cal (zs a_a q1) λy7=>cal (zs a_b q1) λy8=>cal (zfU y7 y8) λy9=>br (!y9) (some (false)) (ck ((q1 + (1:Int))) <| L2 ((q1 + (1:Int))))) (some (true))) (((0:Int))))
def zjA (zb0:(List Val)->(List Val)->Option (Bool)) (zfU:Val->Val->Option (Bool)) (a_a:Val) (a_b:Val):Option (Bool) :=
 jp (ι:=Bool) (λJ2=>br (decide (a_a.kind=a_b.kind)) (J2 ((decide (a_a.n=a_b.n)))) (J2 (false))) (λq1=>jp (ι:=Bool) (λJ5=>br q1 (cal (zl6 a_a.b a_b.b) λy7=>J5 (y7)) (J5 (false))) (λq4=>jp (ι:=Bool) (λJ9=>br q4 (cal (zb0 a_a.l a_b.l) λy11=>J9 (y11)) (J9 (false))) (λq8=>jp (ι:=Bool) (λJ13=>br q8 (J13 ((decide (a_a.rule=a_b.rule)))) (J13 (false))) (λq12=>jp (ι:=Bool) (λJ16=>br q12 (cal (zgT a_a.more a_b.more) λy18=>J16 (y18)) (J16 (false))) (λq15=>some (q15))))))
def zfg:Nat->((List Val)->(List Val)->Option (Bool)) × (Val->Val->Option (Bool))
 | 0=>(λ_ _=>none,λ_ _=>none)
 | n + 1=>let p:=zfg n;(zd3 p.1 p.2,zjA p.1 p.2)
def zeD (n:Nat):(List Val)->(List Val)->Option (Bool):=(zfg n).1
def zfE (n:Nat):Val->Val->Option (Bool):=(zfg n).2

def zhm (zid:Val->Option (Int)) (a_v:Val):Option (Int) :=
 lp (ι:=Int × Int) (λL2 q1=>br (decide (q1.2 < (a_v.l.length:Int))) (cal (zs a_v.l q1.2) λy7=>cal (zid y7) λy8=>ck ((q1.1 + y8)) <| ck ((q1.2 + (1:Int))) <| L2 ((q1.1 + y8),(q1.2 + (1:Int)))) (some (q1.1))) (((1:Int),(0:Int)))
def zlv:Nat->(Val->Option (Int))
 | 0=>(λ_=>none)
 | n + 1=>let p:=zlv n;(zhm p)
def zhU (n:Nat):Val->Option (Int):=(zlv n)

def zlg (a_t:zab) (a_i:Int):Option (Bool) :=
 jp (ι:=Bool) (λJ2=>br (decide ((0:Int) <= a_i)) (J2 ((decide (a_i < (a_t.types.length:Int))))) (J2 (false))) (λq1=>some (q1))

def zgj (a_t:zab) (a_i:Int):Option ((List (List Int))) :=
 cal (zlg a_t a_i) λy3=>br (!y3) (some (([]:(List (List Int))))) (cal (zs a_t.types a_i) λy6=>jp (ι:=Bool) (λJ9=>br (!decide (y6.kind=(7:Int))) (J9 ((!decide (y6.kind=(8:Int))))) (J9 (false))) (λq8=>jp (ι:=Bool) (λJ12=>br q8 (J12 ((!decide (y6.kind=(9:Int))))) (J12 (false))) (λq11=>br q11 (some (([]:(List (List Int))))) (lp (ι:=(List (List Int)) × Int) (λL19 q18=>br (decide (q18.2 < (y6.fields.length:Int))) (jp (ι:=(List (List Int))) (λJ50=>cal (zs y6.fields q18.2) λy51=>jp (ι:=Bool) (λJ53=>br (!decide (y6.kind=(9:Int))) (J53 ((decide ((0:Int) < y51.group)))) (J53 (false))) (λq52=>jp (ι:=Bool) (λJ56=>br q52 (J56 ((decide (y6.root < q18.2)))) (J56 (false))) (λq55=>jp (ι:=Bool) (λJ59=>br q55 (ck ((q18.2 - (1:Int))) <| cal (zs y6.fields (q18.2 - (1:Int))) λy62=>J59 ((decide (y62.group=y51.group)))) (J59 (false))) (λq58=>br q58 (ck ((((q18.1.length:Nat):Int) - (1:Int))) <| ck ((((q18.1.length:Nat):Int) - (1:Int))) <| asr (decide (0 <= (((q18.1.length:Nat):Int) - (1:Int))/\(((q18.1.length:Nat):Int) - (1:Int)) < ((q18.1.length:Nat):Int))) <| asr (decide ((((q18.1.length:Nat):Int) - (1:Int)).toNat + 1=q18.1.length)) <| cal (q18.1[(((q18.1.length:Nat):Int) - (1:Int)).toNat]?) λy67=>asr (Nat.ble (y67.length + ([q18.2]:(List Int)).length) 68719476736) <| asr (decide (0 <= (((q18.1.length:Nat):Int) - (1:Int))/\(((q18.1.length:Nat):Int) - (1:Int)) < ((q18.1.length:Nat):Int))) <| asr (decide ((((q18.1.length:Nat):Int) - (1:Int)).toNat + 1=q18.1.length)) <| cal (q18.1[(((q18.1.length:Nat):Int) - (1:Int)).toNat]?) λy73=>J50 ((q18.1.set ((((q18.1.length:Nat):Int) - (1:Int)).toNat) (y67 ++ ([q18.2]:(List Int)))))) (asr (Nat.ble (q18.1.length + ([([q18.2]:(List Int))]:(List (List Int))).length) 68719476736) <| J50 ((q18.1 ++ [([q18.2]:(List Int))]))))))) (λq49=>ck ((q18.2 + (1:Int))) <| L19 (q49,(q18.2 + (1:Int))))) (some (q18.1))) ((([]:(List (List Int))),y6.root))))))

def ziw (a_b:(List UInt8)):Option (UInt64 × Int × Int) :=
 lp (ι:=UInt64 × Int) (λL2 q1=>br (decide (q1.2 < (a_b.length:Int))) (jp (ι:=Bool) (λJ16=>br (decide (q1.2=(0:Int))) (cal (zs a_b (0:Int)) λy18=>J16 ((decide (y18=(128:UInt8))))) (J16 (false))) (λq15=>jp (ι:=Bool) (λJ20=>br q15 (J20 (true)) (J20 ((decide ((144115188075855872:UInt64) <= q1.1))))) (λq19=>br q19 (some ((0:UInt64),(0:Int),(4:Int))) (asr (Nat.ble (7:UInt64).toNat 64) <| cal (zs a_b q1.2) λy23=>cal (zs a_b q1.2) λy24=>br (decide (y24 < (128:UInt8))) (ck ((q1.2 + (1:Int))) <| some (((zex q1.1 (7:UInt64).toNat) ||| (y23 &&& (127:UInt8)).toUInt64),(q1.2 + (1:Int)),(0:Int))) (ck ((q1.2 + (1:Int))) <| L2 (((zex q1.1 (7:UInt64).toNat) ||| (y23 &&& (127:UInt8)).toUInt64),(q1.2 + (1:Int)))))))) (some ((0:UInt64),(0:Int),(3:Int)))) (((0:UInt64),(0:Int)))

def zkc (a_v:UInt64):Option ((List UInt8)) :=
 lp (ι:=UInt64 × (List UInt8)) (λL3 q2=>br (decide ((255:UInt64) < q2.1)) (asr (Nat.ble (([(q2.1 >>> (8:UInt64)).toUInt8]:(List UInt8)).length + q2.2.length) 68719476736) <| L3 ((q2.1 >>> (8:UInt64)),(([(q2.1 >>> (8:UInt64)).toUInt8]:(List UInt8)) ++ q2.2))) (some (q2.2))) ((a_v,([a_v.toUInt8]:(List UInt8))))

def zhf (a_b:(List UInt8)):Option (UInt64 × Int) :=
 br (decide ((a_b.length:Int)=(0:Int))) (some ((0:UInt64),(3:Int))) (br (decide ((8:Int) < (a_b.length:Int))) (some ((0:UInt64),(4:Int))) (lp (ι:=UInt64 × Int) (λL2 q1=>br (decide (q1.2 < (a_b.length:Int))) (asr (Nat.ble (8:UInt64).toNat 64) <| cal (zs a_b q1.2) λy9=>ck ((q1.2 + (1:Int))) <| L2 (((zex q1.1 (8:UInt64).toNat) ||| y9.toUInt64),(q1.2 + (1:Int)))) (cal (zkc q1.1) λy11=>cal (zl6 y11 a_b) λy12=>br (!y12) (some ((0:UInt64),(4:Int))) (some (q1.1,(0:Int))))) (((0:UInt64),(0:Int)))))

def zkd (a_b:(List UInt8)):Option (Tag × Bool × Int × Int × Int) :=
 br (decide ((a_b.length:Int)=(0:Int))) (some ((Tag.mk (0:Int) (0:Int)),false,(0:Int),(0:Int),(3:Int))) (cal (zs a_b (0:Int)) λy2=>asr (Nat.ble (6:UInt64).toNat 8) <| cal (zs a_b (0:Int)) λy4=>cal (zs a_b (0:Int)) λy6=>jp (ι:=Int × Tag) (λJ8=>br (decide (((y4 &&& (31:UInt8)).toNat:Int)=(31:Int))) (asr (decide (0 <= (1:Int)/\(1:Int) <= (a_b.length:Int)/\(a_b.length:Int) <= (a_b.length:Int))) <| cal (ziw ((a_b.take ((a_b.length:Int)).toNat).drop ((1:Int)).toNat)) λy10=>br (!decide (y10.2.2=(0:Int))) (some ((Tag.mk (0:Int) (0:Int)),false,(0:Int),(0:Int),y10.2.2)) (jp (ι:=Bool) (λJ12=>br (decide (y10.1 < (31:UInt64))) (J12 (true)) (J12 ((decide ((268435456:UInt64) < y10.1))))) (λq11=>br q11 (some ((Tag.mk (0:Int) (0:Int)),false,(0:Int),(0:Int),(4:Int))) (ck ((y10.1.toNat:Int)) <| ck (((1:Int) + y10.2.1)) <| J8 (((1:Int) + y10.2.1),(Tag.mk ((zfn y2 (6:UInt64).toNat).toNat:Int) (y10.1.toNat:Int))))))) (J8 ((1:Int),(Tag.mk ((zfn y2 (6:UInt64).toNat).toNat:Int) ((y4 &&& (31:UInt8)).toNat:Int))))) (λq7=>br (decide ((a_b.length:Int) <= q7.1)) (some ((Tag.mk (0:Int) (0:Int)),false,(0:Int),(0:Int),(3:Int))) (cal (zs a_b q7.1) λy16=>ck ((q7.1 + (1:Int))) <| jp (ι:=Int × Int) (λJ19=>br (decide ((128:Int) <= (y16.toNat:Int))) (ck (((y16.toNat:Int) - (128:Int))) <| jp (ι:=Bool) (λJ22=>br (decide (((y16.toNat:Int) - (128:Int))=(0:Int))) (J22 (true)) (J22 ((decide ((8:Int) < ((y16.toNat:Int) - (128:Int))))))) (λq21=>br q21 (some ((Tag.mk (0:Int) (0:Int)),false,(0:Int),(0:Int),(4:Int))) (ck (((a_b.length:Int) - (q7.1 + (1:Int)))) <| br (decide (((a_b.length:Int) - (q7.1 + (1:Int))) < ((y16.toNat:Int) - (128:Int)))) (some ((Tag.mk (0:Int) (0:Int)),false,(0:Int),(0:Int),(3:Int))) (ck (((q7.1 + (1:Int)) + ((y16.toNat:Int) - (128:Int)))) <| asr (decide (0 <= (q7.1 + (1:Int))/\(q7.1 + (1:Int)) <= ((q7.1 + (1:Int)) + ((y16.toNat:Int) - (128:Int)))/\((q7.1 + (1:Int)) + ((y16.toNat:Int) - (128:Int))) <= (a_b.length:Int))) <| cal (zhf ((a_b.take (((q7.1 + (1:Int)) + ((y16.toNat:Int) - (128:Int)))).toNat).drop ((q7.1 + (1:Int))).toNat)) λy27=>jp (ι:=Bool) (λJ29=>br (!decide (y27.2=(0:Int))) (J29 (true)) (J29 ((decide (y27.1 < (128:UInt64)))))) (λq28=>jp (ι:=Bool) (λJ32=>br q28 (J32 (true)) (J32 ((decide ((2147483647:UInt64) < y27.1))))) (λq31=>br q31 (some ((Tag.mk (0:Int) (0:Int)),false,(0:Int),(0:Int),(4:Int))) (ck ((y27.1.toNat:Int)) <| ck (((q7.1 + (1:Int)) + ((y16.toNat:Int) - (128:Int)))) <| J19 (((q7.1 + (1:Int)) + ((y16.toNat:Int) - (128:Int))),(y27.1.toNat:Int))))))))) (J19 ((q7.1 + (1:Int)),(y16.toNat:Int)))) (λq18=>some (q7.2,(!decide ((y6 &&& (32:UInt8))=(0:UInt8))),q18.2,q18.1,(0:Int))))))

def zkx (a_b:(List UInt8)):Option ((List UInt8)) :=
 asr (Nat.ble (([]:(List UInt8)).length + a_b.length) 68719476736) <| some ((([]:(List UInt8)) ++ a_b))

def zoe (a_b:(List UInt8)):Option (Tag × Bool × (List UInt8) × Int × Int) :=
 cal (zkd a_b) λy2=>br (!decide (y2.2.2.2.2=(0:Int))) (some ((Tag.mk (0:Int) (0:Int)),false,([]:(List UInt8)),(0:Int),y2.2.2.2.2)) (ck (((a_b.length:Int) - y2.2.2.2.1)) <| br (decide (((a_b.length:Int) - y2.2.2.2.1) < y2.2.2.1)) (some ((Tag.mk (0:Int) (0:Int)),false,([]:(List UInt8)),(0:Int),(3:Int))) (ck ((y2.2.2.2.1 + y2.2.2.1)) <| asr (decide (0 <= y2.2.2.2.1/\y2.2.2.2.1 <= (y2.2.2.2.1 + y2.2.2.1)/\(y2.2.2.2.1 + y2.2.2.1) <= (a_b.length:Int))) <| ck ((y2.2.2.2.1 + y2.2.2.1)) <| cal (zkx ((a_b.take ((y2.2.2.2.1 + y2.2.2.1)).toNat).drop (y2.2.2.2.1).toNat)) λy8=>some (y2.1,y2.2.1,y8,(y2.2.2.2.1 + y2.2.2.1),(0:Int))))

def zh9 (zfN:(List zg)->Int->Option ((List Tag))) (a_l:(List zg)) (a_i:Int):Option ((List Tag)) :=
 cal (zs a_l a_i) λy1=>br (decide ((0:Int) < (y1.tags.length:Int))) (cal (zs a_l a_i) λy2=>asr (decide (0 <= (0:Int)/\(0:Int) <= (1:Int)/\(1:Int) <= (y2.tags.length:Int))) <| some (((y2.tags.take ((1:Int)).toNat).drop (0:Int).toNat))) (lp (ι:=(List Tag) × Int) (λL5 q4=>cal (zs a_l a_i) λy13=>br (decide (q4.2 < (y13.fields.length:Int))) (cal (zs a_l a_i) λy14=>cal (zs y14.fields q4.2) λy15=>cal (zfN a_l y15.ty) λy16=>asr (Nat.ble (q4.1.length + y16.length) 68719476736) <| ck ((q4.2 + (1:Int))) <| L5 ((q4.1 ++ y16),(q4.2 + (1:Int)))) (some (q4.1))) ((([]:(List Tag)),(0:Int))))
def zjL:Nat->((List zg)->Int->Option ((List Tag)))
 | 0=>(λ_ _=>none)
 | n + 1=>let p:=zjL n;(zh9 p)
def zhC (n:Nat):(List zg)->Int->Option ((List Tag)):=(zjL n)

def zlT (a_t:zab) (a_i:Int):Option ((List Tag)) :=
 jp (ι:=Bool) (λJ2=>br (decide (a_i < (0:Int))) (J2 (true)) (J2 ((decide ((a_t.types.length:Int) <= a_i))))) (λq1=>br q1 (some (([]:(List Tag)))) (cal (zhC fuel a_t.types a_i) λy4=>asr (Nat.ble (([]:(List Tag)).length + y4.length) 68719476736) <| some ((([]:(List Tag)) ++ y4))))

def zjT (a_t:zab) (a_i:Int) (a_b:(List UInt8)):Option (Tag × Bool) :=
 cal (zoe a_b) λy2=>jp (ι:=Bool) (λJ5=>br (!decide (y2.2.2.2.2=(0:Int))) (J5 (true)) (J5 ((!decide (y2.2.2.2.1=(a_b.length:Int)))))) (λq4=>br q4 (some (y2.1,false)) (cal (zs a_t.types a_i) λy7=>jp (ι:=Int) (λJ9=>br (decide (y7.kind=(7:Int))) (cal (zs a_t.types a_i) λy10=>cal (zjq y10) λy11=>J9 (y11)) (J9 ((0:Int)))) (λq8=>lp (ι:=Int) (λL13 q12=>cal (zs a_t.types a_i) λy20=>br (decide (q12 < (y20.fields.length:Int))) (cal (zs a_t.types a_i) λy21=>cal (zs y21.fields q12) λy22=>cal (zlT a_t y22.ty) λy23=>cal (zfD y23 y2.1) λy24=>br y24 (some (y2.1,false)) (ck ((q12 + (1:Int))) <| L13 ((q12 + (1:Int))))) (some (y2.1,true))) ((q8)))))

def zjt (a_x:zg) (a_n_:Int):Option (Int) :=
 lp (ι:=Int) (λL2 q1=>br (decide (q1 < (a_x.items.length:Int))) (cal (zs a_x.items q1) λy5=>br (decide (y5.number=a_n_)) (some (q1)) (ck ((q1 + (1:Int))) <| L2 ((q1 + (1:Int))))) (some ((-1:Int)))) (((0:Int)))

def zmy (a_b:(List UInt8)):Option (Bool) :=
 jp (ι:=Bool) (λJ2=>br (decide ((1:Int) <= (a_b.length:Int))) (J2 ((decide ((a_b.length:Int) <= (70000:Int))))) (J2 (false))) (λq1=>some (q1))

def zkz (a_t:zab) (a_i:Int) (a_v:Val):Option (Bool) :=
 cal (zs a_t.types a_i) λy1=>jp (ι:=Bool) (λJ4=>br (!y1.more) (J4 (true)) (jp (ι:=Bool) (λJ7=>br (!decide (y1.kind=(9:Int))) (J7 ((!decide (y1.kind=(3:Int))))) (J7 (false))) (λq6=>J4 (q6)))) (λq3=>jp (ι:=Bool) (λJ10=>br q3 (J10 (true)) (J10 ((decide ((0:Int) < (a_v.l.length:Int)))))) (λq9=>jp (ι:=Bool) (λJ13=>br q9 (J13 (true)) (J13 ((decide ((0:Int) < (a_v.more.length:Int)))))) (λq12=>br q12 (some (false)) (ck (((y1.items.length:Int) - y1.root)) <| jp (ι:=Int) (λJ17=>br (decide (y1.kind=(9:Int))) (cal (zgj a_t a_i) λy18=>J17 ((y18.length:Int))) (J17 (((y1.items.length:Int) - y1.root)))) (λq16=>jp (ι:=Bool) (λJ20=>br (decide (a_v.rule=(1:Int))) (J20 ((decide (y1.kind=(9:Int))))) (J20 (false))) (λq19=>br q19 (cal (zjT a_t a_i a_v.b) λy22=>jp (ι:=Bool) (λJ25=>br y22.2 (J25 ((decide (a_v.n=(0:Int))))) (J25 (false))) (λq24=>some (q24))) (br (decide (a_v.rule=(1:Int))) (jp (ι:=Bool) (λJ28=>br (decide ((a_v.b.length:Int)=(0:Int))) (cal (zjt y1 a_v.n) λy30=>J28 ((decide (y30 < (0:Int))))) (J28 (false))) (λq27=>some (q27))) (br (decide (a_v.rule=(2:Int))) (jp (ι:=Bool) (λJ32=>br (decide (q16 <= a_v.n)) (J32 ((decide (a_v.n < (1000:Int))))) (J32 (false))) (λq31=>jp (ι:=Bool) (λJ35=>br q31 (jp (ι:=Bool) (λJ38=>br (decide (y1.kind=(9:Int))) (cal (zmy a_v.b) λy40=>J38 (y40)) (J38 (false))) (λq37=>jp (ι:=Bool) (λJ42=>br q37 (J42 (true)) (jp (ι:=Bool) (λJ45=>br (decide (y1.kind=(3:Int))) (J45 ((decide ((a_v.b.length:Int)=(0:Int))))) (J45 (false))) (λq44=>J42 (q44)))) (λq41=>J35 (q41)))) (J35 (false))) (λq34=>some (q34)))) (some (false))))))))))

def zeh (a_v:Val) (a_n_:Bool) (a_b:Bool) (a_l:Bool) (zqV:Bool):Option (Bool) :=
 jp (ι:=Bool) (λJ2=>br a_n_ (J2 (true)) (J2 ((decide (a_v.n=(0:Int)))))) (λq1=>jp (ι:=Bool) (λJ5=>br q1 (jp (ι:=Bool) (λJ8=>br a_b (J8 (true)) (J8 ((decide ((a_v.b.length:Int)=(0:Int)))))) (λq7=>J5 (q7))) (J5 (false))) (λq4=>jp (ι:=Bool) (λJ11=>br q4 (jp (ι:=Bool) (λJ14=>br a_l (J14 (true)) (J14 ((decide ((a_v.l.length:Int)=(0:Int)))))) (λq13=>J11 (q13))) (J11 (false))) (λq10=>jp (ι:=Bool) (λJ17=>br q10 (jp (ι:=Bool) (λJ20=>br zqV (J20 (true)) (jp (ι:=Bool) (λJ23=>br (decide (a_v.rule=(0:Int))) (J23 ((decide ((a_v.more.length:Int)=(0:Int))))) (J23 (false))) (λq22=>J20 (q22)))) (λq19=>J17 (q19))) (J17 (false))) (λq16=>some (q16)))))

def zo9 (a_a:Tag) (a_b:Tag):Option (Bool) :=
 jp (ι:=Bool) (λJ2=>br (decide (a_a.cls < a_b.cls)) (J2 (true)) (jp (ι:=Bool) (λJ5=>br (decide (a_a.cls=a_b.cls)) (J5 ((decide (a_a.num < a_b.num)))) (J5 (false))) (λq4=>J2 (q4)))) (λq1=>some (q1))

def zkW (a_t:zab) (a_i:Int) (a_v:Val):Option (Bool) :=
 br (decide ((a_v.more.length:Int)=(0:Int))) (some ((decide (a_v.rule=(0:Int))))) (cal (zs a_t.types a_i) λy1=>jp (ι:=Bool) (λJ3=>br (!y1.more) (J3 (true)) (jp (ι:=Bool) (λJ6=>br (!decide (a_v.rule=(1:Int))) (J6 ((!decide (a_v.rule=(2:Int))))) (J6 (false))) (λq5=>J3 (q5)))) (λq2=>br q2 (some (false)) (lp (ι:=Int × Tag) (λL10 q9=>br (decide (q9.1 < (a_v.more.length:Int))) (jp (ι:=Tag) (λJ46=>cal (zs a_v.more q9.1) λy47=>br (decide (a_v.rule=(2:Int))) (cal (zgj a_t a_i) λy49=>jp (ι:=Int) (λJ51=>br (decide ((0:Int) < q9.1)) (ck ((q9.1 - (1:Int))) <| cal (zs a_v.more (q9.1 - (1:Int))) λy53=>ck ((y53.n + (1:Int))) <| J51 ((y53.n + (1:Int)))) (J51 ((y49.length:Int)))) (λq50=>jp (ι:=Bool) (λJ56=>br (decide (y47.n < q50)) (J56 (true)) (J56 ((decide ((1000:Int) <= y47.n))))) (λq55=>jp (ι:=Bool) (λJ59=>br q55 (J59 (true)) (cal (zmy y47.b) λy61=>J59 ((!y61)))) (λq58=>br q58 (some (false)) (J46 (q9.2)))))) (cal (zjT a_t a_i y47.b) λy62=>jp (ι:=Bool) (λJ65=>br (!y62.2) (J65 (true)) (J65 ((!decide (y47.n=(0:Int)))))) (λq64=>jp (ι:=Bool) (λJ68=>br q64 (J68 (true)) (cal (zs a_t.types a_i) λy70=>jp (ι:=Bool) (λJ72=>br (decide (y70.kind=(8:Int))) (J72 ((decide ((0:Int) < q9.1)))) (J72 (false))) (λq71=>jp (ι:=Bool) (λJ75=>br q71 (cal (zo9 q9.2 y62.1) λy77=>J75 ((!y77))) (J75 (false))) (λq74=>J68 (q74))))) (λq67=>br q67 (some (false)) (J46 (y62.1)))))) (λq45=>ck ((q9.1 + (1:Int))) <| L10 ((q9.1 + (1:Int)),q45))) (some (true))) (((0:Int),Tag.zero)))))

def zfJ (zdY:zab->Int->Val->Int->Option (Bool)) (zei:zab->Int->Val->Int->Option (Bool)) (a_t:zab) (a_i:Int) (a_v:Val) (za:Int):Option (Bool) :=
 cal (zs a_t.types a_i) λy1=>cal (zeh a_v false false true true) λy3=>jp (ι:=Bool) (λJ5=>br (!y3) (J5 (true)) (J5 ((!decide ((a_v.l.length:Int)=(y1.fields.length:Int)))))) (λq4=>jp (ι:=Bool) (λJ8=>br q4 (J8 (true)) (cal (zkW a_t a_i a_v) λy10=>J8 ((!y10)))) (λq7=>br q7 (some (false)) (lp (ι:=Int) (λL12 q11=>br (decide (q11 < (y1.fields.length:Int))) (jp (ι:=Unit) (λJ164=>cal (zs y1.fields q11) λy165=>jp (ι:=Bool) (λJ168=>br y165.optional (J168 (true)) (J168 (y165.has))) (λq167=>cal (zs a_v.l q11) λy170=>br (decide (y170.kind=(0:Int))) (cal (zs a_v.l q11) λy171=>cal (zfE fuel y171 (Val.mk (0:Int) (0:Int) ([]:(List UInt8)) ([]:(List Val)) (0:Int) ([]:(List Raw)))) λy172=>jp (ι:=Bool) (λJ174=>br (!y172) (J174 (true)) (jp (ι:=Bool) (λJ177=>br (!q167) (J177 ((decide (q11 < y1.root)))) (J177 (false))) (λq176=>J174 (q176)))) (λq173=>br q173 (some (false)) (J164 ()))) (cal (zs a_v.l q11) λy179=>ck ((za + (1:Int))) <| cal (zei a_t y165.ty y179 (za + (1:Int))) λy181=>jp (ι:=Bool) (λJ183=>br (!y181) (J183 (true)) (jp (ι:=Bool) (λJ186=>br y165.has (cal (zs a_v.l q11) λy188=>cal (zfE fuel y188 y165.dflt) λy189=>J186 (y189)) (J186 (false))) (λq185=>J183 (q185)))) (λq182=>br q182 (some (false)) (J164 ()))))) (λq163=>ck ((q11 + (1:Int))) <| L12 ((q11 + (1:Int))))) (cal (zgj a_t a_i) λy191=>lp (ι:=Int) (λL193 q192=>br (decide (q192 < (y191.length:Int))) (lp (ι:=Bool × Bool × Int) (λL254 q253=>cal (zs y191 q192) λy280=>br (decide (q253.2.2 < (y280.length:Int))) (cal (zs y191 q192) λy281=>cal (zs y281 q253.2.2) λy282=>cal (zs y1.fields y282) λy283=>cal (zs y191 q192) λy285=>cal (zs y285 q253.2.2) λy286=>cal (zs a_v.l y286) λy287=>jp (ι:=Bool) (λJ289=>br q253.1 (J289 (true)) (J289 ((!decide (y287.kind=(0:Int)))))) (λq288=>jp (ι:=Bool) (λJ292=>br q253.2.1 (J292 (true)) (jp (ι:=Bool) (λJ295=>br (!(!decide (y287.kind=(0:Int)))) (J295 ((!y283.optional))) (J295 (false))) (λq294=>jp (ι:=Bool) (λJ298=>br q294 (J298 ((!y283.has))) (J298 (false))) (λq297=>J292 (q297))))) (λq291=>ck ((q253.2.2 + (1:Int))) <| L254 (q288,q291,(q253.2.2 + (1:Int)))))) (cal (zs y191 q192) λy301=>cal (zs y301 (0:Int)) λy302=>cal (zs y1.fields y302) λy303=>jp (ι:=Bool) (λJ305=>br (decide ((0:Int) < y303.group)) (J305 (q253.1)) (J305 (false))) (λq304=>jp (ι:=Bool) (λJ308=>br q304 (J308 (q253.2.1)) (J308 (false))) (λq307=>br q307 (some (false)) (ck ((q192 + (1:Int))) <| L193 ((q192 + (1:Int)))))))) ((false,false,(0:Int)))) (some (true))) (((0:Int))))) (((0:Int))))))
def zin (zdY:zab->Int->Val->Int->Option (Bool)) (zei:zab->Int->Val->Int->Option (Bool)) (a_t:zab) (a_i:Int) (a_v:Val) (za:Int):Option (Bool) :=
 jp (ι:=Bool) (λJ2=>br (decide (a_i < (0:Int))) (J2 (true)) (J2 ((decide ((a_t.types.length:Int) <= a_i))))) (λq1=>jp (ι:=Bool) (λJ5=>br q1 (J5 (true)) (J5 ((decide ((17:Int) < za))))) (λq4=>br q4 (some (false)) (cal (zs a_t.types a_i) λy7=>br (decide (a_v.kind=(12:Int))) (cal (zkz a_t a_i a_v) λy9=>some (y9)) (br (!decide (a_v.kind=y7.kind)) (some (false)) (br (decide (y7.kind=(1:Int))) (cal (zeh a_v true false false false) λy10=>jp (ι:=Bool) (λJ12=>br y10 (jp (ι:=Bool) (λJ15=>br (decide (a_v.n=(0:Int))) (J15 (true)) (J15 ((decide (a_v.n=(1:Int)))))) (λq14=>J12 (q14))) (J12 (false))) (λq11=>some (q11))) (br (decide (y7.kind=(2:Int))) (cal (zeh a_v true false false false) λy17=>jp (ι:=Bool) (λJ19=>br y17 (jp (ι:=Bool) (λJ22=>br y7.con.more (J22 (true)) (cal (zd8 y7.con a_v.n) λy24=>J22 (y24))) (λq21=>J19 (q21))) (J19 (false))) (λq18=>some (q18))) (br (decide (y7.kind=(3:Int))) (cal (zeh a_v true false false false) λy25=>jp (ι:=Bool) (λJ27=>br y25 (cal (zjt y7 a_v.n) λy29=>J27 ((decide ((0:Int) <= y29)))) (J27 (false))) (λq26=>some (q26))) (br (decide (y7.kind=(4:Int))) (cal (zeh a_v false false false false) λy30=>some (y30)) (jp (ι:=Bool) (λJ32=>br (decide (y7.kind=(5:Int))) (J32 ((decide (y7.kind=(5:Int))))) (J32 ((decide (y7.kind=(6:Int)))))) (λq31=>br q31 (cal (zeh a_v false true false false) λy33=>jp (ι:=Bool) (λJ35=>br y33 (J35 ((decide ((a_v.b.length:Int) <= (70000:Int))))) (J35 (false))) (λq34=>jp (ι:=Bool) (λJ38=>br q34 (jp (ι:=Bool) (λJ41=>br y7.con.more (J41 (true)) (cal (zd8 y7.con (a_v.b.length:Int)) λy43=>J41 (y43))) (λq40=>J38 (q40))) (J38 (false))) (λq37=>jp (ι:=Bool) (λJ45=>br q37 (jp (ι:=Bool) (λJ48=>br (decide (y7.kind=(5:Int))) (J48 (true)) (cal (zcy a_v.b) λy50=>J48 (y50))) (λq47=>J45 (q47))) (J45 (false))) (λq44=>some (q44))))) (br (decide (y7.kind=(10:Int))) (cal (zeh a_v false false true false) λy51=>jp (ι:=Bool) (λJ53=>br (!y51) (J53 (true)) (jp (ι:=Bool) (λJ56=>br (!y7.con.more) (cal (zd8 y7.con (a_v.l.length:Int)) λy58=>J56 ((!y58))) (J56 (false))) (λq55=>J53 (q55)))) (λq52=>br q52 (some (false)) (lp (ι:=Int) (λL60 q59=>br (decide (q59 < (a_v.l.length:Int))) (cal (zs a_v.l q59) λy65=>ck ((za + (1:Int))) <| cal (zei a_t y7.of y65 (za + (1:Int))) λy67=>br (!y67) (some (false)) (ck ((q59 + (1:Int))) <| L60 ((q59 + (1:Int))))) (some (true))) (((0:Int)))))) (br (decide (y7.kind=(9:Int))) (cal (zeh a_v true false true false) λy70=>jp (ι:=Bool) (λJ72=>br y70 (J72 ((decide ((0:Int) <= a_v.n)))) (J72 (false))) (λq71=>jp (ι:=Bool) (λJ75=>br q71 (J75 ((decide (a_v.n < (y7.fields.length:Int))))) (J75 (false))) (λq74=>jp (ι:=Bool) (λJ78=>br q74 (J78 ((decide ((a_v.l.length:Int)=(1:Int))))) (J78 (false))) (λq77=>jp (ι:=Bool) (λJ81=>br q77 (cal (zs y7.fields a_v.n) λy83=>cal (zs a_v.l (0:Int)) λy84=>ck ((za + (1:Int))) <| cal (zei a_t y83.ty y84 (za + (1:Int))) λy86=>J81 (y86)) (J81 (false))) (λq80=>some (q80)))))) (jp (ι:=Bool) (λJ88=>br (decide (y7.kind=(7:Int))) (J88 ((decide (y7.kind=(7:Int))))) (J88 ((decide (y7.kind=(8:Int)))))) (λq87=>br q87 (cal (zdY a_t a_i a_v za) λy89=>some (y89)) (some (false))))))))))))))))
def zix:Nat->(zab->Int->Val->Int->Option (Bool)) × (zab->Int->Val->Int->Option (Bool))
 | 0=>(λ_ _ _ _=>none,λ_ _ _ _=>none)
 | n + 1=>let p:=zix n;(zfJ p.1 p.2,zin p.1 p.2)
def zh4 (n:Nat):zab->Int->Val->Int->Option (Bool):=(zix n).1
def zgC (n:Nat):zab->Int->Val->Int->Option (Bool):=(zix n).2

def zjp (a_t:zab) (a_i:Int) (a_v:Val):Option (Bool) :=
 cal (zhU fuel a_v) λy1=>jp (ι:=Bool) (λJ3=>br (decide (y1 <= (5000:Int))) (cal (zgC fuel a_t a_i a_v (1:Int)) λy5=>J3 (y5)) (J3 (false))) (λq2=>some (q2))

def zem (a_b:(List UInt8)):Option (UInt64 × Int × Int) :=
 lp (ι:=UInt64 × Int) (λL2 q1=>br (decide (q1.2 < (a_b.length:Int))) (cal (zs a_b q1.2) λy13=>jp (ι:=Bool) (λJ15=>br (decide (q1.2=(0:Int))) (J15 ((decide (y13=(128:UInt8))))) (J15 (false))) (λq14=>jp (ι:=Bool) (λJ18=>br q14 (J18 (true)) (J18 ((!decide ((q1.1 >>> (57:UInt64))=(0:UInt64)))))) (λq17=>br q17 (some ((0:UInt64),(0:Int),(4:Int))) (asr (Nat.ble (7:UInt64).toNat 64) <| br (decide (y13 < (128:UInt8))) (ck ((q1.2 + (1:Int))) <| some (((zex q1.1 (7:UInt64).toNat) ||| (y13 &&& (127:UInt8)).toUInt64),(q1.2 + (1:Int)),(0:Int))) (ck ((q1.2 + (1:Int))) <| L2 (((zex q1.1 (7:UInt64).toNat) ||| (y13 &&& (127:UInt8)).toUInt64),(q1.2 + (1:Int)))))))) (some ((0:UInt64),(0:Int),(3:Int)))) (((0:UInt64),(0:Int)))

def zie (a_b:(List UInt8)):Option (Int × Int × Int) :=
 cal (zs a_b (0:Int)) λy1=>br (decide (((y1 &&& (31:UInt8)).toNat:Int) < (31:Int))) (some (((y1 &&& (31:UInt8)).toNat:Int),(0:Int),(0:Int))) (asr (decide (0 <= (1:Int)/\(1:Int) <= (a_b.length:Int)/\(a_b.length:Int) <= (a_b.length:Int))) <| cal (zem ((a_b.take ((a_b.length:Int)).toNat).drop ((1:Int)).toNat)) λy3=>br (!decide (y3.2.2=(0:Int))) (some ((0:Int),(0:Int),y3.2.2)) (jp (ι:=Bool) (λJ5=>br (decide (y3.1 < (31:UInt64))) (J5 (true)) (J5 ((decide ((268435456:UInt64) < y3.1))))) (λq4=>br q4 (some ((0:Int),(0:Int),(4:Int))) (ck ((y3.1.toNat:Int)) <| some ((y3.1.toNat:Int),y3.2.1,(0:Int))))))

def zhE (a_b:(List UInt8)):Option (UInt64) :=
 lp (ι:=UInt64 × Int) (λL2 q1=>br (decide (q1.2 < (a_b.length:Int))) (cal (zs a_b q1.2) λy6=>asr (Nat.ble (8:UInt64).toNat 64) <| ck ((q1.2 + (1:Int))) <| L2 (((zex q1.1 (8:UInt64).toNat) ||| y6.toUInt64),(q1.2 + (1:Int)))) (some (q1.1))) (((0:UInt64),(0:Int)))

def zdR (a_b:(List UInt8)):Option (UInt64 × Int) :=
 br (decide ((a_b.length:Int)=(0:Int))) (some ((0:UInt64),(3:Int))) (jp (ι:=Bool) (λJ2=>br (decide ((8:Int) < (a_b.length:Int))) (J2 (true)) (jp (ι:=Bool) (λJ5=>br (decide ((1:Int) < (a_b.length:Int))) (cal (zs a_b (0:Int)) λy7=>J5 ((decide (y7=(0:UInt8))))) (J5 (false))) (λq4=>J2 (q4)))) (λq1=>br q1 (some ((0:UInt64),(4:Int))) (cal (zhE a_b) λy8=>some (y8,(0:Int)))))

def zii (a_b:(List UInt8)):Option (Int × Int × Int) :=
 br (decide ((a_b.length:Int)=(0:Int))) (some ((0:Int),(0:Int),(3:Int))) (cal (zs a_b (0:Int)) λy1=>br (decide (y1 < (128:UInt8))) (cal (zs a_b (0:Int)) λy2=>some ((y2.toNat:Int),(1:Int),(0:Int))) (cal (zs a_b (0:Int)) λy3=>jp (ι:=Bool) (λJ5=>br (decide (((y3 &&& ~~~(128:UInt8)).toNat:Int)=(0:Int))) (J5 (true)) (J5 ((decide ((8:Int) < ((y3 &&& ~~~(128:UInt8)).toNat:Int)))))) (λq4=>br q4 (some ((0:Int),(0:Int),(4:Int))) (br (decide ((a_b.length:Int) <= ((y3 &&& ~~~(128:UInt8)).toNat:Int))) (some ((0:Int),(0:Int),(3:Int))) (ck (((1:Int) + ((y3 &&& ~~~(128:UInt8)).toNat:Int))) <| asr (decide (0 <= (1:Int)/\(1:Int) <= ((1:Int) + ((y3 &&& ~~~(128:UInt8)).toNat:Int))/\((1:Int) + ((y3 &&& ~~~(128:UInt8)).toNat:Int)) <= (a_b.length:Int))) <| cal (zdR ((a_b.take (((1:Int) + ((y3 &&& ~~~(128:UInt8)).toNat:Int))).toNat).drop ((1:Int)).toNat)) λy9=>jp (ι:=Bool) (λJ11=>br (!decide (y9.2=(0:Int))) (J11 (true)) (J11 ((decide (y9.1 < (128:UInt64)))))) (λq10=>jp (ι:=Bool) (λJ14=>br q10 (J14 (true)) (J14 ((decide ((2147483647:UInt64) < y9.1))))) (λq13=>br q13 (some ((0:Int),(0:Int),(4:Int))) (ck ((y9.1.toNat:Int)) <| ck (((1:Int) + ((y3 &&& ~~~(128:UInt8)).toNat:Int))) <| some ((y9.1.toNat:Int),((1:Int) + ((y3 &&& ~~~(128:UInt8)).toNat:Int)),(0:Int))))))))))

def zgJ (a_b:(List UInt8)):Option (Tag × Bool × Int × Int × Int) :=
 br (decide ((a_b.length:Int)=(0:Int))) (some ((Tag.mk (0:Int) (0:Int)),false,(0:Int),(0:Int),(3:Int))) (cal (zie a_b) λy2=>br (!decide (y2.2.2=(0:Int))) (some ((Tag.mk (0:Int) (0:Int)),false,(0:Int),(0:Int),y2.2.2)) (ck (((1:Int) + y2.2.1)) <| asr (decide (0 <= ((1:Int) + y2.2.1)/\((1:Int) + y2.2.1) <= (a_b.length:Int)/\(a_b.length:Int) <= (a_b.length:Int))) <| cal (zii ((a_b.take ((a_b.length:Int)).toNat).drop (((1:Int) + y2.2.1)).toNat)) λy5=>br (!decide (y5.2.2=(0:Int))) (some ((Tag.mk (0:Int) (0:Int)),false,(0:Int),(0:Int),y5.2.2)) (cal (zs a_b (0:Int)) λy6=>asr (Nat.ble (6:UInt64).toNat 8) <| cal (zs a_b (0:Int)) λy8=>ck (((1:Int) + y2.2.1)) <| ck ((((1:Int) + y2.2.1) + y5.2.1)) <| some ((Tag.mk ((zfn y6 (6:UInt64).toNat).toNat:Int) y2.1),(!decide ((y8 &&& (32:UInt8))=(0:UInt8))),y5.1,(((1:Int) + y2.2.1) + y5.2.1),(0:Int)))))

def zk3 (a_b:(List UInt8)):Option (Tag × Bool × (List UInt8) × Int × Int) :=
 cal (zgJ a_b) λy2=>jp (ι:=Bool) (λJ5=>br (decide (y2.2.2.2.2=(0:Int))) (ck (((a_b.length:Int) - y2.2.2.2.1)) <| J5 ((decide (((a_b.length:Int) - y2.2.2.2.1) < y2.2.2.1)))) (J5 (false))) (λq4=>jp (ι:=Int) (λJ9=>br q4 (J9 ((3:Int))) (J9 (y2.2.2.2.2))) (λq8=>br (!decide (q8=(0:Int))) (some ((Tag.mk (0:Int) (0:Int)),false,([]:(List UInt8)),(0:Int),q8)) (ck ((y2.2.2.2.1 + y2.2.2.1)) <| asr (decide (0 <= y2.2.2.2.1/\y2.2.2.2.1 <= (y2.2.2.2.1 + y2.2.2.1)/\(y2.2.2.2.1 + y2.2.2.1) <= (a_b.length:Int))) <| ck ((y2.2.2.2.1 + y2.2.2.1)) <| asr (Nat.ble (([]:(List UInt8)).length + ((a_b.take ((y2.2.2.2.1 + y2.2.2.1)).toNat).drop (y2.2.2.2.1).toNat).length) 68719476736) <| some (y2.1,y2.2.1,(([]:(List UInt8)) ++ ((a_b.take ((y2.2.2.2.1 + y2.2.2.1)).toNat).drop (y2.2.2.2.1).toNat)),(y2.2.2.2.1 + y2.2.2.1),(0:Int)))))

def zgk (a_t:zg) (a_k:Int):Option (Bool) :=
 cal (zs a_t.fields a_k) λy1=>jp (ι:=Bool) (λJ3=>br y1.optional (J3 (true)) (cal (zs a_t.fields a_k) λy5=>J3 (y5.has))) (λq2=>jp (ι:=Bool) (λJ7=>br q2 (J7 (true)) (J7 ((decide (a_t.root <= a_k))))) (λq6=>some (q6)))

def zis (a_t:zg):Option (Int) :=
 lp (ι:=Int) (λL2 q1=>jp (ι:=Bool) (λJ10=>br (decide ((0:Int) < q1)) (ck ((q1 - (1:Int))) <| cal (zgk a_t (q1 - (1:Int))) λy13=>J10 (y13)) (J10 (false))) (λq9=>br q9 (ck ((q1 - (1:Int))) <| L2 ((q1 - (1:Int)))) (some (q1)))) (((min (max a_t.root (0:Int)) (a_t.fields.length:Int))))

def zdd (a_x:zg) (a_a1:(List Tag)):Option ((List Tag)) :=
 br (decide ((0:Int) < (a_x.tags.length:Int))) (cal (zs a_x.tags (0:Int)) λy2=>asr (Nat.ble (a_a1.length + ([y2]:(List Tag)).length) 68719476736) <| some ((a_a1 ++ ([y2]:(List Tag))))) (some (a_a1))

def zcz (zd9:zeH->Int->Int->(List Tag)->Option (zeH × Int × (List Tag))) (a_t:zeH) (ze6:Int) (zbz:Int) (zdT:(List Tag)):Option (zeH × Int × (List Tag)) :=
 jp (ι:=Bool) (λJ3=>br (decide (ze6 < (0:Int))) (J3 (true)) (J3 ((decide ((a_t.l.length:Int) <= ze6))))) (λq2=>jp (ι:=Bool) (λJ6=>br q2 (J6 (true)) (J6 ((decide (zbz=(0:Int)))))) (λq5=>br q5 (some (a_t,zbz,zdT)) (ck ((zbz - (1:Int))) <| cal (zs a_t.l ze6) λy9=>cal (zdd y9 zdT) λy11=>br (decide ((0:Int) < (y9.tags.length:Int))) (some (a_t,(zbz - (1:Int)),y11)) (lp (ι:=Int × (List Tag) × Int × zeH) (λL14 q13=>br (decide (q13.1 < (y9.fields.length:Int))) (cal (zs y9.fields q13.1) λy20=>cal (zd9 q13.2.2.2 y20.ty q13.2.2.1 q13.2.1) λy22=>ck ((q13.1 + (1:Int))) <| L14 ((q13.1 + (1:Int)),y22.2.2,y22.2.1,y22.1)) (some (q13.2.2.2,q13.2.2.1,q13.2.1))) (((0:Int),y11,(zbz - (1:Int)),a_t))))))
def zg1:Nat->(zeH->Int->Int->(List Tag)->Option (zeH × Int × (List Tag)))
 | 0=>(λ_ _ _ _=>none)
 | n + 1=>let p:=zg1 n;(zcz p)
def zc4 (n:Nat):zeH->Int->Int->(List Tag)->Option (zeH × Int × (List Tag)):=(zg1 n)

def zeV (a_t:zeH) (ze6:Int):Option ((List Tag) × zeH) :=
 cal (zc4 fuel a_t ze6 (300:Int) ([]:(List Tag))) λy4=>some (y4.2.2,y4.1)

def zgB (a_t:zab) (a_i:Int):Option ((List Tag)) :=
 cal (zeV (zeH.mk a_t.types) a_i) λy2=>some (y2.1)

def zcE (a_s:(List Tag)) (a_v:Tag):Option (Int) :=
 lp (ι:=Int) (λL2 q1=>br (decide (q1 < (a_s.length:Int))) (cal (zs a_s q1) λy5=>br (decide (a_v=y5)) (some (q1)) (ck ((q1 + (1:Int))) <| L2 ((q1 + (1:Int))))) (some ((-1:Int)))) (((0:Int)))

def zbB (a_s:(List Tag)) (a_v:Tag):Option (Bool) :=
 cal (zcE a_s a_v) λy1=>some ((decide ((0:Int) <= y1)))

def zds (a_f:zaC) (a_a1:zt) (a_a2:Tag):Option (Bool × zt) :=
 cal (zgB a_a1.tabled.t a_f.ty) λy1=>cal (zbB y1 a_a2) λy2=>some (y2,a_a1)

def zbK (a_s:(List zaC)) (za9:zt) (zbe:Tag):Option (Int × zt) :=
 lp (ι:=Int × zt) (λL2 q1=>br (decide (q1.1 < (a_s.length:Int))) (cal (zs a_s q1.1) λy6=>cal (zds y6 q1.2 zbe) λy7=>br y7.1 (some (q1.1,y7.2)) (ck ((q1.1 + (1:Int))) <| L2 ((q1.1 + (1:Int)),y7.2))) (some ((-1:Int),q1.2))) (((0:Int),za9))

def zbo (a_s:(List zaC)) (za9:zt) (zbe:Tag):Option (Bool × zt) :=
 cal (zbK a_s za9 zbe) λy1=>some ((decide ((0:Int) <= y1.1)),y1.2)

def zcG (a_c:zt) (a_i:Int) (a_b:(List UInt8)):Option (Tag × Bool × zt) :=
 cal (zk3 a_b) λy2=>jp (ι:=Bool) (λJ5=>br (!decide (y2.2.2.2.2=(0:Int))) (J5 (true)) (J5 ((!decide (y2.2.2.2.1=(a_b.length:Int)))))) (λq4=>br q4 (some ((Tag.mk (0:Int) (0:Int)),false,a_c)) (cal (zs a_c.tabled.t.types a_i) λy7=>jp (ι:=Int) (λJ10=>br (decide (y7.kind=(7:Int))) (cal (zis y7) λy11=>J10 (y11)) (J10 ((0:Int)))) (λq9=>asr (decide (0 <= q9/\q9 <= (y7.fields.length:Int)/\(y7.fields.length:Int) <= (y7.fields.length:Int))) <| cal (zbo ((y7.fields.take ((y7.fields.length:Int)).toNat).drop (q9).toNat) a_c y2.1) λy13=>some (y2.1,(!y13.1),y13.2))))

def zfV (a_y:zag) (a_a1:Int):Option (Bool) :=
 some ((decide (a_y.number=a_a1)))

def zaM (a_s:(List zag)) (za9:Int):Option (Int) :=
 lp (ι:=Int) (λL2 q1=>br (decide (q1 < (a_s.length:Int))) (cal (zs a_s q1) λy6=>cal (zfV y6 za9) λy7=>br y7 (some (q1)) (ck ((q1 + (1:Int))) <| L2 ((q1 + (1:Int))))) (some ((-1:Int)))) (((0:Int)))

def zdk (a_x:zg) (a_n_:Int):Option (Int) :=
 cal (zaM a_x.items a_n_) λy1=>some (y1)

def zhc (a_b:(List UInt8)):Option (Bool) :=
 jp (ι:=Bool) (λJ2=>br (decide ((0:Int) < (a_b.length:Int))) (J2 ((decide ((a_b.length:Int) <= (70000:Int))))) (J2 (false))) (λq1=>some (q1))

def zcI (a_c:zt) (a_i:Int) (a_v:Val):Option (Bool × zt) :=
 cal (zs a_c.tabled.t.types a_i) λy1=>jp (ι:=Bool) (λJ4=>br (!y1.more) (J4 (true)) (jp (ι:=Bool) (λJ7=>br (!(decide (y1.kind=(9:Int)))) (J7 ((!decide (y1.kind=(3:Int))))) (J7 (false))) (λq6=>J4 (q6)))) (λq3=>jp (ι:=Bool) (λJ10=>br q3 (J10 (true)) (ck (((a_v.l.length:Int) + (a_v.more.length:Int))) <| J10 ((decide ((0:Int) < ((a_v.l.length:Int) + (a_v.more.length:Int))))))) (λq9=>br q9 (some (false,a_c)) (br a_c.bare (jp (ι:=Bool) (λJ14=>br (decide (a_v.n=(0:Int))) (J14 ((decide ((a_v.b.length:Int)=(0:Int))))) (J14 (false))) (λq13=>jp (ι:=Bool) (λJ17=>br q13 (J17 ((decide (a_v.rule=(0:Int))))) (J17 (false))) (λq16=>some (q16,a_c)))) (ck (((y1.items.length:Int) + (y1.fields.length:Int))) <| ck ((((y1.items.length:Int) + (y1.fields.length:Int)) - y1.root)) <| jp (ι:=Bool) (λJ22=>br (decide (a_v.rule=(1:Int))) (J22 ((decide (y1.kind=(9:Int))))) (J22 (false))) (λq21=>br q21 (cal (zcG a_c a_i a_v.b) λy24=>jp (ι:=Bool) (λJ27=>br y24.2.1 (J27 ((decide (a_v.n=(0:Int))))) (J27 (false))) (λq26=>some (q26,y24.2.2))) (br (decide (a_v.rule=(1:Int))) (jp (ι:=Bool) (λJ30=>br (decide ((a_v.b.length:Int)=(0:Int))) (cal (zdk y1 a_v.n) λy32=>J30 ((decide (y32 < (0:Int))))) (J30 (false))) (λq29=>some (q29,a_c))) (jp (ι:=Bool) (λJ34=>br (!decide (a_v.rule=(2:Int))) (J34 (true)) (J34 ((decide (a_v.n < (((y1.items.length:Int) + (y1.fields.length:Int)) - y1.root)))))) (λq33=>jp (ι:=Bool) (λJ37=>br q33 (J37 (true)) (J37 ((decide ((1000:Int) <= a_v.n))))) (λq36=>br q36 (some (false,a_c)) (br (decide (y1.kind=(9:Int))) (cal (zhc a_v.b) λy39=>some (y39,a_c)) (some ((decide ((a_v.b.length:Int)=(0:Int))),a_c))))))))))))

def zcZ (a_v:Val) (zik:Int):Option (Bool) :=
 asr (decide (0 <= zik/\0 <= (1:Int))) <| jp (ι:=Bool) (λJ3=>br (!decide ((andI zik (1:Int))=(0:Int))) (J3 (true)) (J3 ((decide (a_v.n=(0:Int)))))) (λq2=>jp (ι:=Bool) (λJ6=>br q2 (asr (decide (0 <= zik/\0 <= (2:Int))) <| jp (ι:=Bool) (λJ10=>br (!decide ((andI zik (2:Int))=(0:Int))) (J10 (true)) (J10 ((decide ((a_v.b.length:Int)=(0:Int)))))) (λq9=>J6 (q9))) (J6 (false))) (λq5=>jp (ι:=Bool) (λJ13=>br q5 (asr (decide (0 <= zik/\0 <= (4:Int))) <| jp (ι:=Bool) (λJ17=>br (!decide ((andI zik (4:Int))=(0:Int))) (J17 (true)) (J17 ((decide ((a_v.l.length:Int)=(0:Int)))))) (λq16=>J13 (q16))) (J13 (false))) (λq12=>jp (ι:=Bool) (λJ20=>br q12 (asr (decide (0 <= zik/\0 <= (8:Int))) <| jp (ι:=Bool) (λJ24=>br (!decide ((andI zik (8:Int))=(0:Int))) (J24 (true)) (jp (ι:=Bool) (λJ27=>br (decide (a_v.rule=(0:Int))) (J27 ((decide ((a_v.more.length:Int)=(0:Int))))) (J27 (false))) (λq26=>J24 (q26)))) (λq23=>J20 (q23))) (J20 (false))) (λq19=>some (q19)))))

def zev (a_c:zbt) (a_v:Int):Option (Bool) :=
 jp (ι:=Bool) (λJ2=>br (!a_c.has) (J2 (true)) (jp (ι:=Bool) (λJ5=>br (!a_c.hasLow) (J5 (true)) (J5 ((decide (a_c.low <= a_v))))) (λq4=>jp (ι:=Bool) (λJ8=>br q4 (jp (ι:=Bool) (λJ11=>br (!a_c.hasHigh) (J11 (true)) (J11 ((decide (a_v <= a_c.high))))) (λq10=>J8 (q10))) (J8 (false))) (λq7=>J2 (q7))))) (λq1=>some (q1))

def zdz (a_c:zt) (a_x:zg) (a_v:Val):Option (Bool × zt) :=
 cal (zcZ a_v (2:Int)) λy1=>jp (ι:=Bool) (λJ3=>br y1 (J3 ((decide ((a_v.b.length:Int) <= (70000:Int))))) (J3 (false))) (λq2=>jp (ι:=Bool) (λJ6=>br q2 (jp (ι:=Bool) (λJ9=>br a_x.con.more (J9 (true)) (cal (zev a_x.con (a_v.b.length:Int)) λy11=>J9 (y11))) (λq8=>J6 (q8))) (J6 (false))) (λq5=>jp (ι:=Bool) (λJ13=>br q5 (jp (ι:=Bool) (λJ16=>br (decide (a_x.kind=(5:Int))) (J16 (true)) (cal (zcy a_v.b) λy18=>J16 (y18))) (λq15=>J13 (q15))) (J13 (false))) (λq12=>some (q12,a_c))))

def zhp (a_t:zab) (a_i:Int):Option (zg) :=
 jp (ι:=Bool) (λJ3=>br (decide (a_i < (0:Int))) (J3 (true)) (J3 ((decide ((a_t.types.length:Int) <= a_i))))) (λq2=>br q2 (some ((zg.mk (0:Int) ([]:(List Tag)) (zbt.mk false false false false (0:Int) (0:Int)) ([]:(List zag)) ([]:(List zaC)) (0:Int) false (0:Int)))) (cal (zs a_t.types a_i) λy5=>some (y5)))

def zgA (zek:Int) (a_to:Int):Option ((List Int)) :=
 lp (ι:=(List Int) × Int) (λL4 q3=>br (decide (q3.2 < a_to)) (asr (Nat.ble (q3.1.length + ([q3.2]:(List Int)).length) 68719476736) <| ck ((q3.2 + (1:Int))) <| L4 ((q3.1 ++ ([q3.2]:(List Int))),(q3.2 + (1:Int)))) (some (q3.1))) ((([]:(List Int)),zek))

def zfo (a_t:zab) (a_i:Int):Option ((List (List Int))) :=
 cal (zhp a_t a_i) λy3=>jp (ι:=Bool) (λJ6=>br (!decide (y3.kind=(7:Int))) (J6 ((!decide (y3.kind=(8:Int))))) (J6 (false))) (λq5=>jp (ι:=Bool) (λJ9=>br q5 (J9 ((!decide (y3.kind=(9:Int))))) (J9 (false))) (λq8=>br q8 (some (([]:(List (List Int))))) (cal (zgA (max y3.root (0:Int)) (y3.fields.length:Int)) λy15=>lp (ι:=(List (List Int)) × Int) (λL18 q17=>br (decide (q17.2 < ((y15.length:Nat):Int))) (jp (ι:=(List (List Int))) (λJ50=>asr (decide (0 <= q17.2/\q17.2 < ((y15.length:Nat):Int))) <| cal (y15[q17.2.toNat]?) λy52=>ck ((((q17.1.length:Nat):Int) - (1:Int))) <| cal (zs y3.fields y52) λy54=>jp (ι:=Bool) (λJ56=>br (!decide (y3.kind=(9:Int))) (J56 ((decide ((0:Int) < y54.group)))) (J56 (false))) (λq55=>jp (ι:=Bool) (λJ59=>br q55 (J59 ((decide ((0:Int) <= (((q17.1.length:Nat):Int) - (1:Int)))))) (J59 (false))) (λq58=>jp (ι:=Bool) (λJ62=>br q58 (ck ((y52 - (1:Int))) <| cal (zs y3.fields (y52 - (1:Int))) λy65=>J62 ((decide (y65.group=y54.group)))) (J62 (false))) (λq61=>br q61 (asr (decide (0 <= (((q17.1.length:Nat):Int) - (1:Int))/\(((q17.1.length:Nat):Int) - (1:Int)) < ((q17.1.length:Nat):Int))) <| asr (decide ((((q17.1.length:Nat):Int) - (1:Int)).toNat + 1=q17.1.length)) <| cal (q17.1[(((q17.1.length:Nat):Int) - (1:Int)).toNat]?) λy68=>asr (Nat.ble (y68.length + ([y52]:(List Int)).length) 68719476736) <| asr (decide (0 <= (((q17.1.length:Nat):Int) - (1:Int))/\(((q17.1.length:Nat):Int) - (1:Int)) < ((q17.1.length:Nat):Int))) <| asr (decide ((((q17.1.length:Nat):Int) - (1:Int)).toNat + 1=q17.1.length)) <| cal (q17.1[(((q17.1.length:Nat):Int) - (1:Int)).toNat]?) λy74=>J50 ((q17.1.set ((((q17.1.length:Nat):Int) - (1:Int)).toNat) (y68 ++ ([y52]:(List Int)))))) (asr (Nat.ble (q17.1.length + ([([y52]:(List Int))]:(List (List Int))).length) 68719476736) <| J50 ((q17.1 ++ [([y52]:(List Int))]))))))) (λq49=>ck ((q17.2 + (1:Int))) <| L18 (q49,(q17.2 + (1:Int))))) (some (q17.1))) ((([]:(List (List Int))),(0:Int))))))

def zje (a_a:Tag) (a_b:Tag):Option (Bool) :=
 br (!decide (a_a.cls=a_b.cls)) (some ((decide (a_a.cls < a_b.cls)))) (some ((decide (a_a.num < a_b.num))))

def zcQ (a_c:zt) (a_i:Int) (a_v:Val):Option (Bool × zt) :=
 cal (zs a_c.tabled.t.types a_i) λy1=>br (decide ((a_v.more.length:Int)=(0:Int))) (some ((decide (a_v.rule=(0:Int))),a_c)) (jp (ι:=Bool) (λJ4=>br (!y1.more) (J4 (true)) (jp (ι:=Bool) (λJ7=>br (!decide (a_v.rule=(1:Int))) (J7 ((!decide (a_v.rule=(2:Int))))) (J7 (false))) (λq6=>J4 (q6)))) (λq3=>br q3 (some (false,a_c)) (cal (zfo a_c.tabled.t a_i) λy9=>lp (ι:=Int × Int × Tag × zt) (λL12 q11=>br (decide (q11.2.1 < (a_v.more.length:Int))) (jp (ι:=Int × Tag × zt) (λJ42=>cal (zs a_v.more q11.2.1) λy43=>br (decide (a_v.rule=(2:Int))) (jp (ι:=Bool) (λJ46=>br (decide (y43.n < q11.1)) (J46 (true)) (J46 ((decide ((1000:Int) <= y43.n))))) (λq45=>jp (ι:=Bool) (λJ49=>br q45 (J49 (true)) (cal (zhc y43.b) λy51=>J49 ((!y51)))) (λq48=>br q48 (some (false,q11.2.2.2)) (ck ((y43.n + (1:Int))) <| J42 ((y43.n + (1:Int)),q11.2.2.1,q11.2.2.2))))) (cal (zcG q11.2.2.2 a_i y43.b) λy53=>jp (ι:=Bool) (λJ56=>br (!y53.2.1) (J56 (true)) (J56 ((!decide (y43.n=(0:Int)))))) (λq55=>jp (ι:=Bool) (λJ59=>br q55 (J59 (true)) (jp (ι:=Bool) (λJ62=>br (decide (y1.kind=(8:Int))) (J62 ((decide ((0:Int) < q11.2.1)))) (J62 (false))) (λq61=>jp (ι:=Bool) (λJ65=>br q61 (cal (zje q11.2.2.1 y53.1) λy67=>J65 ((!y67))) (J65 (false))) (λq64=>J59 (q64))))) (λq58=>br q58 (some (false,y53.2.2)) (J42 (q11.1,y53.1,y53.2.2)))))) (λq41=>ck ((q11.2.1 + (1:Int))) <| L12 (q41.1,(q11.2.1 + (1:Int)),q41.2.1,q41.2.2))) (some (true,q11.2.2.2))) (((y9.length:Int),(0:Int),Tag.zero,a_c)))))

def zeS (a_v:Val):Option (Bool) :=
 jp (ι:=Bool) (λJ2=>br (decide (a_v.kind=(0:Int))) (cal (zcZ a_v (0:Int)) λy4=>J2 (y4)) (J2 (false))) (λq1=>some (q1))

def ziU (a_a:(List UInt8)) (a_b:(List UInt8)):Option (Bool) :=
 some ((decide ((Str.mk a_a)=(Str.mk a_b))))

def zfW (a_a:Raw) (a_b:Raw):Option (Bool) :=
 jp (ι:=Bool) (λJ2=>br (decide (a_a.n=a_b.n)) (cal (ziU a_a.b a_b.b) λy4=>J2 (y4)) (J2 (false))) (λq1=>some (q1))

def za2 (a_s1:(List Raw)) (a_s2:(List Raw)):Option (Bool) :=
 br (!decide ((a_s1.length:Int)=(a_s2.length:Int))) (some (false)) (lp (ι:=Int) (λL2 q1=>br (decide (q1 < (a_s1.length:Int))) (cal (zs a_s1 q1) λy9=>cal (zs a_s2 q1) λy11=>cal (zfW y9 y11) λy13=>br (!y13) (some (false)) (ck ((q1 + (1:Int))) <| L2 ((q1 + (1:Int))))) (some (true))) (((0:Int))))

def zgO (zd0:Val->Val->Option (Bool)) (zp:(List Val)->(List Val)->Option (Bool)) (a_a:Val) (a_b:Val):Option (Bool) :=
 jp (ι:=Bool) (λJ2=>br (decide (a_a.kind=a_b.kind)) (J2 ((decide (a_a.n=a_b.n)))) (J2 (false))) (λq1=>jp (ι:=Bool) (λJ5=>br q1 (cal (ziU a_a.b a_b.b) λy7=>J5 (y7)) (J5 (false))) (λq4=>jp (ι:=Bool) (λJ9=>br q4 (cal (zp a_a.l a_b.l) λy11=>J9 (y11)) (J9 (false))) (λq8=>jp (ι:=Bool) (λJ13=>br q8 (J13 ((decide (a_a.rule=a_b.rule)))) (J13 (false))) (λq12=>jp (ι:=Bool) (λJ16=>br q12 (cal (za2 a_a.more a_b.more) λy18=>J16 (y18)) (J16 (false))) (λq15=>some (q15))))))
def zak (zd0:Val->Val->Option (Bool)) (zp:(List Val)->(List Val)->Option (Bool)) (a_s1:(List Val)) (a_s2:(List Val)):Option (Bool) :=
 br (!decide ((a_s1.length:Int)=(a_s2.length:Int))) (some (false)) (lp (ι:=Int) (λL2 q1=>br (decide (q1 < (a_s1.length:Int))) (cal (zs a_s1 q1) λy9=>cal (zs a_s2 q1) λy11=>cal (zd0 y9 y11) λy13=>br (!y13) (some (false)) (ck ((q1 + (1:Int))) <| L2 ((q1 + (1:Int))))) (some (true))) (((0:Int))))
def zhX:Nat->(Val->Val->Option (Bool)) × ((List Val)->(List Val)->Option (Bool))
 | 0=>(λ_ _=>none,λ_ _=>none)
 | n + 1=>let p:=zhX n;(zgO p.1 p.2,zak p.1 p.2)
def zeY (n:Nat):Val->Val->Option (Bool):=(zhX n).1
def zam (n:Nat):(List Val)->(List Val)->Option (Bool):=(zhX n).2

def zct (a_c:zt) (a_i:Int) (a_v:Val):Option (Bool × zt) :=
 cal (zs a_c.tabled.t.types a_i) λy1=>cal (zfo a_c.tabled.t a_i) λy3=>lp (ι:=Int) (λL5 q4=>br (decide (q4 < (y3.length:Int))) (jp (ι:=Unit) (λJ49=>cal (zs y3 q4) λy50=>cal (zs y50 (0:Int)) λy51=>cal (zs y1.fields y51) λy52=>br (decide (y52.group=(0:Int))) (J49 ()) (lp (ι:=Bool × Bool × Int) (λL54 q53=>br (decide (q53.2.2 < (y50.length:Int))) (cal (zs y50 q53.2.2) λy67=>cal (zs a_v.l y67) λy68=>cal (zeS y68) λy69=>jp (ι:=Bool) (λJ71=>br q53.1 (J71 (true)) (J71 ((!y69)))) (λq70=>jp (ι:=Bool) (λJ74=>br q53.2.1 (J74 (true)) (jp (ι:=Bool) (λJ77=>br (!(!y69)) (cal (zs y1.fields y67) λy79=>J77 ((!y79.optional))) (J77 (false))) (λq76=>jp (ι:=Bool) (λJ81=>br q76 (cal (zs y1.fields y67) λy83=>J81 ((!y83.has))) (J81 (false))) (λq80=>J74 (q80))))) (λq73=>ck ((q53.2.2 + (1:Int))) <| L54 (q70,q73,(q53.2.2 + (1:Int)))))) (jp (ι:=Bool) (λJ86=>br q53.1 (J86 (q53.2.1)) (J86 (false))) (λq85=>br q85 (some (false,a_c)) (J49 ())))) ((false,false,(0:Int))))) (λq48=>ck ((q4 + (1:Int))) <| L5 ((q4 + (1:Int))))) (some (true,a_c))) (((0:Int)))

def zbR (zq:Val->zt->zg->Int->Option (Bool × zt)) (zB:zt->Int->Val->Int->Option (Bool × zt)) (zG:zt->zg->Val->Int->Option (Bool × zt)) (ze:(List Val)->zt->zg->Int->Option (Bool × zt)) (zf:(List Val)->zt->zg->Int->Option (Int × zt)) (zw:zt->Int->Val->Int->Option (Bool × zt)) (a_w_:Val) (a_a1:zt) (a_a2:zg) (a_a3:Int):Option (Bool × zt) :=
 ck ((a_a3 + (1:Int))) <| cal (zB a_a1 a_a2.of a_w_ (a_a3 + (1:Int))) λy2=>some ((!y2.1),y2.2)
def zbG (zq:Val->zt->zg->Int->Option (Bool × zt)) (zB:zt->Int->Val->Int->Option (Bool × zt)) (zG:zt->zg->Val->Int->Option (Bool × zt)) (ze:(List Val)->zt->zg->Int->Option (Bool × zt)) (zf:(List Val)->zt->zg->Int->Option (Int × zt)) (zw:zt->Int->Val->Int->Option (Bool × zt)) (a_c:zt) (a_i:Int) (a_v:Val) (za:Int):Option (Bool × zt) :=
 jp (ι:=Bool) (λJ2=>br (decide (a_i < (0:Int))) (J2 (true)) (J2 ((decide ((a_c.tabled.t.types.length:Int) <= a_i))))) (λq1=>jp (ι:=Bool) (λJ5=>br q1 (J5 (true)) (J5 ((decide ((17:Int) < za))))) (λq4=>br q4 (some (false,a_c)) (cal (zs a_c.tabled.t.types a_i) λy7=>br (decide (a_v.kind=(12:Int))) (cal (zcI a_c a_i a_v) λy9=>some (y9.1,y9.2)) (br (!decide (a_v.kind=y7.kind)) (some (false,a_c)) (br (decide (y7.kind=(1:Int))) (cal (zcZ a_v (1:Int)) λy10=>jp (ι:=Bool) (λJ12=>br y10 (jp (ι:=Bool) (λJ15=>br (decide (a_v.n=(0:Int))) (J15 (true)) (J15 ((decide (a_v.n=(1:Int)))))) (λq14=>J12 (q14))) (J12 (false))) (λq11=>some (q11,a_c))) (br (decide (y7.kind=(2:Int))) (cal (zcZ a_v (1:Int)) λy17=>jp (ι:=Bool) (λJ19=>br y17 (jp (ι:=Bool) (λJ22=>br y7.con.more (J22 (true)) (cal (zev y7.con a_v.n) λy24=>J22 (y24))) (λq21=>J19 (q21))) (J19 (false))) (λq18=>some (q18,a_c))) (br (decide (y7.kind=(3:Int))) (cal (zcZ a_v (1:Int)) λy25=>jp (ι:=Bool) (λJ27=>br y25 (cal (zdk y7 a_v.n) λy29=>J27 ((decide ((0:Int) <= y29)))) (J27 (false))) (λq26=>some (q26,a_c))) (br (decide (y7.kind=(4:Int))) (cal (zcZ a_v (0:Int)) λy30=>some (y30,a_c)) (jp (ι:=Bool) (λJ32=>br (decide (y7.kind=(5:Int))) (J32 ((decide (y7.kind=(5:Int))))) (J32 ((decide (y7.kind=(6:Int)))))) (λq31=>br q31 (cal (zdz a_c y7 a_v) λy33=>some (y33.1,y33.2)) (br (decide (y7.kind=(10:Int))) (cal (zG a_c y7 a_v za) λy34=>some (y34.1,y34.2)) (br (decide (y7.kind=(9:Int))) (cal (zcZ a_v (5:Int)) λy35=>jp (ι:=Bool) (λJ37=>br y35 (J37 ((decide ((0:Int) <= a_v.n)))) (J37 (false))) (λq36=>jp (ι:=Bool) (λJ40=>br q36 (J40 ((decide (a_v.n < (y7.fields.length:Int))))) (J40 (false))) (λq39=>jp (ι:=Bool) (λJ43=>br q39 (J43 ((decide ((a_v.l.length:Int)=(1:Int))))) (J43 (false))) (λq42=>jp (ι:=Bool × zt) (λJ46=>br q42 (cal (zs y7.fields a_v.n) λy48=>cal (zs a_v.l (0:Int)) λy49=>ck ((za + (1:Int))) <| cal (zB a_c y48.ty y49 (za + (1:Int))) λy51=>J46 (y51.1,y51.2)) (J46 (false,a_c))) (λq45=>some (q45.1,q45.2)))))) (jp (ι:=Bool) (λJ53=>br (decide (y7.kind=(7:Int))) (J53 ((decide (y7.kind=(7:Int))))) (J53 ((decide (y7.kind=(8:Int)))))) (λq52=>br q52 (cal (zw a_c a_i a_v za) λy54=>some (y54.1,y54.2)) (some (false,a_c))))))))))))))))
def zcr (zq:Val->zt->zg->Int->Option (Bool × zt)) (zB:zt->Int->Val->Int->Option (Bool × zt)) (zG:zt->zg->Val->Int->Option (Bool × zt)) (ze:(List Val)->zt->zg->Int->Option (Bool × zt)) (zf:(List Val)->zt->zg->Int->Option (Int × zt)) (zw:zt->Int->Val->Int->Option (Bool × zt)) (a_c:zt) (a_x:zg) (a_v:Val) (za:Int):Option (Bool × zt) :=
 cal (zcZ a_v (4:Int)) λy1=>jp (ι:=Bool) (λJ3=>br y1 (jp (ι:=Bool) (λJ6=>br a_x.con.more (J6 (true)) (cal (zev a_x.con (a_v.l.length:Int)) λy8=>J6 (y8))) (λq5=>J3 (q5))) (J3 (false))) (λq2=>jp (ι:=Bool × zt) (λJ10=>br q2 (cal (ze a_v.l a_c a_x za) λy12=>J10 ((!y12.1),y12.2)) (J10 (false,a_c))) (λq9=>some (q9.1,q9.2)))
def zas (zq:Val->zt->zg->Int->Option (Bool × zt)) (zB:zt->Int->Val->Int->Option (Bool × zt)) (zG:zt->zg->Val->Int->Option (Bool × zt)) (ze:(List Val)->zt->zg->Int->Option (Bool × zt)) (zf:(List Val)->zt->zg->Int->Option (Int × zt)) (zw:zt->Int->Val->Int->Option (Bool × zt)) (a_s:(List Val)) (za9:zt) (zbe:zg) (zbE:Int):Option (Bool × zt) :=
 cal (zf a_s za9 zbe zbE) λy1=>some ((decide ((0:Int) <= y1.1)),y1.2)
def zaw (zq:Val->zt->zg->Int->Option (Bool × zt)) (zB:zt->Int->Val->Int->Option (Bool × zt)) (zG:zt->zg->Val->Int->Option (Bool × zt)) (ze:(List Val)->zt->zg->Int->Option (Bool × zt)) (zf:(List Val)->zt->zg->Int->Option (Int × zt)) (zw:zt->Int->Val->Int->Option (Bool × zt)) (a_s:(List Val)) (za9:zt) (zbe:zg) (zbE:Int):Option (Int × zt) :=
 lp (ι:=Int × zt) (λL2 q1=>br (decide (q1.1 < (a_s.length:Int))) (cal (zs a_s q1.1) λy6=>cal (zq y6 q1.2 zbe zbE) λy7=>br y7.1 (some (q1.1,y7.2)) (ck ((q1.1 + (1:Int))) <| L2 ((q1.1 + (1:Int)),y7.2))) (some ((-1:Int),q1.2))) (((0:Int),za9))
def zcb (zq:Val->zt->zg->Int->Option (Bool × zt)) (zB:zt->Int->Val->Int->Option (Bool × zt)) (zG:zt->zg->Val->Int->Option (Bool × zt)) (ze:(List Val)->zt->zg->Int->Option (Bool × zt)) (zf:(List Val)->zt->zg->Int->Option (Int × zt)) (zw:zt->Int->Val->Int->Option (Bool × zt)) (a_c:zt) (a_i:Int) (a_v:Val) (za:Int):Option (Bool × zt) :=
 cal (zs a_c.tabled.t.types a_i) λy1=>cal (zcZ a_v (12:Int)) λy3=>jp (ι:=Bool) (λJ5=>br (!y3) (J5 (true)) (J5 ((!decide ((a_v.l.length:Int)=(y1.fields.length:Int)))))) (λq4=>jp (ι:=Bool × zt) (λJ8=>br q4 (J8 (true,a_c)) (cal (zcQ a_c a_i a_v) λy10=>J8 ((!y10.1),y10.2))) (λq7=>br q7.1 (some (false,q7.2)) (lp (ι:=Int × zt) (λL12 q11=>br (decide (q11.1 < (y1.fields.length:Int))) (jp (ι:=zt) (λJ36=>cal (zs y1.fields q11.1) λy37=>cal (zs a_v.l q11.1) λy39=>br (decide (y39.kind=(0:Int))) (cal (zeS y39) λy41=>jp (ι:=Bool) (λJ43=>br (!y41) (J43 (true)) (cal (zgk y1 q11.1) λy45=>J43 ((!y45)))) (λq42=>br q42 (some (false,q11.2)) (J36 (q11.2)))) (ck ((za + (1:Int))) <| cal (zB q11.2 y37.ty y39 (za + (1:Int))) λy47=>jp (ι:=Bool) (λJ49=>br (!y47.1) (J49 (true)) (jp (ι:=Bool) (λJ52=>br y37.has (cal (zeY fuel y39 y37.dflt) λy54=>J52 (y54)) (J52 (false))) (λq51=>J49 (q51)))) (λq48=>br q48 (some (false,y47.2)) (J36 (y47.2))))) (λq35=>ck ((q11.1 + (1:Int))) <| L12 ((q11.1 + (1:Int)),q35))) (cal (zct q11.2 a_i a_v) λy56=>some (y56.1,y56.2))) (((0:Int),q7.2)))))
def zbu:Nat->(Val->zt->zg->Int->Option (Bool × zt)) × (zt->Int->Val->Int->Option (Bool × zt)) × (zt->zg->Val->Int->Option (Bool × zt)) × ((List Val)->zt->zg->Int->Option (Bool × zt)) × ((List Val)->zt->zg->Int->Option (Int × zt)) × (zt->Int->Val->Int->Option (Bool × zt))
 | 0=>(λ_ _ _ _=>none,λ_ _ _ _=>none,λ_ _ _ _=>none,λ_ _ _ _=>none,λ_ _ _ _=>none,λ_ _ _ _=>none)
 | n + 1=>let p:=zbu n;(zbR p.1 p.2.1 p.2.2.1 p.2.2.2.1 p.2.2.2.2.1 p.2.2.2.2.2,zbG p.1 p.2.1 p.2.2.1 p.2.2.2.1 p.2.2.2.2.1 p.2.2.2.2.2,zcr p.1 p.2.1 p.2.2.1 p.2.2.2.1 p.2.2.2.2.1 p.2.2.2.2.2,zas p.1 p.2.1 p.2.2.1 p.2.2.2.1 p.2.2.2.2.1 p.2.2.2.2.2,zaw p.1 p.2.1 p.2.2.1 p.2.2.2.1 p.2.2.2.2.1 p.2.2.2.2.2,zcb p.1 p.2.1 p.2.2.1 p.2.2.2.1 p.2.2.2.2.1 p.2.2.2.2.2)
def zY (n:Nat):Val->zt->zg->Int->Option (Bool × zt):=(zbu n).1
def zX (n:Nat):zt->Int->Val->Int->Option (Bool × zt):=(zbu n).2.1
def zal (n:Nat):zt->zg->Val->Int->Option (Bool × zt):=(zbu n).2.2.1
def zm (n:Nat):(List Val)->zt->zg->Int->Option (Bool × zt):=(zbu n).2.2.2.1
def zo (n:Nat):(List Val)->zt->zg->Int->Option (Int × zt):=(zbu n).2.2.2.2.1
def zac (n:Nat):zt->Int->Val->Int->Option (Bool × zt):=(zbu n).2.2.2.2.2

def zfY (zgF:Val->Option (Int)) (a_v:Val):Option (Int) :=
 lp (ι:=Int × Int) (λL2 q1=>br (decide (q1.2 < (a_v.l.length:Int))) (cal (zs a_v.l q1.2) λy8=>cal (zgF y8) λy10=>ck ((q1.1 + y10)) <| ck ((q1.2 + (1:Int))) <| L2 ((q1.1 + y10),(q1.2 + (1:Int)))) (some (q1.1))) (((1:Int),(0:Int)))
def zkj:Nat->(Val->Option (Int))
 | 0=>(λ_=>none)
 | n + 1=>let p:=zkj n;(zfY p)
def zgv (n:Nat):Val->Option (Int):=(zkj n)

def zeZ (a_t:zab) (a_i:Int) (a_v:Val):Option (Bool) :=
 cal (zX fuel (zt.mk (ziC.mk a_t) false) a_i a_v (1:Int)) λy2=>jp (ι:=Bool) (λJ4=>br y2.1 (cal (zgv fuel a_v) λy6=>J4 ((decide (y6 <= (5000:Int))))) (J4 (false))) (λq3=>some (q3))

def ze2 (zaS:Val->Option (Bool)) (zbp:Val->Option (Bool)) (zi:(List Val)->Option (Bool)) (zk:(List Val)->Option (Int)) (a_w_:Val):Option (Bool) :=
 cal (zbp a_w_) λy1=>some ((!y1))
def zgY (zaS:Val->Option (Bool)) (zbp:Val->Option (Bool)) (zi:(List Val)->Option (Bool)) (zk:(List Val)->Option (Int)) (a_v:Val):Option (Bool) :=
 jp (ι:=Bool) (λJ2=>br (!decide (a_v.kind=(12:Int))) (J2 ((decide ((a_v.more.length:Int)=(0:Int))))) (J2 (false))) (λq1=>jp (ι:=Bool) (λJ5=>br q1 (cal (zi a_v.l) λy7=>J5 ((!y7))) (J5 (false))) (λq4=>some (q4)))
def zaT (zaS:Val->Option (Bool)) (zbp:Val->Option (Bool)) (zi:(List Val)->Option (Bool)) (zk:(List Val)->Option (Int)) (a_s:(List Val)):Option (Bool) :=
 cal (zk a_s) λy1=>some ((decide ((0:Int) <= y1)))
def za6 (zaS:Val->Option (Bool)) (zbp:Val->Option (Bool)) (zi:(List Val)->Option (Bool)) (zk:(List Val)->Option (Int)) (a_s:(List Val)):Option (Int) :=
 lp (ι:=Int) (λL2 q1=>br (decide (q1 < (a_s.length:Int))) (cal (zs a_s q1) λy6=>cal (zaS y6) λy7=>br y7 (some (q1)) (ck ((q1 + (1:Int))) <| L2 ((q1 + (1:Int))))) (some ((-1:Int)))) (((0:Int)))
def zer:Nat->(Val->Option (Bool)) × (Val->Option (Bool)) × ((List Val)->Option (Bool)) × ((List Val)->Option (Int))
 | 0=>(λ_=>none,λ_=>none,λ_=>none,λ_=>none)
 | n + 1=>let p:=zer n;(ze2 p.1 p.2.1 p.2.2.1 p.2.2.2,zgY p.1 p.2.1 p.2.2.1 p.2.2.2,zaT p.1 p.2.1 p.2.2.1 p.2.2.2,za6 p.1 p.2.1 p.2.2.1 p.2.2.2)
def zdt (n:Nat):Val->Option (Bool):=(zer n).1
def zdP (n:Nat):Val->Option (Bool):=(zer n).2.1
def zS (n:Nat):(List Val)->Option (Bool):=(zer n).2.2.1
def zad (n:Nat):(List Val)->Option (Int):=(zer n).2.2.2

def zh2 (zjl:Val->Option (Bool)) (a_v:Val):Option (Bool) :=
 jp (ι:=Bool) (λJ2=>br (decide (a_v.kind=(12:Int))) (J2 (true)) (J2 ((decide ((0:Int) < (a_v.more.length:Int)))))) (λq1=>br q1 (some (false)) (lp (ι:=Int) (λL5 q4=>br (decide (q4 < (a_v.l.length:Int))) (cal (zs a_v.l q4) λy9=>cal (zjl y9) λy10=>br (!y10) (some (false)) (ck ((q4 + (1:Int))) <| L5 ((q4 + (1:Int))))) (some (true))) (((0:Int)))))
def zml:Nat->(Val->Option (Bool))
 | 0=>(λ_=>none)
 | n + 1=>let p:=zml n;(zh2 p)
def zh7 (n:Nat):Val->Option (Bool):=(zml n)
end Go.Proofs.Q
namespace Go.Sy
theorem Opn.u8 {P:Program} {T:TypeId} (h:P.underlying T=some (.int .u8)):Opn P T UInt8 where
 op:=λht _=>by
  obtain ⟨n,rfl,_,hwf⟩:=DataW.trod_int h ht
  unfold Lit.wf at hwf
  rw [zBa] at hwf
  have h1:(0:Int) <= n:=zOT hwf.1
  have h2:n <= 255:=zOT hwf.2
  refine ⟨UInt8.ofNat n.toNat,?_⟩
  show [Value.int .u8 n]=[Value.int .u8 (((UInt8.ofNat n.toNat).toNat:Nat):Int)]
  rw [UInt8.toNat_ofNat',Nat.mod_eq_of_lt (by omega)]
  have:((n.toNat:Nat):Int)=n:=by omega
  rw [this]
 shape:=λ{_ _ _ v} hv=>by simp only [Value.okWide,h,Cell.okWide] at hv;cases v <;> simp_all [Cell.ok,Value.isAgg',Rep.agg]
structure OpB (P:Program) (T:TypeId) (α:Type) [Rep α] (N:Nat):Prop where
 op:∀ {H:Type} {enc:TypeId × Value->H} {W:World} {base:Nat} {spare:Nat->Bool} {held:Bool} {fuel:Nat} {cs:List Value} {x:DataW H × List MemPlace},
  fuel < N->DataW.trod enc P W base spare held fuel T cs=some x->(∀ k ∈ x.1.weights P T,k <= reachBytes)->∃ y:α,Rep.rd (zhA W) cs y
theorem OpB.of {P:Program} {T:TypeId} {α:Type} [Rep α] {N:Nat} (h:Opn P T α):OpB P T α N:=⟨λ_ h1 h2=>h.op h1 h2⟩
theorem OpB.list {P:Program} {T e:TypeId} {α:Type} [Rep α] {N:Nat} (hu:P.underlying T=some (.slice e)) (ho:OpB P e α N) (hn:P.cellsOf e=Rep.n α) (hn0:Nat.blt 0 (Rep.n α)=true) (hb:Nat.blt 0 (P.bytesOf e)=true):OpB P T (List α) (N + 1) where
 op := λ{H enc W base spare held fuel cs x} hN ht hw=>by
  have hn0':0 < Rep.n α:=by simpa using hn0
  have hb':0 < P.bytesOf e:=by simpa using hb
  rcases DataW.trod_slice hu ht with ⟨rfl,_⟩ | ⟨a,len,cap,elems,rest,n,hfu,rfl,rfl,_,hlc,hcm,hel,hall,_,_⟩
  ·exact ⟨[],_,rfl,none,0,rfl,zNl _,zNz _,.inl rfl⟩
  have hwl:(elems.length + rest.length) * P.bytesOf e <= reachBytes:=hw _ (by simp [DataW.weights,hu])
  have hlenb:len <= zeb:=by
   have h1:(elems.length + rest.length) * 1 <= (elems.length + rest.length) * P.bytesOf e:=Nat.mul_le_mul_left _ hb'
   unfold reachBytes at hwl;unfold zeb;omega
  have each:∀ i,i < len->∃ ci,W.cells? base (a.add (i * Rep.n α)) (Rep.n α)=some ci/\∃ y:α,Rep.rd (zhA W) ci y:=λi hi=>by
   have h1:=hall i hi
   rw [hn] at h1
   have hlt:i < elems.length:=by omega
   rw [List.getElem?_eq_getElem hlt,Option.bind_eq_some_iff] at h1
   obtain ⟨ci,h2,h3⟩:=h1
   refine ⟨ci,h2,ho.op (show n < N by omega) h3 λk hk=>hw k ?_⟩
   simp only [DataW.weights,hu]
   refine zMm _ (List.mem_append_left _ ?_)
   have:∀ (l:List (DataW H)) d,d ∈ l->∀ k ∈ d.weights P e,k ∈ DataW.weightsAll P e l:=by
    intro l
    induction l with
    | nil=>intro d hd;cases hd
    | cons b l ih =>
     intro d hd k hk
     simp only [DataW.weightsAll]
     rcases List.mem_cons.1 hd with h | h
     ·subst h;exact List.mem_append_left _ hk
     ·exact List.mem_append_right _ (ih d h k hk)
   exact this _ elems[i].1 (List.mem_map.2 ⟨_,List.getElem_mem hlt,rfl⟩) k hk
  by_cases h0:len=0
  ·subst h0
   exact ⟨[],_,rfl,some a,cap,rfl,zNz _,zNz _,.inl rfl⟩
  -- the block
  obtain ⟨c0,hc0,_⟩:=each 0 (by omega)
  have hadd0:a.add (0 * Rep.n α)=a:=by rw [Nat.zero_mul];rfl
  rw [hadd0] at hc0
  obtain ⟨_,hl0,hc0'⟩:=World.cells?_some hc0
  have hcell0:∃ v,W.cell? a=some v:=by
   have:=hc0' 0 hn0'
   have h2:∃ v,c0[0]?=some v:=⟨c0[0]'(by omega),List.getElem?_eq_getElem (by omega)⟩
   obtain ⟨v,hv⟩:=h2
   exact ⟨v,by rw [show a.add 0=a from rfl] at this;rw [this,hv]⟩
  obtain ⟨v0,hv0⟩:=hcell0
  obtain ⟨hspot,blk,hblk,_⟩:=zjh hv0
  have hcellk:∀ i j,i < len->j < Rep.n α->∃ v,blk[a.off + (i * Rep.n α + j)]?=some v/\∀ ci,W.cells? base (a.add (i * Rep.n α)) (Rep.n α)=some ci->ci[j]?=some v:=λi j hi hj=>by
   obtain ⟨ci,h1,_⟩:=each i hi
   obtain ⟨_,hl,hc⟩:=World.cells?_some h1
   have h2:=hc j hj
   have h3:ci[j]?=some (ci[j]'(by omega)):=List.getElem?_eq_getElem (by omega)
   rw [h3] at h2
   obtain ⟨_,blk',hb1,hb2⟩:=zjh h2
   have hbb:((a.add (i * Rep.n α)).add j).block=a.block/\((a.add (i * Rep.n α)).add j).off=a.off + (i * Rep.n α + j) :=
    ⟨(zkJ _ _).1.trans (zkJ _ _).1,by rw [(zkJ _ _).2,(zkJ _ _).2];omega⟩
   rw [hbb.1] at hb1
   rw [hblk] at hb1;cases hb1
   rw [hbb.2] at hb2
   exact ⟨_,hb2,λci' h'=>by rw [h1] at h';cases h';exact h3⟩
  have hbl:a.off + len * Rep.n α <= blk.length:=by
   obtain ⟨v,hv,_⟩:=hcellk (len - 1) (Rep.n α - 1) (by omega) (by omega)
   have:=(List.getElem?_eq_some_iff.1 hv).1
   have e:(len - 1) * Rep.n α + (Rep.n α - 1) + 1=len * Rep.n α:=by
    obtain ⟨m,rfl⟩:∃ m,len=m + 1:=⟨len - 1,by omega⟩
    rw [Nat.add_sub_cancel,Nat.add_mul];omega
   omega
  have hcs:∀ i,i < len->W.cells? base (a.add (i * Rep.n α)) (Rep.n α)=some ((blk.drop (a.off + i * Rep.n α)).take (Rep.n α)):=λi hi=>by
   obtain ⟨ci,h1,_⟩:=each i hi
   rw [h1]
   obtain ⟨_,hl,_⟩:=World.cells?_some h1
   congr 1
   apply List.ext_getElem?
   intro j
   by_cases hj:j < Rep.n α
   ·obtain ⟨v,hv,h2⟩:=hcellk i j hi hj
    rw [h2 ci h1,List.getElem?_take,if_pos hj,List.getElem?_drop,<- hv,Nat.add_assoc]
   ·rw [List.getElem?_eq_none (by omega),List.getElem?_eq_none (by rw [zLt];omega)]
  obtain ⟨ys,hy1,hy2⟩:=zkK (r:=Rep.rd (zhA W)) ((List.range len).map λi=>(blk.drop (a.off + i * Rep.n α)).take (Rep.n α)) λc hc=>by
   obtain ⟨i,hi,rfl⟩:=List.mem_map.1 hc
   have hi':=List.mem_range.1 hi
   obtain ⟨ci,h1,h2⟩:=each i hi'
   rw [hcs i hi'] at h1;cases h1
   exact h2
  have hyl:ys.length=len:=by simpa using hy1
  have hflat:∀ m,m <= len->((List.range m).map λi=>(blk.drop (a.off + i * Rep.n α)).take (Rep.n α)).flatten=(blk.drop a.off).take (m * Rep.n α):=by
   intro m
   induction m with
   | zero=>simp
   | succ m ih =>
    intro hm
    rw [List.range_succ,List.map_append,List.flatten_append,ih (by omega),Nat.add_mul,Nat.one_mul,List.take_add,List.drop_drop]
    simp
  rw [hflat len (zNl _)] at hy2
  subst hyl
  refine ⟨ys,_,rfl,some a,cap,rfl,hlc,hlenb,.inr ⟨a,(blk.drop a.off).take (ys.length * Rep.n α),rfl,⟨hspot,blk,hblk,λj u hj=>?_⟩,?_,hy2⟩⟩
  ·rw [List.getElem?_take] at hj
   split at hj
   ·rw [List.getElem?_drop] at hj;exact hj
   ·cases hj
  ·rw [zLt,zLd];omega

/-! ### A law's statement -/
/-- The parts of a struct, one behind the other, in so many steps. -/
inductive zuA (P:Program) (N:Nat):List Field->Nat->(σ:Type)->[Rep σ]->Prop
 | one {α:Type} [Rep α] {f:Field}:OpB P f.type α N->P.cellsOf f.type=Rep.n α->zuA P N [f] f.offset α
 | cons {α β:Type} [Rep α] [Rep β] {f:Field} {fs:List Field}:OpB P f.type α N->P.cellsOf f.type=Rep.n α->zuA P N fs (f.offset + Rep.n α) β->zuA P N (f :: fs) f.offset (α × β)
theorem zuA.op {P:Program} {N:Nat} {fs:List Field} {off:Nat} {σ:Type} [I:Rep σ] (h:zuA P N fs off σ) {H:Type} {enc:TypeId × Value->H} {W:World} {base:Nat} {spare:Nat->Bool} {held:Bool} {fuel:Nat} {cs:List Value} (hN:fuel < N)
    (hf:∀ f ∈ fs,∃ x,DataW.trod enc P W base spare held fuel f.type ((cs.drop f.offset).take (P.cellsOf f.type))=some x/\∀ k ∈ x.1.weights P f.type,k <= reachBytes) :
    ∃ y:σ,Rep.rd (zhA W) ((cs.drop off).take (Rep.n σ)) y:=by
  induction h with
  | one ho hn =>
    obtain ⟨x,h1,h2⟩:=hf _ (zMs ..)
    rw [hn] at h1
    exact ho.op hN h1 h2
  | @cons α β _ _ f fs ho hn _ ih =>
    obtain ⟨x,h1,h2⟩:=hf _ (zMs ..)
    rw [hn] at h1
    obtain ⟨y1,k1⟩:=ho.op hN h1 h2
    obtain ⟨y2,k2⟩:=ih λg hg=>hf g (zMm _ hg)
    refine ⟨(y1,y2),_,_,?_,k1,k2⟩
    show (cs.drop f.offset).take (Rep.n α + Rep.n β)=_
    rw [List.take_add,List.drop_drop]
theorem Opn.val {P:Program} {T:TypeId} {fs:Array Field} (hu:P.underlying T=some (.struct fs)) (hn:P.cellsOf T=6)
    (hof:∀ N,OpB P T Val N->zuA P (N + 1) fs.toList 0 (Int × Int × List UInt8 × List Val × Int × List Raw)):Opn P T Val:=by
  have key:∀ N,OpB P T Val N:=by
    intro N
    induction N with
    | zero=>exact ⟨λh=>absurd h (Nat.not_lt_zero _)⟩
    | succ N ih =>
      refine ⟨λ{H enc W base spare held fuel cs x} hN ht hw=>?_⟩
      obtain ⟨xs,n,hfu,hx,hl,hxl,hx2⟩:=DataW.trod_struct hu ht
      have:=(hof N ih).op (enc:=enc) (W:=W) (base:=base) (spare:=spare) (held:=held) (fuel:=n) (cs:=cs) (by omega) λf hf=>by
        obtain ⟨i,hi⟩:=List.mem_iff_getElem?.1 hf
        have hi':fs[i]?=some f:=by simpa using hi
        have h1:=hx2 i f hi'
        have hlt:i < xs.length:=by rw [hxl];exact (Array.getElem?_eq_some_iff.1 hi').1
        refine ⟨xs[i],by rw [h1,List.getElem?_eq_getElem hlt],λk hk=>hw k ?_⟩
        rw [hx,znr hu]
        exact DataW.weights_mem_each (j:=i) (t:=f.type) (d:=xs[i].1) (by rw [List.getElem?_map,hi];rfl) (by rw [List.getElem?_map,List.getElem?_eq_getElem hlt];rfl) k hk
      obtain ⟨⟨k,n',b,l,r,m⟩,hy⟩:=this
      refine ⟨Val.mk k n' b l r m,Val.rd_to.2 ?_⟩
      rw [hn] at hl
      have e:(cs.drop 0).take (Rep.n (Int × Int × List UInt8 × List Val × Int × List Raw))=cs:=by
        rw [List.drop_zero]
        exact zTl (by rw [hl];exact zNl _)
      rw [e] at hy
      exact hy
  exact ⟨λ{H enc W base spare held fuel cs x} ht hw=>(key (fuel + 1)).op (Nat.lt_succ_self _) ht hw,λ{_ _ _ v} hv=>by
    simp only [Value.okWide,hu] at hv
    obtain ⟨cs,rfl,_⟩:=hv
    rfl⟩
inductive zgU:Val->Prop
 | mk {v:Val}:v.b.length <= 281474976710656->v.l.length <= 281474976710656->v.more.length <= 281474976710656->(∀ r ∈ v.more,r.b.length <= 281474976710656)->(∀ w ∈ v.l,zgU w)->zgU v
theorem zgU.b {v:Val} (h:zgU v):v.b.length <= 281474976710656:=by cases h;assumption
theorem zgU.l {v:Val} (h:zgU v):v.l.length <= 281474976710656:=by cases h;assumption
theorem zgU.more {v:Val} (h:zgU v):v.more.length <= 281474976710656:=by cases h;assumption
theorem zgU.raw {v:Val} (h:zgU v):∀ r ∈ v.more,r.b.length <= 281474976710656:=by cases h;assumption
theorem zgU.kid {v:Val} (h:zgU v):∀ w ∈ v.l,zgU w:=by cases h;assumption
theorem znE {α:Type} {r:List Value->α->Prop}:∀ {l:List α} {cs:List Value},rdL r l cs->∀ x ∈ l,∃ c,r c x
 | [],_,_,x,h=>by cases h
 | y :: l,_,⟨c1,c2,_,h1,h2⟩,x,h=>by
  rcases List.mem_cons.1 h with e | e
  ·exact ⟨c1,e ▸ h1⟩
  ·exact znE h2 x e
theorem zta {S:Frz}:∀ (n:Nat) (v:Val),SizeOf.sizeOf v <= n->∀ cs,zib S v cs->zgU v:=by
 intro n
 induction n with
 | zero=>intro ⟨k,n,b,l,r,m⟩ h;rw [Val.mk.sizeOf_spec] at h;omega
 | succ n ih =>
  intro ⟨k,n',b,l,r,m⟩ hn cs h
  unfold zib at h
  obtain ⟨vb,vl,vm,_,_,_,_,⟨_,_,_,_,hb,_⟩,⟨_,_,_,_,hm,hm2⟩,⟨_,_,_,_,hl,hl2⟩⟩:=h
  have hm':m.length <= 281474976710656:=hm
  refine .mk hb hl hm' (λx hx=>?_) λw hw=>?_
  ·rcases hm2 with hm2 | ⟨_,_,_,_,_,hm2⟩
   ·rw [show m=[] from hm2] at hx;cases hx
   ·obtain ⟨c,hc⟩:=znE hm2 x hx
    obtain ⟨c1,c2,_,_,⟨_,_,_,_,_,_,h3,_⟩⟩:=hc
    exact h3
  ·rcases hl2 with hl2 | ⟨_,c,_,_,_,hl2⟩
   ·rw [show l=[] from hl2] at hw;cases hw
   ·obtain ⟨c,hc⟩:=znE (zhe.1 hl2) w hw
    refine ih w ?_ c hc
    have:=List.sizeOf_lt_of_mem (show w ∈ l from hw)
    rw [Val.mk.sizeOf_spec] at hn
    omega
theorem zwl {S:Frz} {u:Value} {v:Val} (h:(isv v).p S u):zgU v:=zta _ v (zNl _) _ h.2
end Go.Sy
namespace Go.Proofs.Q
open Go.Sy
theorem Val.eta (v:Val):Val.mk v.kind v.n v.b v.l v.rule v.more=v:=by cases v;rfl
theorem Val.lt {v w:Val} (h:w ∈ v.l):SizeOf.sizeOf w < SizeOf.sizeOf v:=by
 obtain ⟨k,n,b,l,r,m⟩:=v
 have h1:=List.sizeOf_lt_of_mem (show w ∈ l from h)
 rw [Val.mk.sizeOf_spec]
 omega
theorem zlG {α β:Type} (l:List α) (f:α->β):(l.attach.map λw=>f w.1)=l.map f:=by simp
inductive zcA:Val->Prop
 | mk {v:Val}:v.b.length <= 68719476736->v.l.length <= 68719476736->v.more.length <= 68719476736->(∀ r ∈ v.more,r.b.length <= 68719476736)->(∀ w ∈ v.l,zcA w)->zcA v
theorem zcA.b {v:Val} (h:zcA v):v.b.length <= 68719476736:=by cases h;assumption
theorem zcA.l {v:Val} (h:zcA v):v.l.length <= 68719476736:=by cases h;assumption
theorem zcA.more {v:Val} (h:zcA v):v.more.length <= 68719476736:=by cases h;assumption
theorem zcA.raw {v:Val} (h:zcA v):∀ r ∈ v.more,r.b.length <= 68719476736:=by cases h;assumption
theorem zcA.kid {v:Val} (h:zcA v):∀ w ∈ v.l,zcA w:=by cases h;assumption
def cnt (v:Val):Nat:=1 + (v.l.attach.map λw=>cnt w.1).sum
termination_by SizeOf.sizeOf v
decreasing_by exact Val.lt w.2
theorem zgZ (v:Val):cnt v=1 + (v.l.map cnt).sum:=by
 rw [cnt]
 congr 2
 exact zlG v.l cnt
def zbk (v:Val):Val:=if v.kind=12 then Val.mk 12 0 [] [] 0 [] else Val.mk v.kind v.n v.b (v.l.attach.map λw=>zbk w.1) 0 []
termination_by SizeOf.sizeOf v
decreasing_by exact Val.lt w.2
theorem zjb (v:Val):zbk v=if v.kind=12 then Val.mk 12 0 [] [] 0 [] else Val.mk v.kind v.n v.b (v.l.map zbk) 0 []:=by
 rw [zbk]
 split
 ·rfl
 ·congr 1
  exact zlG v.l zbk
def bare (v:Val):Bool:=!(decide (v.kind=12) || decide (0 < v.more.length)) && (v.l.attach.map λw=>bare w.1).all id
termination_by SizeOf.sizeOf v
decreasing_by exact Val.lt w.2
theorem ziI (v:Val):bare v=(!(decide (v.kind=12) || decide (0 < v.more.length)) && (v.l.map bare).all id):=by
 rw [bare]
 congr 2
 exact zlG v.l bare
theorem zeA (v:Val):0 < cnt v:=by rw [zgZ];omega
theorem znR {α:Type} {f:α->Nat}:∀ {l:List α} {x:α},x ∈ l->f x <= (l.map f).sum
 | [],x,h=>by cases h
 | y :: r,x,h=>by
  rw [List.map_cons,List.sum_cons]
  rcases List.mem_cons.1 h with e | e
  ·rw [e];omega
  ·have:=znR (f:=f) e
   omega
theorem zqL {α:Type} {f:α->Nat} (hf:∀ x,0 < f x):∀ {l:List α},l.length <= (l.map f).sum
 | []=>zNl _
 | y :: r=>by
  have:=zqL hf (l:=r)
  have:=hf y
  rw [List.map_cons,List.sum_cons,zLc]
  omega
theorem zdq {v w:Val} (h:w ∈ v.l):cnt w + 1 <= cnt v:=by
 rw [zgZ v]
 have:=znR (f:=cnt) h
 omega
theorem zym (v:Val):v.l.length + 1 <= cnt v:=by
 rw [zgZ v]
 have:=zqL zeA (l:=v.l)
 omega
theorem zuY:∀ (n:Nat) (v:Val),cnt v <= n->cnt (zbk v) <= cnt v:=by
 intro n
 induction n with
 | zero=>intro v h;have:=zeA v;omega
 | succ n ih =>
  intro v h
  rw [zjb v]
  split
  ·rw [zgZ]
   exact zeA v
  ·rw [zgZ,zgZ v]
   show 1 + ((v.l.map zbk).map cnt).sum <= _
   have:∀ l:List Val,(∀ w ∈ l,w ∈ v.l)->((l.map zbk).map cnt).sum <= (l.map cnt).sum:=by
    intro l
    induction l with
    | nil=>intro _;exact zNl _
    | cons x r ihr =>
     intro hl
     have h1:=zdq (hl x zMs)
     have h2:=ih x (by omega)
     have h3:=ihr λw hw=>hl w (zMm _ hw)
     simp only [List.map_cons,List.sum_cons] at h3 ⊢
     omega
   have:=this v.l λ_ h=>h
   omega
theorem T.or' {β:Type} {R:β->Prop} {c d:Bool} {K:Bool->Option β} (hK:T R (K (c || d))):T R (Sy.jp (λJ=>Sy.br c (J true) (J d)) K):=by cases c <;> exact hK
theorem T.and' {β:Type} {R:β->Prop} {c d:Bool} {K:Bool->Option β} (hK:T R (K (c && d))):T R (Sy.jp (λJ=>Sy.br c (J d) (J false)) K):=by cases c <;> exact hK
theorem ztY {a b:Nat} (h:(!decide ((a:Int)=(b:Int)))=false):a=b:=by
 have:(a:Int)=b:=by simpa using h
 omega
theorem T.andI {β:Type} {R:β->Prop} {P Q:Prop} {c:Bool} {M:(Bool->Option β)->Option β} {K:Bool->Option β} (hc:c=true ↔ P) (hM:∀ J:Bool->Option β,(∀ b,(b=true ↔ Q)->T R (J b))->T R (M J)) (hK:∀ b:Bool,(b=true ↔ P/\Q)->T R (K b)) :
    T R (Sy.jp (λJ=>Sy.br c (M J) (J false)) K):=by
  cases c with
  | true=>exact hM K λb hb=>hK b (by rw [hb];exact ⟨λh=>⟨hc.1 rfl,h⟩,λh=>h.2⟩)
  | false=>exact hK false ⟨λh=>(by cases h),λh=>by have:=hc.2 h.1;cases this⟩
theorem zmF {α:Type} {E:α->α->Option Bool} {F:(Int->Option Bool)->Int->Option Bool} (a b:List α) (ha:a.length <= 68719476736) (hE:∀ x ∈ a,∀ y,T (λr=>r=true ↔ x=y) (E x y))
    (hF:∀ (L:Int->Option Bool) (q:Int),F L q=Sy.br (decide (q < (a.length:Int))) (Sy.cal (zs a q) λy=>Sy.cal (zs b q) λz=>Sy.cal (E y z) λw=>Sy.br (!w) (some false) (Sy.ck (q + 1) <| L (q + 1))) (some true)) :
    T (λr=>r=true ↔ a=b) (Sy.br (!decide ((a.length:Int)=(b.length:Int))) (some false) (Sy.lp F (0:Int))):=by
  refine T.br (λh=>T.some ⟨λh=>(by cases h),λe=>?_⟩) λh=>?_
  · subst e
    simp at h
  have hl:a.length=b.length:=ztY h
  refine T.lp (λ(q:Int)=>0 <= q/\q <= (a.length:Int)/\∀ i:Nat,(i:Int) < q->a[i]?=b[i]?) (λ(q:Int)=>((a.length:Int) - q).toNat) ⟨zIl _,by omega,λi h=>by omega⟩ (by omega) λL q ⟨h1,h2,h3⟩ hL=>?_
  rw [hF]
  refine T.br (λhb=>?_) λhb=>T.some ⟨λ_=>?_,λ_=>rfl⟩
  · have hb:=zOT hb
    refine T.get h1 hb λy hy=>T.get h1 (by omega) λz hz=>T.cal (hE y (List.mem_of_getElem? hy) z) λw _ hw=>T.br (λhe=>T.some ⟨λh=>(by cases h),λe=>?_⟩) λhe=>T.ck (by omega) (hL _ ⟨by omega,by omega,λi hi=>?_⟩ (by omega))
    · subst e
      rw [hy] at hz;cases hz
      rw [hw.2 rfl] at he;cases he
    · have he:y=z:=hw.1 (by simpa using he)
      rcases Int.lt_or_le (i:Int) q with h | h
      · exact h3 i h
      · have:i=q.toNat:=by omega
        rw [this,hy,hz,he]
  · have hb:=zOF hb
    refine List.ext_getElem? λi=>?_
    rcases Nat.lt_or_ge i a.length with h | h
    · exact h3 i (by omega)
    · rw [List.getElem?_eq_none h,List.getElem?_eq_none (by omega)]
theorem zw0 (x y:Raw):T (λr=>r=true ↔ x=y) (zrh x y):=by
 unfold zrh
 refine T.andI (P:=x.n=y.n) (Q:=x.b=y.b) decide_eq_true_iff (λJ kk=>T.eq (y:=decide (Str.mk x.b=Str.mk y.b)) rfl (kk _ ?_)) λb hb=>T.some ?_
 ·rw [decide_eq_true_iff]
  exact ⟨λh=>congrArg Str.b h,λh=>by rw [h]⟩
 ·rw [hb]
  obtain ⟨a,b⟩:=x
  obtain ⟨c,d⟩:=y
  exact ⟨λ⟨h1,h2⟩=>(by cases h1;cases h2;rfl),λh=>by cases h;exact ⟨rfl,rfl⟩⟩
theorem zh5:∀ {k n:Nat} {f:Val},cnt f <= k->2 * k <= n->zcA f->∀ g,T (λr=>r=true ↔ f=g) (zfE n f g):=by
 intro k
 induction k with
 | zero=>intro n f h;have:=zeA f;omega
 | succ k ih =>
  intro n f hk hn hf g
  obtain ⟨n,rfl⟩:∃ n',n=n' + 2:=⟨n - 2,by omega⟩
  show T _ (zjA (zeD (n + 1)) (zfE (n + 1)) f g)
  unfold zjA
  refine T.andI (P:=f.kind=g.kind) (Q:=f.n=g.n) decide_eq_true_iff (λJ kk=>kk _ decide_eq_true_iff) λb1 h1=>?_
  refine T.andI (Q:=f.b=g.b) h1 (λJ kk=>T.eq (y:=decide (Str.mk f.b=Str.mk g.b)) rfl (kk _ ?_)) λb2 h2=>?_
  ·rw [decide_eq_true_iff]
   exact ⟨λh=>congrArg Str.b h,λh=>by rw [h]⟩
  refine T.andI (Q:=f.l=g.l) h2 (λJ kk=>T.cal (Q:=λr=>r=true ↔ f.l=g.l) ?_ λr _ hr=>kk _ hr) λb3 h3=>?_
  ·show T _ (zd3 (zeD n) (zfE n) f.l g.l)
   unfold zd3
   exact zmF f.l g.l hf.l (λx hx y=>ih (by have:=zdq hx;omega) (by omega) (hf.kid x hx) y) λL q=>rfl
  refine T.andI (Q:=f.rule=g.rule) h3 (λJ kk=>kk _ decide_eq_true_iff) λb4 h4=>?_
  refine T.andI (Q:=f.more=g.more) h4 (λJ kk=>T.cal (Q:=λr=>r=true ↔ f.more=g.more) ?_ λr _ hr=>kk _ hr) λb5 h5=>T.some ?_
  ·unfold zgT
   exact zmF f.more g.more hf.more (λx hx y=>zw0 x y) λL q=>rfl
  ·rw [h5,<- Val.eta f,<- Val.eta g]
   constructor
   ·rintro ⟨⟨⟨⟨⟨e1,e2⟩,e3⟩,e4⟩,e5⟩,e6⟩
    simp only [Val.eta] at e1 e2 e3 e4 e5 e6
    rw [e1,e2,e3,e4,e5,e6]
   ·intro h
    rw [Val.eta,Val.eta] at h
    subst h
    exact ⟨⟨⟨⟨⟨rfl,rfl⟩,rfl⟩,rfl⟩,rfl⟩,rfl⟩
theorem zvp:∀ {n:Nat} {v:Val},cnt v <= n->zcA v->zh7 n v=some (bare v):=by
 intro n
 induction n with
 | zero=>intro v h;have:=zeA v;omega
 | succ n ih =>
  intro v hn hf
  refine T.eqs ?_
  show T _ (zh2 (zh7 n) v)
  unfold zh2
  have hfl:=hf.l
  rw [ziI]
  refine T.or' (T.br (λh=>T.some ?_) λh=>?_)
  ·have:(decide (v.kind=12) || decide (0 < v.more.length))=true:=by
    rw [<- h];congr 1;rw [decide_eq_decide];omega
   rw [this];rfl
  have hno:(decide (v.kind=12) || decide (0 < v.more.length))=false:=by
   rw [<- h];congr 1;rw [decide_eq_decide];omega
  rw [hno]
  refine T.lp (λ(q:Int)=>0 <= q/\q <= (v.l.length:Int)/\((v.l.take q.toNat).map bare).all id=true) (λ(q:Int)=>((v.l.length:Int) - q).toNat) ⟨zIl _,by omega,rfl⟩ (by omega) λL q ⟨q1,q2,q3⟩ hL=>T.br (λhb=>?_) λhb=>T.some ?_
  ·have hb:=zOT hb
   refine T.get q1 hb λy hy=>?_
   have hm:=List.mem_of_getElem? hy
   have hk:=zdq hm
   refine T.eq (ih (by omega) (hf.kid _ hm)) (T.br (λh2=>T.some ?_) λh2=>T.ck (by omega) (hL _ ⟨by omega,by omega,?_⟩ (by omega)))
   ·have h2:bare y=false:=by simpa using h2
    have:(v.l.map bare).all id=false:=by
     rw [List.all_eq_false]
     exact ⟨bare y,List.mem_map.2 ⟨y,hm,rfl⟩,by rw [h2];decide⟩
    rw [this];rfl
   ·have h2:bare y=true:=by simpa using h2
    have e:(q + 1).toNat=q.toNat + 1:=by omega
    rw [e,List.take_add_one,hy,List.map_append,List.all_append,q3]
    show (true && (bare y && true))=true
    rw [h2];rfl
  ·have hb:=zOF hb
   rw [zTl (by omega)] at q3
   rw [q3];rfl
theorem zvb:∀ {m n:Nat} {v:Val} {left:Int},0 <= left->left < m->left <= 100000->m <= n->zgU v->T (λr=>r.1=true->0 <= r.2/\r.2 + cnt v <= left/\zcA v) (zk6 n v left):=by
 intro m
 induction m with
 | zero=>intro n v left h1 h2;omega
 | succ m ih =>
  intro n v left h1 h2 h3 hn hf
  obtain ⟨n,rfl⟩:∃ n',n=n' + 1:=⟨n - 1,by omega⟩
  show T _ (zjD (zk6 n) v left)
  unfold zjD
  have hb:=hf.b
  have hm:=hf.more
  have hl:=hf.l
  have e1:((v.b.length:Int).tdiv 50)=(v.b.length:Int) / 50:=Int.tdiv_eq_ediv_of_nonneg (by omega)
  rw [e1]
  refine T.asr (by decide) (T.ck (by omega) (T.ck (by omega) (T.ck (by omega) (T.ck (by omega) ?_))))
  refine T.lp (ι:=Int × Int) (λq=>0 <= q.1/\q.1 <= (v.more.length:Int)/\q.2 <= left - 1 - (v.b.length:Int) / 50 - (v.more.length:Int)/\-1000000000000000 <= q.2/\∀ k:Nat,(k:Int) < q.1->∀ r:Raw,v.more[k]?=some r->q.2 + (r.b.length:Int) / 50 <= left) (λq=>((v.more.length:Int) - q.1).toNat) ⟨zIl _,by dsimp only;omega,by dsimp only;omega,by dsimp only;omega,λk hk=>by dsimp only at hk;omega⟩ (by dsimp only;omega) λL q ⟨q1,q2,q3,q4,q5⟩ hL=>?_
  obtain ⟨i,lf⟩:=q
  dsimp only at q1 q2 q3 q4 q5 hL ⊢
  refine T.and' (T.br (λhc=>?_) λhc=>?_)
  ·rw [zBa] at hc
   have c1:=zOT hc.1
   have c2:=zOT hc.2
   refine T.get q1 c1 λr hr=>?_
   have hrb:=hf.raw r (List.mem_of_getElem? hr)
   have e2:((r.b.length:Int).tdiv 50)=(r.b.length:Int) / 50:=Int.tdiv_eq_ediv_of_nonneg (by omega)
   rw [e2]
   refine T.asr (by decide) (T.ck (by omega) (T.ck (by omega) (T.ck (by omega) (hL _ ⟨by dsimp only;omega,by dsimp only;omega,by dsimp only;omega,by dsimp only;omega,λk hk r' hr'=>?_⟩ (by dsimp only;omega)))))
   dsimp only at hk ⊢
   rcases Int.lt_or_le (k:Int) i with h4 | h4
   ·have:=q5 k h4 r' hr'
    omega
   ·have:k=i.toNat:=by omega
    rw [this,hr] at hr';cases hr'
    omega
  refine T.br (λ_=>T.some λh=>by cases h) λh0=>?_
  have h0:=zOF h0
  have hall:i=(v.more.length:Int):=by
   rw [Bool.and_eq_false_iff] at hc
   rcases hc with hc | hc
   ·have:=zOF hc;omega
   ·have:=zOF hc;omega
  clear hL
  have hraw:∀ r ∈ v.more,r.b.length <= 68719476736:=λr hr=>by
   obtain ⟨k,hk⟩:=List.mem_iff_getElem?.1 hr
   have hlt:=(List.getElem?_eq_some_iff.1 hk).1
   have:=q5 k (by omega) r hk
   omega
  refine T.lp (ι:=Int × Int) (λp=>0 <= p.1/\p.1 <= (v.l.length:Int)/\0 <= p.2/\p.2 + (((v.l.take p.1.toNat).map cnt).sum:Nat) <= lf/\∀ k:Nat,(k:Int) < p.1->∀ w,v.l[k]?=some w->zcA w) (λp=>((v.l.length:Int) - p.1).toNat) ⟨zIl _,by dsimp only;omega,by dsimp only;omega,by show lf + ((([]:List Val).map cnt).sum:Nat) <= lf;simp,λk hk=>by dsimp only at hk;omega⟩ (by dsimp only;omega) λL p ⟨p1,p2,p3,p4,p5⟩ hL=>?_
  obtain ⟨j,lg⟩:=p
  dsimp only at p1 p2 p3 p4 p5 hL ⊢
  refine T.br (λhc=>?_) λhc=>T.some λ_=>⟨p3,?_,?_⟩
  ·have hc:=zOT hc
   refine T.get p1 hc λy hy=>?_
   refine T.cal (ih p3 (by omega) (by omega) (by omega) (hf.kid y (List.mem_of_getElem? hy))) λr _ hr=>T.br (λ_=>T.some λh=>by cases h) λhr2=>?_
   obtain ⟨r1,r2,r3⟩:=hr (by simpa using hr2)
   have e:(j + 1).toNat=j.toNat + 1:=by omega
   refine T.ck (by omega) (hL _ ⟨by dsimp only;omega,by dsimp only;omega,r1,?_,λk hk w hw=>?_⟩ (by dsimp only;omega))
   ·dsimp only
    rw [e,List.take_add_one,hy,List.map_append,List.sum_append]
    simp only [Option.toList_some,List.map_cons,List.map_nil,List.sum_cons,List.sum_nil]
    omega
   ·dsimp only at hk
    rcases Int.lt_or_le (k:Int) j with h4 | h4
    ·exact p5 k h4 w hw
    ·have:k=j.toNat:=by omega
     rw [this,hy] at hw;cases hw
     exact r3
  ·have hc:=zOF hc
   rw [zTl (by omega)] at p4
   rw [zgZ]
   omega
  ·have hc:=zOF hc
   have hcl:v.l.length <= 68719476736:=by
    rw [zTl (by omega)] at p4
    have:=zqL zeA (l:=v.l)
    omega
   refine .mk (by omega) hcl (by omega) hraw λw hw=>?_
   obtain ⟨k,hk⟩:=List.mem_iff_getElem?.1 hw
   have hlt:=(List.getElem?_eq_some_iff.1 hk).1
   exact p5 k (by omega) w hk
theorem zu4 {v:Val} (hf:zgU v):T (λr=>r=true->cnt v <= 2000/\zcA v) (zmC v 2000):=by
 unfold zmC
 exact T.cal (zvb (m:=2001) (by decide) (by decide) (by decide) (by unfold fuel;omega) hf) λr _ hr=>T.some λh=>by
  obtain ⟨h1,h2,h3⟩:=hr h
  exact ⟨by omega,h3⟩
theorem zsX:∀ {n:Nat} {v:Val},cnt v <= n->cnt v <= 100000000->zcA v->zhU n v=some (cnt v:Int):=by
 intro n
 induction n with
 | zero=>intro v h;have:=zeA v;omega
 | succ n ih =>
  intro v hn h6 hf
  refine T.eqs ?_
  show T _ (zhm (zhU n) v)
  unfold zhm
  have hfl:=hf.l
  have hc:=zgZ v
  refine T.lp (ι:=Int × Int) (λq=>0 <= q.2/\q.2 <= (v.l.length:Int)/\q.1=1 + (((v.l.take q.2.toNat).map cnt).sum:Nat)) (λq=>((v.l.length:Int) - q.2).toNat) ⟨zIl _,by dsimp only;omega,by show (1:Int)=1 + ((([]:List Val).map cnt).sum:Nat);simp⟩ (by dsimp only;omega) λL q ⟨q1,q2,q3⟩ hL=>?_
  obtain ⟨c,i⟩:=q
  dsimp only at q1 q2 q3 hL ⊢
  refine T.br (λhb=>?_) λhb=>T.some ?_
  ·have hb:=zOT hb
   refine T.get q1 hb λy hy=>?_
   have hm:=List.mem_of_getElem? hy
   have hk:=zdq hm
   have e:(i + 1).toNat=i.toNat + 1:=by omega
   have hs:((v.l.take (i.toNat + 1)).map cnt).sum=((v.l.take i.toNat).map cnt).sum + cnt y:=by
    rw [List.take_add_one,hy,List.map_append,List.sum_append]
    simp
   have hle:((v.l.take (i.toNat + 1)).map cnt).sum <= (v.l.map cnt).sum:=by
    conv=>rhs;rw [<- List.take_append_drop (i.toNat + 1) v.l]
    rw [List.map_append,List.sum_append]
    omega
   refine T.eq (ih (by omega) (by omega) (hf.kid _ hm)) (T.ck (by omega) (T.ck (by omega) (hL _ ⟨by dsimp only;omega,by dsimp only;omega,?_⟩ (by dsimp only;omega))))
   dsimp only
   rw [e,hs,q3]
   omega
  ·have hb:=zOF hb
   rw [zTl (by omega)] at q3
   rw [q3,hc]
   omega
theorem zpU:∀ {n:Nat} {v:Val},cnt v <= n->cnt v <= 100000000->zcA v->zgv n v=some (cnt v:Int):=by
 intro n
 induction n with
 | zero=>intro v h;have:=zeA v;omega
 | succ n ih =>
  intro v hn h6 hf
  refine T.eqs ?_
  show T _ (zfY (zgv n) v)
  unfold zfY
  have hfl:=hf.l
  have hc:=zgZ v
  refine T.lp (ι:=Int × Int) (λq=>0 <= q.2/\q.2 <= (v.l.length:Int)/\q.1=1 + (((v.l.take q.2.toNat).map cnt).sum:Nat)) (λq=>((v.l.length:Int) - q.2).toNat) ⟨zIl _,by dsimp only;omega,by show (1:Int)=1 + ((([]:List Val).map cnt).sum:Nat);simp⟩ (by dsimp only;omega) λL q ⟨q1,q2,q3⟩ hL=>?_
  obtain ⟨c,i⟩:=q
  dsimp only at q1 q2 q3 hL ⊢
  refine T.br (λhb=>?_) λhb=>T.some ?_
  ·have hb:=zOT hb
   refine T.get q1 hb λy hy=>?_
   have hm:=List.mem_of_getElem? hy
   have hk:=zdq hm
   have e:(i + 1).toNat=i.toNat + 1:=by omega
   have hs:((v.l.take (i.toNat + 1)).map cnt).sum=((v.l.take i.toNat).map cnt).sum + cnt y:=by
    rw [List.take_add_one,hy,List.map_append,List.sum_append]
    simp
   have hle:((v.l.take (i.toNat + 1)).map cnt).sum <= (v.l.map cnt).sum:=by
    conv=>rhs;rw [<- List.take_append_drop (i.toNat + 1) v.l]
    rw [List.map_append,List.sum_append]
    omega
   refine T.eq (ih (by omega) (by omega) (hf.kid _ hm)) (T.ck (by omega) (T.ck (by omega) (hL _ ⟨by dsimp only;omega,by dsimp only;omega,?_⟩ (by dsimp only;omega))))
   dsimp only
   rw [e,hs,q3]
   omega
  ·have hb:=zOF hb
   rw [zTl (by omega)] at q3
   rw [q3,hc]
   omega
def pln (v:Val) (n b l m:Bool):Bool:=(n || decide (v.n=0)) && (b || decide ((v.b.length:Int)=0)) && (l || decide ((v.l.length:Int)=0)) && (m || (decide (v.rule=0) && decide ((v.more.length:Int)=0)))
theorem T.andJ {β:Type} {R:β->Prop} {c d:Bool} {M:(Bool->Option β)->Option β} {K:Bool->Option β} (hM:∀ J:Bool->Option β,T R (J d)->T R (M J)) (hK:T R (K (c && d))):T R (Sy.jp (λJ=>Sy.br c (M J) (J false)) K):=by
 cases c
 ·exact hK
 ·exact hM K hK
theorem T.orJ {β:Type} {R:β->Prop} {c d:Bool} {M:(Bool->Option β)->Option β} {K:Bool->Option β} (hM:∀ J:Bool->Option β,T R (J d)->T R (M J)) (hK:T R (K (c || d))):T R (Sy.jp (λJ=>Sy.br c (J true) (M J)) K):=by
 cases c
 ·exact hM K hK
 ·exact hK
theorem zff (v:Val) (n b l m:Bool):zeh v n b l m=some (pln v n b l m):=by
 refine T.eqs ?_
 unfold zeh
 exact T.or' (T.andJ (λJ h=>T.or' h) (T.andJ (λJ h=>T.or' h) (T.andJ (λJ h=>T.orJ (λJ2 h2=>T.and' h2) h) (T.some rfl))))
theorem zcU (v:Val) (u:Int) (h:0 <= u):zcZ v u=some (pln v (!decide (andI u 1=0)) (!decide (andI u 2=0)) (!decide (andI u 4=0)) (!decide (andI u 8=0))):=by
 refine T.eqs ?_
 unfold zcZ
 refine T.asd ⟨h,by decide⟩ (T.or' (T.andJ (λJ hh=>T.asd ⟨h,by decide⟩ (T.or' hh)) (T.andJ (λJ hh=>T.asd ⟨h,by decide⟩ (T.or' hh)) (T.andJ (λJ hh=>T.asd ⟨h,by decide⟩ (T.orJ (λJ2 h2=>T.and' h2) hh)) (T.some rfl)))))
theorem zhR (v:Val):zeS v=some (decide (v.kind=0) && pln v false false false false):=by
 refine T.eqs ?_
 unfold zeS
 refine T.andJ (d:=pln v false false false false) (λJ hh=>T.eq (zcU v 0 (zIl _)) ?_) (T.some rfl)
 have e:pln v (!decide (andI 0 1=0)) (!decide (andI 0 2=0)) (!decide (andI 0 4=0)) (!decide (andI 0 8=0))=pln v false false false false:=rfl
 rw [e]
 exact hh
theorem zl4 {v:Val}:(decide (v.kind=0) && pln v false false false false)=true ↔ v=Val.mk 0 0 [] [] 0 []:=by
 unfold pln
 simp only [Bool.false_or,zBa,decide_eq_true_eq]
 constructor
 ·rintro ⟨h1,⟨⟨h2,h3⟩,h4⟩,h5,h6⟩
  rw [<- Val.eta v,h1,h2,h5,List.length_eq_zero_iff.1 (by omega:v.b.length=0),List.length_eq_zero_iff.1 (by omega:v.l.length=0),List.length_eq_zero_iff.1 (by omega:v.more.length=0)]
 ·intro h
  subst h
  exact ⟨rfl,⟨⟨rfl,rfl⟩,rfl⟩,rfl,rfl⟩
def rng (a b:Int):List Int:=(List.range (b - a).toNat).map λ(i:Nat)=>a + (i:Int)
theorem zj9 {a b:Int} (h:b <= a):rng a b=[]:=by
 unfold rng
 have:(b - a).toNat=0:=by omega
 rw [this];rfl
theorem zmt {a b:Int} (h:a <= b):rng a (b + 1)=rng a b ++ [b]:=by
 unfold rng
 have:(b + 1 - a).toNat=(b - a).toNat + 1:=by omega
 rw [this,List.range_succ,List.map_append]
 congr 1
 show [a + (((b - a).toNat:Nat):Int)]=[b]
 congr 1
 omega
theorem zlj {a b:Int}:(rng a b).length=(b - a).toNat:=by unfold rng;rw [List.length_map,List.length_range]
theorem zyO {a b:Int} {k:Nat} (h:a + k < b):(rng a b)[k]?=some (a + k):=by
 unfold rng
 rw [List.getElem?_map,List.getElem?_range (by omega)]
 rfl
def grp (fs:List zaC) (k:Int):Int:=((fs[k.toNat]?).map λf=>f.group).getD 0
def zeg (c:Bool) (fs:List zaC) (out:List (List Int)) (k:Int):List (List Int) :=
 if (c && decide (0 < grp fs k) && decide (0 < out.length))=true/\grp fs (k - 1)=grp fs k then out.set (out.length - 1) ((out[out.length - 1]?).getD [] ++ [k]) else out ++ [[k]]
def slots (x:zg):List (List Int):=(rng x.root x.fields.length).foldl (zeg (!decide (x.kind=9)) x.fields) []
def zfk (t:zab) (i:Int):List (List Int):=match (if 0 <= i then t.types[i.toNat]? else none) with
 | none=>[]
 | some x=>if x.kind=7 \/ x.kind=8 \/ x.kind=9 then slots x else []
theorem zmT (c:Bool) (fs:List zaC) (out:List (List Int)) (k:Int):(zeg c fs out k).length <= out.length + 1/\0 < (zeg c fs out k).length:=by
 unfold zeg
 split
 ·rename_i h
  have h1:=h.1
  rw [zBa] at h1
  have h2:=zOT h1.2
  rw [List.length_set]
  omega
 ·rw [zLa,zLs]
  omega
theorem zjW {c:Bool} {fs:List zaC}:∀ (l:List Int) (out:List (List Int)) (n:Nat),out.length <= n->(∀ s ∈ out,s.length <= n)->(l.foldl (zeg c fs) out).length <= n + l.length/\∀ s ∈ l.foldl (zeg c fs) out,s.length <= n + l.length:=by
 intro l
 induction l with
 | nil=>intro out n h1 h2;exact ⟨h1,h2⟩
 | cons k r ih =>
  intro out n h1 h2
  have:=ih (zeg c fs out k) (n + 1) (by have:=(zmT c fs out k).1;omega) (λs hs=>by
   unfold zeg at hs
   split at hs
   ·rcases List.mem_or_eq_of_mem_set hs with h | h
    ·have:=h2 s h;omega
    ·rw [h,zLa,zLs]
     cases hg:out[out.length - 1]? with
     | none=>simp
     | some y =>
      have:=h2 y (List.mem_of_getElem? hg)
      show y.length + 1 <= n + 1
      omega
   ·rcases List.mem_append.1 hs with h | h
    ·have:=h2 s h;omega
    ·rw [zMo.1 h]
     show 1 <= n + 1
     omega)
  rw [List.foldl_cons,zLc]
  have e:n + 1 + r.length=n + (r.length + 1):=by omega
  rw [e] at this
  exact this
theorem zq4 {x:Int} {β:Type} {R:β->Prop} {K:Bool->Option β} (h:T R (K (!decide (x=7 \/ x=8 \/ x=9)))) :
    T R (Sy.jp (λJ5=>Sy.br (!decide (x=7)) (J5 (!decide (x=8))) (J5 false)) λq=>Sy.jp (λJ8=>Sy.br q (J8 (!decide (x=9))) (J8 false)) K):=by
  refine T.and' (T.and' ?_)
  have:((!decide (x=7)) && (!decide (x=8)) && !decide (x=9))=!decide (x=7 \/ x=8 \/ x=9):=by
    rw [Bool.eq_iff_iff]
    simp only [zBa,Bool.not_eq_true',decide_eq_false_iff_not,not_or]
    exact and_assoc
  rw [this]
  exact h
theorem ziA {h:Nat} {l:List zg} {x:zg} {i j:Nat} (hk:zaN (zbO h l) (zhk x) i j) (hj:j <= l.length) (hl:l.length <= 1000):x.fields.length <= 1000:=by
 have:=znV hk
 unfold zhk at this
 rw [zLa,List.length_map] at this
 omega
theorem ztA {t:zab} (ht:zdp t) (i:Int):zgj t i=some (zfk t i):=by
 refine T.eqs ?_
 unfold zgj
 refine T.cal (Q:=λr=>r=decide (0 <= i/\i < t.types.length)) (by
  unfold zlg
  refine T.and' (T.some ?_)
  rw [Bool.eq_iff_iff]
  simp) λy _ hy=>?_
 subst hy
 have htl:=ht.types
 by_cases hi:0 <= i/\i < t.types.length
 ·rw [zDT hi]
  refine T.br (λh=>by cases h) λ_=>?_
  obtain ⟨x,hx⟩:∃ x,t.types[i.toNat]?=some x:=⟨_,List.getElem?_eq_getElem (by omega)⟩
  have hs:zfk t i=if x.kind=7 \/ x.kind=8 \/ x.kind=9 then slots x else []:=by unfold zfk;rw [if_pos hi.1,hx]
  rw [hs]
  refine T.get hi.1 hi.2 λx' hx'=>?_
  rw [hx] at hx';cases hx'
  refine zq4 (T.br (λh=>T.some ?_) λh=>?_)
  ·rw [if_neg (zOF ((Bool.not_eq_true' _).mp h))]
  have hk:x.kind=7 \/ x.kind=8 \/ x.kind=9:=zOT ((Bool.not_eq_false' _).mp h)
  rw [if_pos hk]
  obtain ⟨j,hj⟩:=zbO.sub ht.kids i.toNat (by omega) (by omega)
  have hjl:=hj.inb
  obtain ⟨x'',hx'',hok,hkid⟩:=hj
  rw [hx] at hx'';cases hx''
  have hfl:=ziA hkid hjl (by omega)
  have hr0:=hok.root0
  have hr1:=hok.rootF hk
  refine T.lp (ι:=List (List Int) × Int) (λq=>x.root <= q.2/\q.2 <= (x.fields.length:Int)/\q.1=(rng x.root q.2).foldl (zeg (!decide (x.kind=9)) x.fields) []/\(0 < q.1.length ↔ x.root < q.2)) (λq=>((x.fields.length:Int) - q.2).toNat) ⟨zIl _,hr1,by dsimp only;rw [zj9 (zIl _)];rfl,by dsimp only [zLn];omega⟩ (by dsimp only;omega) λL q ⟨q1,q2,q3,q4⟩ hL=>?_
  obtain ⟨out,k⟩:=q
  dsimp only at q1 q2 q3 q4 hL ⊢
  refine T.br (λhb=>?_) λhb=>T.some ?_
  ·have hb:=zOT hb
   have hfold:=zjW (c:=!decide (x.kind=9)) (fs:=x.fields) (rng x.root k) [] 0 (zNl _) (λs hs=>by cases hs)
   rw [<- q3,zlj] at hfold
   have hol:out.length <= 1000:=by omega
   refine T.jp (ι:=List (List Int)) (λo=>o=zeg (!decide (x.kind=9)) x.fields out k) (λJ kk=>T.get (by omega) hb λf hf=>T.and' (T.and' (T.jp (λb=>b=true ↔ (!decide (x.kind=9) && decide (0 < f.group) && decide (x.root < k))=true/\grp x.fields (k - 1)=f.group) (λJ2 k2=>T.br (λh1=>?_) λh1=>k2 _ ⟨λh=>(by cases h),λh=>by rw [h1] at h;cases h.1⟩) λb hb2=>?_))) λo ho=>T.ck (by omega) (hL _ ⟨by dsimp only;omega,by dsimp only;omega,by dsimp only;rw [zmt q1,List.foldl_append,<- q3,ho];rfl,by dsimp only;rw [ho];exact ⟨λ_=>by omega,λ_=>(zmT _ _ _ _).2⟩⟩ (by dsimp only;omega))
   ·have h2:=h1
    rw [zBa] at h2
    have h3:=zOT h2.2
    refine T.ck (by omega) (T.get (by omega) (by omega) λg hg=>k2 _ ?_)
    rw [decide_eq_true_iff,h1]
    have:grp x.fields (k - 1)=g.group:=by unfold grp;rw [hg];rfl
    rw [this]
    exact ⟨λh=>⟨rfl,h⟩,λh=>h.2⟩
   ·have hgf:grp x.fields k=f.group:=by unfold grp;rw [hf];rfl
    have hiff:decide (0 < out.length)=decide (x.root < k):=by rw [decide_eq_decide];exact q4
    refine T.br (λhbt=>?_) λhbf=>?_
    ·have hc:=hb2.1 hbt
     have h2:=hc.1
     rw [zBa] at h2
     have h3:=q4.2 (zOT h2.2)
     obtain ⟨y,hy⟩:∃ y,out[out.length - 1]?=some y:=⟨_,List.getElem?_eq_getElem (by omega)⟩
     have ei:(((out.length:Nat):Int) - 1).toNat=out.length - 1:=by omega
     have hyl:=hfold.2 y (List.mem_of_getElem? hy)
     have hs1:zeg (!decide (x.kind=9)) x.fields out k=out.set (out.length - 1) (y ++ [k]):=by
      unfold zeg
      rw [hgf,hiff,if_pos hc,hy];rfl
     rw [hs1] at kk
     have hy':out[(((out.length:Nat):Int) - 1).toNat]?=some y:=by rw [ei];exact hy
     refine T.ck (by omega) (T.ck (by omega) (T.asd ⟨by omega,by omega⟩ (T.asd (by omega) (T.eq hy' (T.abl (by rw [zLs];omega) (T.asd ⟨by omega,by omega⟩ (T.asd (by omega) (T.eq hy' (kk _ ?_)))))))))
     rw [ei]
    ·have hs1:zeg (!decide (x.kind=9)) x.fields out k=out ++ [[k]]:=by
      unfold zeg
      rw [hgf,hiff,if_neg (λh=>by rw [hb2.2 h] at hbf;cases hbf)]
     exact T.abl (by rw [zLs];omega) (kk _ hs1.symm)
  ·have hb:=zOF hb
   have:k=x.fields.length:=by omega
   rw [q3,this];rfl
 ·rw [zDF hi]
  refine T.br (λ_=>T.some ?_) λh=>by cases h
  unfold zfk
  split
  ·rfl
  ·rename_i x hx
   split at hx
   ·have:=(List.getElem?_eq_some_iff.1 hx).1
    omega
   ·cases hx
theorem zvI (a b:Int) (h0:0 <= a) (hb:b <= 1000000) (hb0:0 <= b) (ha:a <= 1000000):zgA a b=some (rng a b):=by
 refine T.eqs ?_
 unfold zgA
 refine T.lp (ι:=List Int × Int) (λq=>a <= q.2/\(q.2 <= b \/ q.2=a)/\q.1=rng a q.2) (λq=>(b - q.2).toNat) ⟨zIl _,.inr rfl,(zj9 (zIl _)).symm⟩ (by dsimp only;omega) λL q ⟨q1,q2,q3⟩ hL=>?_
 obtain ⟨l,k⟩:=q
 dsimp only at q1 q2 q3 hL ⊢
 refine T.br (λh=>?_) λh=>T.some ?_
 ·have h:=zOT h
  have hl:l.length=(k - a).toNat:=by rw [q3,zlj]
  exact T.abl (by rw [zLs];omega) (T.ck (by omega) (hL _ ⟨by dsimp only;omega,by dsimp only;omega,by dsimp only;rw [zmt q1,q3]⟩ (by dsimp only;omega)))
 ·have h:=zOF h
  rw [q3]
  rcases q2 with h2 | h2
  ·have:k=b:=by omega
   rw [this]
  ·subst h2
   rw [zj9 (zIl _),zj9 (by omega)]
theorem znc {t:zab} (ht:zdp t) (i:Int):zfo t i=some (zfk t i):=by
  refine T.eqs ?_
  unfold zfo
  have htl:=ht.types
  by_cases hi:0 <= i/\i < t.types.length
  · obtain ⟨x,hx⟩:∃ x,t.types[i.toNat]?=some x:=⟨_,List.getElem?_eq_getElem (by omega)⟩
    have hs:zfk t i=if x.kind=7 \/ x.kind=8 \/ x.kind=9 then slots x else []:=by unfold zfk;rw [if_pos hi.1,hx]
    rw [hs]
    refine T.cal (Q:=λr=>r=x) (by
      unfold zhp
      refine T.or' (T.br (λh=>?_) λ_=>T.get hi.1 hi.2 λy hy=>T.some (by rw [hx] at hy;cases hy;rfl))
      rw [zDF (by omega),zDF (by omega)] at h
      cases h) λy _ hy=>?_
    subst hy
    refine zq4 (T.br (λh=>T.some ?_) λh=>?_)
    · rw [if_neg (zOF ((Bool.not_eq_true' _).mp h))]
    have hk:y.kind=7 \/ y.kind=8 \/ y.kind=9:=zOT ((Bool.not_eq_false' _).mp h)
    rw [if_pos hk]
    obtain ⟨j,hj⟩:=zbO.sub ht.kids i.toNat (by omega) (by omega)
    have hjl:=hj.inb
    obtain ⟨x'',hx'',hok,hkid⟩:=hj
    rw [hx] at hx'';cases hx''
    have hfl:=ziA hkid hjl (by omega)
    have hr0:=hok.root0
    have hr1:=hok.rootF hk
    have hmx:max y.root 0=y.root:=by omega
    rw [hmx]
    refine T.eq (zvI _ _ hr0 (by omega) (by omega) (by omega)) ?_
    have hpl:(rng y.root y.fields.length).length=((y.fields.length:Int) - y.root).toNat:=zlj
    refine T.lp (ι:=List (List Int) × Int) (λq=>0 <= q.2/\q.2 <= (y.fields.length:Int) - y.root/\q.1=(rng y.root (y.root + q.2)).foldl (zeg (!decide (y.kind=9)) y.fields) []/\(0 < q.1.length ↔ 0 < q.2)) (λq=>(((y.fields.length:Int) - y.root) - q.2).toNat) ⟨zIl _,by dsimp only;omega,by dsimp only;rw [zj9 (by omega)];rfl,by dsimp only [zLn];omega⟩ (by dsimp only;omega) λL q ⟨q1,q2,q3,q4⟩ hL=>?_
    obtain ⟨out,p⟩:=q
    dsimp only at q1 q2 q3 q4 hL ⊢
    refine T.br (λhb=>?_) λhb=>T.some ?_
    · have hb:=zOT hb
      rw [hpl] at hb
      have hfold:=zjW (c:=!decide (y.kind=9)) (fs:=y.fields) (rng y.root (y.root + p)) [] 0 (zNl _) (λs hs=>by cases hs)
      rw [<- q3,zlj] at hfold
      have hol:out.length <= 1000:=by omega
      have hget:(rng y.root y.fields.length)[p.toNat]?=some (y.root + p):=by
        rw [zyO (by omega)]
        congr 2
        omega
      refine T.jp (ι:=List (List Int)) (λo=>o=zeg (!decide (y.kind=9)) y.fields out (y.root + p)) (λJ kk=>T.asd ⟨by omega,by rw [hpl];omega⟩ (T.eq hget (T.ck (by omega) (T.get (by omega) (by omega) λf hf=>T.and' (T.and' (T.jp (λb=>b=true ↔ (!decide (y.kind=9) && decide (0 < f.group) && decide (0 <= ((out.length:Nat):Int) - 1))=true/\grp y.fields (y.root + p - 1)=f.group) (λJ2 k2=>T.br (λh1=>?_) λh1=>k2 _ ⟨λh=>(by cases h),λh=>by rw [h1] at h;cases h.1⟩) λb hb2=>?_)))))) λo ho=>T.ck (by omega) (hL _ ⟨by dsimp only;omega,by dsimp only;omega,by
          have e:y.root + (p + 1)=y.root + p + 1:=by omega
          dsimp only;rw [e,zmt (by omega),List.foldl_append,<- q3,ho];rfl,by dsimp only;rw [ho];exact ⟨λ_=>by omega,λ_=>(zmT _ _ _ _).2⟩⟩ (by dsimp only;omega))
      · have h2:=h1
        rw [zBa] at h2
        have h3:=zOT h2.2
        have h4:0 < p:=q4.1 (by omega)
        refine T.ck (by omega) (T.get (by omega) (by omega) λg hg=>k2 _ ?_)
        rw [decide_eq_true_iff,h1]
        have:grp y.fields (y.root + p - 1)=g.group:=by unfold grp;rw [hg];rfl
        rw [this]
        exact ⟨λh=>⟨rfl,h⟩,λh=>h.2⟩
      · have hgf:grp y.fields (y.root + p)=f.group:=by unfold grp;rw [hf];rfl
        have hiff:decide (0 < out.length)=decide (0 <= ((out.length:Nat):Int) - 1):=by rw [decide_eq_decide];omega
        refine T.br (λhbt=>?_) λhbf=>?_
        · have hc:=hb2.1 hbt
          have h2:=hc.1
          rw [zBa] at h2
          have h3:=zOT h2.2
          obtain ⟨z,hz⟩:∃ z,out[out.length - 1]?=some z:=⟨_,List.getElem?_eq_getElem (by omega)⟩
          have ei:(((out.length:Nat):Int) - 1).toNat=out.length - 1:=by omega
          have hzl:=hfold.2 z (List.mem_of_getElem? hz)
          have hs1:zeg (!decide (y.kind=9)) y.fields out (y.root + p)=out.set (out.length - 1) (z ++ [y.root + p]):=by
            unfold zeg
            rw [hgf,hiff,if_pos hc,hz];rfl
          rw [hs1] at kk
          have hz':out[(((out.length:Nat):Int) - 1).toNat]?=some z:=by rw [ei];exact hz
          refine T.asd ⟨by omega,by omega⟩ (T.asd (by omega) (T.eq hz' (T.abl (by rw [zLs];omega) (T.asd ⟨by omega,by omega⟩ (T.asd (by omega) (T.eq hz' (kk _ ?_)))))))
          rw [ei]
        · have hs1:zeg (!decide (y.kind=9)) y.fields out (y.root + p)=out ++ [[y.root + p]]:=by
            unfold zeg
            rw [hgf,hiff,if_neg (λh=>by rw [hb2.2 h] at hbf;cases hbf)]
          exact T.abl (by rw [zLs];omega) (kk _ hs1.symm)
    · have hb:=zOF hb
      rw [hpl] at hb
      have:y.root + p=y.fields.length:=by omega
      rw [q3,this];rfl
  · refine T.cal (Q:=λr=>r.kind=0) (by
      unfold zhp
      refine T.or' (T.br (λh=>T.some rfl) λh=>?_)
      rw [Bool.or_eq_false_iff] at h
      have h1:=zOF h.1
      have h2:=zOF h.2
      omega) λy _ hy=>?_
    refine zq4 (T.br (λh=>T.some ?_) λh=>?_)
    · unfold zfk
      split
      · rfl
      · rename_i x hx
        split at hx
        · have:=(List.getElem?_eq_some_iff.1 hx).1
          omega
        · cases hx
    · have:=zOT ((Bool.not_eq_false' _).mp h)
      omega
def zoN (t:zab) (i:Int):List Tag:=bgs 17 t.types i
def zpP (a b:Tag):Bool:=decide (a.cls < b.cls) || (decide (a.cls=b.cls) && decide (a.num < b.num))
theorem zzH (a b:Tag):zje a b=some (zpP a b):=by
 unfold zje zpP
 by_cases h:a.cls=b.cls
 ·rw [zDT h,zDF (show ¬ a.cls < b.cls by omega)]
  show some _=_
  rw [Bool.true_and,Bool.false_or]
 ·rw [zDF h,Bool.false_and,Bool.or_false];rfl
/-! ### The program's side -/
theorem zyr:∀ {h n l i j},zbO h l i j->h <= n->l.length <= 1000->∀ (left:Int) (acc:List Tag),((j - i:Nat):Int) <= left->left <= 1000->acc.length + (j - i) <= 100000 ->
    T (λr=>r.1=⟨l⟩/\left - ((j - i:Nat):Int) <= r.2.1/\r.2.1 <= left/\r.2.2=acc ++ bgs h l (i:Int)) (zc4 n ⟨l⟩ (i:Int) left acc):=by
  intro h
  induction h with
  | zero=>intro n l i j h;exact h.elim
  | succ h ih =>
    intro n l i j hs hn hl left acc hl1 hl2 ha
    obtain ⟨n,rfl⟩:∃ n',n=n' + 1:=⟨n - 1,by omega⟩
    have hjl:=hs.inb
    have hbl:=zl2 hs
    have hlt:=hs.lt
    obtain ⟨t,h1,h0,h2⟩:=hs
    show T _ (zcz (zc4 n) ⟨l⟩ (i:Int) left acc)
    unfold zcz
    refine T.or' (T.or' (T.brF ?_ (T.ck (by omega) (T.get (by omega) (by dsimp only;omega) λy hy=>?_))))
    · dsimp only
      rw [zDF (show ¬ (i:Int) < 0 by omega),zDF (show ¬ (l.length:Int) <= i by omega),zDF (show ¬ left=0 by omega)];rfl
    rw [Int.toNat_natCast] at hy
    have:y=t:=by rw [h1] at hy;cases hy;rfl
    subst this
    rw [ztj h1] at hbl ⊢
    have hc1:zdd y acc=some (acc ++ y.tags.take 1):=by
      refine T.eqs ?_
      unfold zdd
      refine T.br (λh=>T.get (zIl _) (zOT h) λx hx=>T.abl (by simp only [zLs];omega) (T.some ?_)) λh=>T.some ?_
      · cases ht:y.tags with
        | nil=>rw [ht] at hx;cases hx
        | cons z r=>rw [ht] at hx;cases hx;rfl
      · have:=zOF h
        have:y.tags=[]:=List.length_eq_zero_iff.1 (by omega)
        rw [this];simp
    refine T.eq hc1 (T.br (λhb=>T.some ⟨rfl,by dsimp only;omega,by dsimp only;omega,?_⟩) λhb=>?_)
    · have hb:=zOT hb
      rw [if_pos (by omega)]
    have hb:=zOF hb
    have ht0:y.tags=[]:=List.length_eq_zero_iff.1 (by omega)
    rw [if_neg (by omega)] at hbl ⊢
    rw [ht0,List.take_nil,List.append_nil]
    have hfl:=ziA h2 hjl hl
    refine T.lp (ι:=Int × List Tag × Int × zeH) (λq=>0 <= q.1/\q.1 <= y.fields.length/\q.2.2.2=⟨l⟩/\q.2.1=acc ++ ((y.fields.take q.1.toNat).flatMap λf=>bgs h l f.ty)/\∃ c:Nat,i + 1 <= c/\c <= j/\zaN (zbO h l) ((y.fields.drop q.1.toNat).map (λf=>f.ty) ++ (if y.kind=10 then [y.of] else [])) c j/\left - ((c - i:Nat):Int) <= q.2.2.1/\q.2.2.1 <= left - 1/\q.2.1.length <= acc.length + (c - i)) (λq=>((y.fields.length:Int) - q.1).toNat)
      ⟨zIl _,by dsimp only;omega,rfl,by simp,i + 1,zNl _,hlt,h2,by dsimp only;omega,by dsimp only;omega,by dsimp only;omega⟩ (by dsimp only;omega) λL q hq hL=>?_
    obtain ⟨k,a,lf,tt⟩:=q
    obtain ⟨q1,q2,q3,q4,c,c1,c2,c3,c4,c5,c6⟩:=hq
    dsimp only at q1 q2 q3 q4 c3 c4 c5 c6 hL ⊢
    subst q3
    refine T.br (λhb2=>?_) λhb2=>?_
    · have hb2:=zOT hb2
      refine T.get q1 hb2 λf hf=>?_
      obtain ⟨hf1,hf2⟩:=List.getElem?_eq_some_iff.1 hf
      have hdr:y.fields.drop k.toNat=f :: y.fields.drop (k.toNat + 1):=by rw [List.drop_eq_getElem_cons hf1,hf2]
      rw [hdr] at c3
      obtain ⟨d,e1,e2,e3⟩:=c3
      have e1:f.ty=(c:Int):=e1
      have e4:=e2.lt
      have e5:=zaN.le zbO.le' e3
      have e6:=zl2 e2
      have ek:(k + 1).toNat=k.toNat + 1:=by omega
      rw [e1]
      refine T.cal (ih e2 (by omega) hl lf a (by omega) (by omega) (by omega)) λr _ ⟨r1,r2,r3,r4⟩=>T.ck (by omega) (hL _ ⟨by dsimp only;omega,by dsimp only;omega,r1,?_,d,by omega,by omega,by rw [ek];exact e3,by dsimp only;omega,by dsimp only;omega,?_⟩ (by dsimp only;omega))
      · dsimp only
        rw [r4,q4,ek,zpK hf,e1,zLA]
      · dsimp only
        rw [r4,zLa];omega
    · have hb2:=zOF hb2
      refine T.some ⟨rfl,by dsimp only;omega,by dsimp only;omega,?_⟩
      dsimp only
      rw [q4,zTl (by omega)]
theorem ztb {t:zab} (ht:zdp t) (i:Int):zgB t i=some (zoN t i):=by
 refine T.eqs ?_
 unfold zgB zeV
 have htl:=ht.types
 refine T.cal (Q:=λr=>r.1=zoN t i) ?_ λy _ hy=>T.some hy
 unfold zoN
 by_cases hi:0 <= i/\i < t.types.length
 ·obtain ⟨j,hj⟩:=zbO.sub ht.kids i.toNat (by omega) (by omega)
  have hjl:=hj.inb
  have:=zyr hj (n:=fuel) (by unfold fuel;omega) (by omega) 300 [] (by omega) (by omega) (by simp only [zLn];omega)
  rw [show ((i.toNat:Nat):Int)=i by omega] at this
  refine T.cal this λr _ ⟨_,_,_,r4⟩=>T.some ?_
  rw [r4,List.nil_append]
 ·have e0:bgs 17 t.types i=[]:=by
   unfold bgs
   have e:(if 0 <= i then t.types[i.toNat]? else none)=none:=by
    split
    ·exact List.getElem?_eq_none (by omega)
    ·rfl
   rw [e]
  rw [e0]
  have hf:∃ n,fuel=n + 1:=⟨fuel - 1,by unfold fuel;rfl⟩
  obtain ⟨n,hn⟩:=hf
  rw [hn]
  refine T.cal (Q:=λr=>r.2.2=[]) ?_ λr _ hr=>T.some hr
  show T _ (zcz (zc4 n) ⟨t.types⟩ i 300 [])
  unfold zcz
  refine T.or' (T.or' (T.brT ?_ (T.some rfl)))
  rw [Bool.or_eq_true,Bool.or_eq_true,decide_eq_true_iff,decide_eq_true_iff]
  left;dsimp only;omega
/-! ### zL -/
def zn6 (fs:List zaC) (a b:Int) (s:List Int):Prop:=∃ k0 r,s=k0 :: r/\(r=[] \/ 0 < grp fs k0)/\∀ k ∈ s,a <= k/\k < b
theorem zn6.mono {fs:List zaC} {a b b':Int} {s:List Int} (h:zn6 fs a b s) (hb:b <= b'):zn6 fs a b' s:=by
 obtain ⟨k0,r,h1,h2,h3⟩:=h
 exact ⟨k0,r,h1,h2,λk hk=>⟨(h3 k hk).1,by have:=(h3 k hk).2;omega⟩⟩
theorem zvu (c:Bool) (fs:List zaC) (a:Int):∀ n:Nat,(∀ s ∈ (rng a (a + n)).foldl (zeg c fs) [],zn6 fs a (a + n) s) /\
    (0 < n->∃ s,((rng a (a + n)).foldl (zeg c fs) [])[((rng a (a + n)).foldl (zeg c fs) []).length - 1]?=some s/\s.getLast?=some (a + n - 1))/\(n=0->(rng a (a + n)).foldl (zeg c fs) []=[]):=by
  intro n
  induction n with
  | zero =>
    have e:rng a (a + ((0:Nat):Int))=[]:=zj9 (by omega)
    rw [e]
    exact ⟨λs hs=>(by cases hs),λh=>absurd h (by omega),λ_=>rfl⟩
  | succ n ih =>
    obtain ⟨h1,h2,h3⟩:=ih
    have e:rng a (a + ((n + 1:Nat):Int))=rng a (a + n) ++ [a + n]:=by
      have:a + ((n + 1:Nat):Int)=a + n + 1:=by omega
      rw [this,zmt (by omega)]
    rw [e,List.foldl_append]
    generalize hout:(rng a (a + n)).foldl (zeg c fs) []=out at h1 h2 h3
    show (∀ s ∈ zeg c fs out (a + n),_)/\(_->∃ s,(zeg c fs out (a + n))[(zeg c fs out (a + n)).length - 1]?=some s/\_)/\_
    refine ⟨?_,?_,λh=>absurd h (by omega)⟩
    · intro s hs
      unfold zeg at hs
      split at hs
      · rename_i h
        obtain ⟨g1,g2⟩:=h
        rw [zBa,zBa] at g1
        have g3:=zOT g1.1.2
        have g4:=zOT g1.2
        have hn:0 < n:=by
          rcases Nat.eq_zero_or_pos n with h | h
          · rw [h3 h] at g4;exact absurd g4 (by simp)
          · exact h
        obtain ⟨s0,e0,e1⟩:=h2 hn
        rcases List.mem_or_eq_of_mem_set hs with h | h
        · exact (h1 s h).mono (by omega)
        · rw [e0] at h
          obtain ⟨k0,r,r1,r2,r3⟩:=h1 s0 (List.mem_of_getElem? e0)
          subst h
          refine ⟨k0,r ++ [a + n],by rw [r1];rfl,.inr ?_,λk hk=>?_⟩
          · rcases r2 with r2 | r2
            · subst r2
              rw [r1] at e1
              have:k0=a + n - 1:=by simpa using e1
              rw [this,g2];exact g3
            · exact r2
          · rcases List.mem_append.1 hk with h | h
            · have:=r3 k h;omega
            · rw [zMo.1 h];omega
      · rcases List.mem_append.1 hs with h | h
        · exact (h1 s h).mono (by omega)
        · rw [zMo.1 h]
          exact ⟨a + n,[],rfl,.inl rfl,λk hk=>by rw [zMo.1 hk];omega⟩
    · intro _
      unfold zeg
      split
      · rename_i h
        have g1:=h.1
        rw [zBa] at g1
        have g4:=zOT g1.2
        rw [List.length_set]
        refine ⟨_,List.getElem?_set_self (by omega),?_⟩
        rw [List.getLast?_append]
        show some (a + (n:Int))=_
        congr 1;omega
      · refine ⟨[a + n],?_,?_⟩
        · rw [zLa,zLs,List.getElem?_append_right (by omega)]
          have:out.length + 1 - 1 - out.length=0:=by omega
          rw [this];rfl
        · show some (a + (n:Int))=_
          congr 1;omega
theorem zoC {x:zg} (h0:0 <= x.root):∀ s ∈ slots x,zn6 x.fields x.root x.fields.length s:=by
 unfold slots
 rcases Int.lt_or_le x.root x.fields.length with h | h
 ·have e:((x.fields.length:Nat):Int)=x.root + ((((x.fields.length:Int) - x.root).toNat:Nat):Int):=by omega
  rw [e]
  exact (zvu _ x.fields x.root _).1
 ·rw [zj9 h]
  intro s hs;cases hs
theorem zmG {t:zab} {i:Int} {x:zg} (h0:0 <= i) (hx:t.types[i.toNat]?=some x) (hk:x.kind=7 \/ x.kind=8):zfk t i=slots x:=by
 unfold zfk
 rw [if_pos h0,hx]
 exact if_pos (by omega)
theorem zli {x:zg} (h0:0 <= x.root):(slots x).length <= x.fields.length:=by
 have:=(zjW (c:=!decide (x.kind=9)) (fs:=x.fields) (rng x.root x.fields.length) [] 0 (zNl _) (λs hs=>by cases hs)).1
 rw [zlj] at this
 unfold slots
 omega
theorem zlS {x:zg} (h0:0 <= x.root):∀ s ∈ slots x,s.length <= x.fields.length:=λs hs=>by
 have:=(zjW (c:=!decide (x.kind=9)) (fs:=x.fields) (rng x.root x.fields.length) [] 0 (zNl _) (λs hs=>by cases hs)).2 s hs
 rw [zlj] at this
 omega

/-! ### Small parts -/
theorem nt {c:Bool} (h:(!c)=false):c=true:=by
 cases c with
 | false=>cases h
 | true=>rfl
def zgc (c:zbt) (v:Int):Bool:=!c.has || ((!c.hasLow || decide (c.low <= v)) && (!c.hasHigh || decide (v <= c.high)))
theorem zlV (c:zbt) (v:Int):zd8 c v=some (zgc c v):=by
 unfold zd8 zgc
 generalize decide (c.low <= v)=d1
 generalize decide (v <= c.high)=d2
 cases c.has <;> cases c.hasLow <;> cases c.hasHigh <;> cases d1 <;> cases d2 <;> rfl
theorem zg7 (c:zbt) (v:Int):zev c v=some (zgc c v):=by
 unfold zev zgc
 generalize decide (c.low <= v)=d1
 generalize decide (v <= c.high)=d2
 cases c.has <;> cases c.hasLow <;> cases c.hasHigh <;> cases d1 <;> cases d2 <;> rfl
theorem zxd (x:zg) (n:Int) (hl:x.items.length <= 1000000) (hi:∃ it ∈ x.items,it.number=n):T (λr=>0 <= r) (zdk x n):=by
 unfold zdk zaM
 refine T.cal (Q:=λr=>0 <= r) ?_ λr _ hr=>T.some hr
 refine T.lp (ι:=Int) (λ(q:Int)=>0 <= q/\q <= (x.items.length:Int)/\∀ k:Nat,(k:Int) < q->∀ it,x.items[k]?=some it->it.number ≠ n) (λ(q:Int)=>((x.items.length:Int) - q).toNat) ⟨zIl _,by omega,λk h=>by omega⟩ (by omega) λL q ⟨q1,q2,q3⟩ hL=>T.br (λh=>?_) λh=>?_
 ·have h:=zOT h
  refine T.get q1 h λy hy=>T.eq (y:=decide (y.number=n)) rfl (T.br (λh2=>T.some q1) λh2=>T.ck (by omega) (hL _ ⟨by omega,by omega,λk hk it hit=>?_⟩ (by omega)))
  rcases Int.lt_or_le (k:Int) q with h4 | h4
  ·exact q3 k h4 it hit
  ·have:k=q.toNat:=by omega
   rw [this,hy] at hit;cases hit
   exact zOF h2
 ·have h:=zOF h
  obtain ⟨it,h1,h2⟩:=hi
  obtain ⟨k,hk⟩:=List.mem_iff_getElem?.1 h1
  have:=(List.getElem?_eq_some_iff.1 hk).1
  exact absurd h2 (q3 k (by omega) it hk)
/-! ### What fits -/
def zcV:Val:=Val.mk 0 0 [] [] 0 []
def thr (v:Val) (k:Int):Bool:=match v.l[k.toNat]? with
 | some w=>!decide (w.kind=0)
 | none=>false
def lck (x:zg) (v:Val) (k:Int):Bool:=!thr v k && !(match x.fields[k.toNat]? with
 | some f=>f.optional || f.has
 | none=>false)
def Grp (x:zg) (v:Val) (s:List Int):Prop:=(decide (0 < grp x.fields (s.headD 0)) && s.any (thr v) && s.any (lck x v))=false
def zqR (x:zg) (F:Int->Val->Prop) (k:Nat) (f:zaC) (w:Val):Prop :=
 (w.kind=0/\w=zcV/\(f.optional=true \/ f.has=true \/ x.root <= (k:Int))) \/ (w.kind ≠ 0/\F f.ty w/\(f.has=true->w ≠ f.dflt))
def zwv (x:zg) (v:Val) (F:Int->Val->Prop):Prop :=
 (x.kind=1/\pln v true false false false=true/\(decide (v.n=0) || decide (v.n=1))=true) \/
 (x.kind=2/\pln v true false false false=true/\(x.con.more || zgc x.con v.n)=true) \/
 (x.kind=3/\pln v true false false false=true/\∃ it ∈ x.items,it.number=v.n) \/
 (x.kind=4/\pln v false false false false=true) \/
 ((x.kind=5 \/ x.kind=6)/\pln v false true false false=true/\(v.b.length:Int) <= 70000/\(x.con.more || zgc x.con (v.b.length:Int))=true/\(x.kind=5 \/ zcy v.b=some true)) \/
 (x.kind=10/\pln v false false true false=true/\(x.con.more || zgc x.con (v.l.length:Int))=true/\∀ w ∈ v.l,F x.of w) \/
 (x.kind=9/\pln v true false true false=true/\0 <= v.n/\∃ f w,x.fields[v.n.toNat]?=some f/\v.l=[w]/\F f.ty w) \/
 ((x.kind=7 \/ x.kind=8)/\pln v false false true true=true/\(v.more=[]->v.rule=0)/\v.l.length=x.fields.length /\
  (∀ (k:Nat) f w,x.fields[k]?=some f->v.l[k]?=some w->zqR x F k f w)/\∀ s ∈ slots x,Grp x v s)
def Fit (t:zab):Nat->Int->Val->Prop
 | 0,_,_=>False
 | h + 1,i,v=>0 <= i/\∃ x:zg,t.types[i.toNat]?=some x/\(v.kind=12 \/ v.kind=x.kind/\zwv x v (Fit t h))
theorem zjj {l:List Int} {p:Int->Bool} {n:Nat} {y:Int} (h:l[n]?=some y):(l.take (n + 1)).any p=((l.take n).any p || p y):=by
 rw [List.take_add_one,h,List.any_append]
 simp
theorem zvN (x y:Raw):T (λr=>r=true ↔ x=y) (zfW x y):=by
 unfold zfW
 refine T.andI (P:=x.n=y.n) (Q:=x.b=y.b) decide_eq_true_iff (λJ kk=>T.eq (y:=decide (Str.mk x.b=Str.mk y.b)) rfl (kk _ ?_)) λb hb=>T.some ?_
 ·rw [decide_eq_true_iff]
  exact ⟨λh=>congrArg Str.b h,λh=>by rw [h]⟩
 ·rw [hb]
  obtain ⟨a,b⟩:=x
  obtain ⟨c,d⟩:=y
  exact ⟨λ⟨h1,h2⟩=>(by cases h1;cases h2;rfl),λh=>by cases h;exact ⟨rfl,rfl⟩⟩
theorem znb:∀ {k n:Nat} {f:Val},cnt f <= k->2 * k <= n->zcA f->∀ g,T (λr=>r=true ↔ f=g) (zeY n f g):=by
 intro k
 induction k with
 | zero=>intro n f h;have:=zeA f;omega
 | succ k ih =>
  intro n f hk hn hf g
  obtain ⟨n,rfl⟩:∃ n',n=n' + 2:=⟨n - 2,by omega⟩
  show T _ (zgO (zeY (n + 1)) (zam (n + 1)) f g)
  unfold zgO
  refine T.andI (P:=f.kind=g.kind) (Q:=f.n=g.n) decide_eq_true_iff (λJ kk=>kk _ decide_eq_true_iff) λb1 h1=>?_
  refine T.andI (Q:=f.b=g.b) h1 (λJ kk=>T.eq (y:=decide (Str.mk f.b=Str.mk g.b)) rfl (kk _ ?_)) λb2 h2=>?_
  ·rw [decide_eq_true_iff]
   exact ⟨λh=>congrArg Str.b h,λh=>by rw [h]⟩
  refine T.andI (Q:=f.l=g.l) h2 (λJ kk=>T.cal (Q:=λr=>r=true ↔ f.l=g.l) ?_ λr _ hr=>kk _ hr) λb3 h3=>?_
  ·show T _ (zak (zeY n) (zam n) f.l g.l)
   unfold zak
   exact zmF f.l g.l hf.l (λx hx y=>ih (by have:=zdq hx;omega) (by omega) (hf.kid x hx) y) λL q=>rfl
  refine T.andI (Q:=f.rule=g.rule) h3 (λJ kk=>kk _ decide_eq_true_iff) λb4 h4=>?_
  refine T.andI (Q:=f.more=g.more) h4 (λJ kk=>T.cal (Q:=λr=>r=true ↔ f.more=g.more) ?_ λr _ hr=>kk _ hr) λb5 h5=>T.some ?_
  ·unfold za2
   exact zmF f.more g.more hf.more (λx hx y=>zvN x y) λL q=>rfl
  ·rw [h5,<- Val.eta f,<- Val.eta g]
   constructor
   ·rintro ⟨⟨⟨⟨⟨e1,e2⟩,e3⟩,e4⟩,e5⟩,e6⟩
    simp only [Val.eta] at e1 e2 e3 e4 e5 e6
    rw [e1,e2,e3,e4,e5,e6]
   ·intro h
    rw [Val.eta,Val.eta] at h
    subst h
    exact ⟨⟨⟨⟨⟨rfl,rfl⟩,rfl⟩,rfl⟩,rfl⟩,rfl⟩

/-! ### Stripped -/
theorem zo5 {v:Val} (h:bare (zbk v)=true):v.kind ≠ 12/\∀ w ∈ v.l,bare (zbk w)=true:=by
 have hk:v.kind ≠ 12:=λhk=>by
  rw [zjb,if_pos hk,ziI] at h
  cases h
 refine ⟨hk,λw hw=>?_⟩
 rw [zjb,if_neg hk,ziI] at h
 have h2:=(Bool.and_eq_true_iff.1 h).2
 exact List.all_eq_true.1 h2 _ (List.mem_map.2 ⟨zbk w,List.mem_map.2 ⟨w,hw,rfl⟩,rfl⟩)
theorem zkI {v:Val} (hk:v.kind ≠ 12):zbk v=Val.mk v.kind v.n v.b (v.l.map zbk) 0 []:=by rw [zjb,if_neg hk]
theorem zh3 (v:Val):(zbk v).kind=v.kind:=by
 rw [zjb]
 split
 ·rename_i h;exact h.symm
 ·rfl
theorem zlQ:zbk zcV=zcV:=by rw [zkI (by decide)];rfl
theorem zs2:∀ (n:Nat) (v:Val),cnt v <= n->zcA v->zcA (zbk v):=by
 intro n
 induction n with
 | zero=>intro v h;have:=zeA v;omega
 | succ n ih =>
  intro v hn hf
  rw [zjb]
  split
  ·exact .mk (zNz _) (zNz _) (zNz _) (λr hr=>by cases hr) λw hw=>by cases hw
  ·refine .mk hf.b (by show (v.l.map zbk).length <= _;rw [List.length_map];exact hf.l) (zNz _) (λr hr=>by cases hr) λw hw=>?_
   obtain ⟨w',h1,h2⟩:=List.mem_map.1 (show w ∈ v.l.map zbk from hw)
   subst h2
   exact ih w' (by have:=zdq h1;omega) (hf.kid w' h1)
theorem zuB {v:Val} (hk:v.kind ≠ 12) {n b l m m':Bool} (h:pln v n b l m=true):pln (zbk v) n b l m'=true:=by
 rw [zkI hk]
 unfold pln at h ⊢
 rw [zBa] at h
 rw [zBa]
 refine ⟨?_,?_⟩
 ·show ((n || decide (v.n=0)) && (b || decide ((v.b.length:Int)=0)) && (l || decide (((v.l.map zbk).length:Int)=0)))=true
  rw [List.length_map];exact h.1
 ·show (m' || (decide ((0:Int)=0) && decide (((0:Nat):Int)=0)))=true
  cases m' <;> rfl
theorem zfS {v:Val} {n b:Bool} (hk:v.kind ≠ 12) (h:pln v n b false false=true):zbk v=v:=by
 unfold pln at h
 simp only [Bool.false_or,zBa,decide_eq_true_eq] at h
 obtain ⟨⟨⟨_,_⟩,h3⟩,h4,h5⟩:=h
 have e1:v.l=[]:=List.length_eq_zero_iff.1 (by omega)
 have e2:v.more=[]:=List.length_eq_zero_iff.1 (by omega)
 rw [zkI hk,e1,<- h4,<- e2,List.map_nil,<- e1]
 exact Val.eta v
theorem zxV {x:zg} {v:Val} {F:Int->Val->Prop} (h:zwv x v F) (h6:x.kind <= 6) (hk:v.kind ≠ 12):zbk v=v:=by
 rcases h with ⟨_,h,_⟩ | ⟨_,h,_⟩ | ⟨_,h,_⟩ | ⟨_,h⟩ | ⟨_,h,_⟩ | ⟨h1,_⟩ | ⟨h1,_⟩ | ⟨h1,_⟩
 ·exact zfS hk h
 ·exact zfS hk h
 ·exact zfS hk h
 ·exact zfS hk h
 ·exact zfS hk h
 ·omega
 ·omega
 ·omega
theorem zvB {t:zab}:∀ {h:Nat} {i:Int} {v:Val},Fit t h i v->bare v=true->zbk v=v:=by
 intro h
 induction h with
 | zero=>intro i v hf;exact hf.elim
 | succ h ih =>
  intro i v ⟨_,x,hx,hf⟩ hb
  rw [ziI,zBa] at hb
  have hb1:(decide (v.kind=12) || decide (0 < v.more.length))=false:=by simpa using hb.1
  rw [Bool.or_eq_false_iff] at hb1
  have hk:=zOF hb1.1
  have hm:v.more=[]:=List.length_eq_zero_iff.1 (by have:=zOF hb1.2;omega)
  have hkid:∀ w ∈ v.l,bare w=true:=λw hw=>List.all_eq_true.1 hb.2 _ (List.mem_map.2 ⟨w,hw,rfl⟩)
  have hf:=hf.resolve_left hk
  have fin:v.rule=0->(∀ w ∈ v.l,zbk w=w)->zbk v=v:=λhr hl=>by
   have:v.l.map zbk=v.l:=by
    conv=>rhs;rw [<- List.map_id v.l]
    exact List.map_congr_left λw hw=>hl w hw
   rw [zkI hk,this]
   conv=>rhs;rw [<- Val.eta v,hr,hm]
  have pl:∀ {n b l:Bool},pln v n b l false=true->v.rule=0:=λh=>by
   unfold pln at h
   simp only [Bool.false_or,zBa,decide_eq_true_eq] at h
   exact h.2.1
  rcases hf.2 with ⟨_,h,_⟩ | ⟨_,h,_⟩ | ⟨_,h,_⟩ | ⟨_,h⟩ | ⟨_,h,_⟩ | ⟨_,h,_,h2⟩ | ⟨_,h,_,f,w,_,h2,h3⟩ | ⟨_,h,hr,hl,h2,_⟩
  ·exact zfS hk h
  ·exact zfS hk h
  ·exact zfS hk h
  ·exact zfS hk h
  ·exact zfS hk h
  ·exact fin (pl h) λw hw=>ih (h2 w hw) (hkid w hw)
  ·refine fin (pl h) λw' hw=>?_
   rw [h2] at hw
   rw [zMo.1 hw]
   exact ih h3 (hkid w (by rw [h2];exact zMo.2 rfl))
  ·refine fin (hr hm) λw hw=>?_
   obtain ⟨k,hkw⟩:=List.mem_iff_getElem?.1 hw
   have hlt:=(List.getElem?_eq_some_iff.1 hkw).1
   obtain ⟨f,hf⟩:∃ f,x.fields[k]?=some f:=⟨_,List.getElem?_eq_getElem (by omega)⟩
   rcases h2 k f w hf hkw with ⟨_,e,_⟩ | ⟨_,e,_⟩
   ·rw [e];exact zlQ
   ·exact ih e (hkid w hw)

/-! ### The code's side -/
def zf1 (t:zab) (b:Bool):zt:=zt.mk (ziC.mk t) b
theorem zmQ {x:zg} {k:Int} {f:zaC} (h0:0 <= k) (hf:x.fields[k.toNat]?=some f):zgk x k=some (f.optional || f.has || decide (x.root <= k)):=by
 have hlt:=(List.getElem?_eq_some_iff.1 hf).1
 have e:zs x.fields k=some f:=by rw [zcH h0 (by omega)];exact congrArg some (List.getElem?_eq_some_iff.1 hf).2
 refine T.eqs ?_
 unfold zgk
 refine T.eq e (T.orJ (d:=f.has) (λJ h=>T.eq e h) (T.or' (T.some rfl)))
theorem zsT {t:zab} (ht:zdp t) {b:Bool} {i:Int} {x:zg} {v:Val} (h0:0 <= i) (hx:t.types[i.toNat]?=some x) (hk:x.kind=7 \/ x.kind=8) (hlen:v.l.length=x.fields.length)
    (hw:∀ w ∈ v.l,w.kind=0->w=zcV) (hg:∀ s ∈ slots x,Grp x v s) (hfl:x.fields.length <= 1000) (hr0:0 <= x.root):zct (zf1 t b) i v=some (true,zf1 t b):=by
  refine T.eqs ?_
  unfold zct
  have hlt:=(List.getElem?_eq_some_iff.1 hx).1
  have e:zs t.types i=some x:=by rw [zcH h0 (by omega)];exact congrArg some (List.getElem?_eq_some_iff.1 hx).2
  refine T.eq e (T.eq (znc ht i) ?_)
  rw [zmG h0 hx hk]
  have hsl:=zli hr0
  refine T.lp (ι:=Int) (λ(q:Int)=>0 <= q/\q <= ((slots x).length:Int)) (λ(q:Int)=>(((slots x).length:Int) - q).toNat) ⟨zIl _,by omega⟩ (by omega) λL q ⟨q1,q2⟩ hL=>T.br (λhb=>?_) λhb=>T.some rfl
  have hb:=zOT hb
  refine T.jp (ι:=Unit) (λ_=>True) (λJ kk=>?_) λ_ _=>T.ck (by omega) (hL _ ⟨by omega,by omega⟩ (by omega))
  refine T.get q1 hb λs hs=>?_
  have hsm:=List.mem_of_getElem? hs
  obtain ⟨k0,r,e0,e1,e2⟩:=zoC hr0 s hsm
  have hsl2:=zlS hr0 s hsm
  obtain ⟨k1,k2⟩:=e2 k0 (by rw [e0];exact zMs)
  refine T.get (zIl _) (by rw [e0,zLc];omega) λk hk'=>?_
  have ek:k=k0:=by rw [e0] at hk';simpa using hk'.symm
  subst ek
  refine T.get (by omega) k2 λf hff=>T.br (λ_=>kk _ trivial) λhgz=>?_
  have hgz:=zOF hgz
  have eg:grp x.fields k=f.group:=by unfold grp;rw [hff];rfl
  refine T.lp (ι:=Bool × Bool × Int) (λp=>0 <= p.2.2/\p.2.2 <= (s.length:Int)/\p.1=(s.take p.2.2.toNat).any (thr v)/\p.2.1=(s.take p.2.2.toNat).any (lck x v)) (λp=>((s.length:Int) - p.2.2).toNat) ⟨zIl _,by dsimp only;omega,rfl,rfl⟩ (by dsimp only;omega) λL2 p ⟨p1,p2,p3,p4⟩ hL2=>T.br (λhc2=>?_) λhc2=>?_
  · obtain ⟨so,la,m⟩:=p
    dsimp only at p1 p2 p3 p4 hL2 hc2 ⊢
    have hc2:=zOT hc2
    have em:(m + 1).toNat=m.toNat + 1:=by omega
    refine T.get p1 hc2 λk hk=>?_
    obtain ⟨k1,k2⟩:=e2 k (List.mem_of_getElem? hk)
    refine T.get (by omega) (by omega) λw hwk=>T.eq (zhR w) ?_
    have ea:(decide (w.kind=0) && pln w false false false false)=decide (w.kind=0):=by
      by_cases hz:w.kind=0
      · rw [zl4.2 (hw w (List.mem_of_getElem? hwk) hz),zDT hz]
      · rw [zDF hz];rfl
    rw [ea]
    obtain ⟨f',hf'⟩:∃ f,x.fields[k.toNat]?=some f:=⟨_,List.getElem?_eq_getElem (by omega)⟩
    have e':zs x.fields k=some f':=by rw [zcH (by omega) (by omega)];exact congrArg some (List.getElem?_eq_some_iff.1 hf').2
    have eth:(!decide (w.kind=0))=thr v k:=by unfold thr;rw [hwk]
    have elk:(!(!decide (w.kind=0)) && (!f'.optional) && (!f'.has))=lck x v k:=by
      unfold lck
      rw [<- eth,hf']
      show _=(!(!decide (w.kind=0)) && !(f'.optional || f'.has))
      cases decide (w.kind=0) <;> cases f'.optional <;> cases f'.has <;> rfl
    refine T.or' (T.orJ (d:=lck x v k) (λJ h2=>T.andJ (d:=!f'.optional) (λJ3 h3=>T.eq e' h3) (T.andJ (d:=!f'.has) (λJ3 h3=>T.eq e' h3) ?_)) (T.ck (by omega) (hL2 _ ⟨by dsimp only;omega,by dsimp only;omega,?_,?_⟩ (by dsimp only;omega))))
    · rw [elk];exact h2
    · dsimp only;rw [em,zjj hk,p3,eth]
    · dsimp only;rw [em,zjj hk,p4]
  · obtain ⟨so,la,m⟩:=p
    dsimp only at p1 p2 p3 p4 hL2 hc2 ⊢
    have hc2:=zOF hc2
    rw [zTl (by omega)] at p3 p4
    refine T.and' ?_
    have hno:(so && la)=false:=by
      rcases e1 with e1 | e1
      · rw [p3,p4,e0,e1]
        unfold lck
        show ((thr v k || false) && ((!thr v k && _) || false))=false
        cases thr v k <;> rfl
      · have:=hg s hsm
        unfold Grp at this
        have eh:s.headD 0=k:=by rw [e0];rfl
        rw [eh,zDT e1,Bool.true_and] at this
        rw [p3,p4];exact this
    rw [hno]
    exact T.br (λh=>by cases h) λ_=>kk _ trivial
theorem zxJ {t:zab} (ht:zdp t) {b:Bool}:∀ {h n:Nat} {i:Int} {v:Val} {d:Int},0 <= d->d + h=18->6 * h + 6 <= n->zcA v->cnt v <= 100000->Fit t h i v->bare (zbk v)=true->zX n (zf1 t b) i (zbk v) d=some (true,zf1 t b):=by
 intro h
 induction h with
 | zero=>intro n i v d _ _ _ _ _ hf;exact hf.elim
 | succ h ih =>
  intro n i v d d0 hd hn hf hc hfit hb
  obtain ⟨n,rfl⟩:∃ n',n=n' + 6:=⟨n - 6,by omega⟩
  obtain ⟨hk12,hkb⟩:=zo5 hb
  obtain ⟨i0,x,hx,hfk⟩:=hfit
  obtain ⟨hkk,hfk⟩:=hfk.resolve_left hk12
  have htl:=ht.types
  have hvl:=hf.l
  have hlt:=(List.getElem?_eq_some_iff.1 hx).1
  obtain ⟨j,hj⟩:=zbO.sub ht.kids i.toNat (by omega) (by omega)
  have hjl:=hj.inb
  obtain ⟨x',hx',hok,hkid⟩:=hj
  rw [hx] at hx';cases hx'
  have hfl:=ziA hkid hjl (by omega)
  have hil:=hok.ilen
  have es:=zkI hk12
  have esl:(zbk v).l=v.l.map zbk:=by rw [es];rfl
  have esk:(zbk v).kind=v.kind:=zh3 v
  have esn:(zbk v).n=v.n:=by rw [es];rfl
  have esb:(zbk v).b=v.b:=by rw [es];rfl
  have eg:zs t.types i=some x:=by rw [zcH i0 (by omega)];exact congrArg some (List.getElem?_eq_some_iff.1 hx).2
  refine T.eqs ?_
  show T _ (zbG (zY (n + 5)) (zX (n + 5)) (zal (n + 5)) (zm (n + 5)) (zo (n + 5)) (zac (n + 5)) (zf1 t b) i (zbk v) d)
  unfold zbG
  refine T.or' (T.or' (T.br (λhq=>?_) λ_=>?_))
  ·rw [Bool.or_eq_true,Bool.or_eq_true] at hq
   rcases hq with (hq | hq) | hq
   ·have:=zOT hq;omega
   ·have:=zOT hq
    have:(t.types.length:Int) <= i:=this
    omega
   ·have:=zOT hq;omega
  refine T.eq eg (T.br (λh=>absurd (zOT h) (by rw [esk];exact hk12)) λ_=>T.br (λh=>?_) λ_=>?_)
  ·rw [esk,hkk] at h
   simp at h
  have P:∀ {n' b' l' m':Bool},pln v n' b' l' m'=true->∀ m2,pln (zbk v) n' b' l' m2=true:=λh m2=>zuB hk12 h
  rcases hfk with ⟨k,h1,h2⟩ | ⟨k,h1,h2⟩ | ⟨k,h1,h2⟩ | ⟨k,h1⟩ | ⟨k,h1,h2,h3,h4⟩ | ⟨k,h1,h2,h3⟩ | ⟨k,h1,h2,f,w,h3,h4,h5⟩ | ⟨k,h1,h2,h3,h4,h5⟩
  ·refine T.br (λ_=>?_) λh=>absurd k (zOF h)
   refine T.eq (zcU _ _ (by decide)) (T.andJ (d:=decide ((zbk v).n=0) || decide ((zbk v).n=1)) (λJ hh=>T.or' hh) (T.some ?_))
   have e:pln (zbk v) (!decide (andI 1 1=0)) (!decide (andI 1 2=0)) (!decide (andI 1 4=0)) (!decide (andI 1 8=0))=true:=P h1 false
   rw [e,esn,h2];rfl
  ·refine T.br (λh=>absurd (zOT h) (by rw [k];decide)) λ_=>T.br (λ_=>?_) λh=>absurd k (zOF h)
   refine T.eq (zcU _ _ (by decide)) (T.andJ (d:=x.con.more || zgc x.con (zbk v).n) (λJ hh=>T.orJ (d:=zgc x.con (zbk v).n) (λJ2 h2=>T.eq (zg7 _ _) h2) hh) (T.some ?_))
   have e:pln (zbk v) (!decide (andI 1 1=0)) (!decide (andI 1 2=0)) (!decide (andI 1 4=0)) (!decide (andI 1 8=0))=true:=P h1 false
   rw [e,esn,h2];rfl
  ·refine T.br (λh=>absurd (zOT h) (by rw [k];decide)) λ_=>T.br (λh=>absurd (zOT h) (by rw [k];decide)) λ_=>T.br (λ_=>?_) λh=>absurd k (zOF h)
   have e:pln (zbk v) (!decide (andI 1 1=0)) (!decide (andI 1 2=0)) (!decide (andI 1 4=0)) (!decide (andI 1 8=0))=true:=P h1 false
   refine T.eq (zcU _ _ (by decide)) (T.jp (λb=>b=true) (λJ hh=>T.br (λ_=>?_) λh=>by rw [e] at h;cases h) λb hb=>T.some (by rw [hb]))
   refine T.cal (zxd x (zbk v).n (by omega) (by rw [esn];exact h2)) λr _ hr=>hh _ (zDT hr)
  ·refine T.br (λh=>absurd (zOT h) (by rw [k];decide)) λ_=>T.br (λh=>absurd (zOT h) (by rw [k];decide)) λ_=>T.br (λh=>absurd (zOT h) (by rw [k];decide)) λ_=>T.br (λ_=>?_) λh=>absurd k (zOF h)
   have e:pln (zbk v) (!decide (andI 0 1=0)) (!decide (andI 0 2=0)) (!decide (andI 0 4=0)) (!decide (andI 0 8=0))=true:=P h1 false
   exact T.eq (zcU _ _ (by decide)) (T.some (by rw [e]))
  all_goals refine T.br (λh=>absurd (zOT h) (by omega)) λ_=>T.br (λh=>absurd (zOT h) (by omega)) λ_=>T.br (λh=>absurd (zOT h) (by omega)) λ_=>T.br (λh=>absurd (zOT h) (by omega)) λ_=>?_
  ·refine T.jp (λb=>b=true) (λJ kk=>T.br (λh=>kk _ h) λh=>kk _ (zDT (k.resolve_left (zOF h)))) λb56 hb56=>?_
   subst hb56
   refine T.br (λ_=>?_) λh=>by cases h
   refine T.eq (y:=(true,zf1 t b)) ?_ (T.some rfl)
   refine T.eqs ?_
   unfold zdz
   have e:pln (zbk v) (!decide (andI 2 1=0)) (!decide (andI 2 2=0)) (!decide (andI 2 4=0)) (!decide (andI 2 8=0))=true:=P h1 false
   refine T.eq (zcU _ _ (by decide)) (T.and' (T.andJ (d:=x.con.more || zgc x.con ((zbk v).b.length:Int)) (λJ hh=>T.orJ (d:=zgc x.con ((zbk v).b.length:Int)) (λJ2 h2=>T.eq (zg7 _ _) h2) hh) ?_))
   rw [e,esb,h3,zDT h2]
   refine T.jp (λb=>b=true) (λJ kk=>T.br (λ_=>?_) λh=>by cases h) λc hc=>T.some (by rw [hc])
   refine T.jp (λb=>b=true) (λJ2 k2=>T.br (λh5=>k2 _ rfl) λh5=>T.eq (h4.resolve_left (zOF h5)) (k2 _ rfl)) λc hc=>kk _ hc
  all_goals refine T.jp (λb=>b=false) (λJ kk=>T.br (λh=>absurd (zOT h) (by omega)) λh=>kk _ (zDF (by omega))) λb56 hb56=>T.br (λh=>by rw [hb56] at h;cases h) λ_=>?_
  ·refine T.br (λ_=>?_) λh=>absurd k (zOF h)
   refine T.eq (y:=(true,zf1 t b)) ?_ (T.some rfl)
   refine T.eqs ?_
   show T _ (zcr (zY (n + 4)) (zX (n + 4)) (zal (n + 4)) (zm (n + 4)) (zo (n + 4)) (zac (n + 4)) (zf1 t b) x (zbk v) d)
   unfold zcr
   have e:pln (zbk v) (!decide (andI 4 1=0)) (!decide (andI 4 2=0)) (!decide (andI 4 4=0)) (!decide (andI 4 8=0))=true:=P h1 false
   refine T.eq (zcU _ _ (by decide)) (T.andJ (d:=x.con.more || zgc x.con ((zbk v).l.length:Int)) (λJ hh=>T.orJ (d:=zgc x.con ((zbk v).l.length:Int)) (λJ2 h2=>T.eq (zg7 _ _) h2) hh) ?_)
   rw [e,esl,List.length_map,h2]
   refine T.jp (ι:=Bool × zt) (λp=>p=(true,zf1 t b)) (λJ kk=>T.br (λ_=>?_) λh=>by cases h) λp hp=>T.some (by rw [hp])
   refine T.eq (y:=(false,zf1 t b)) ?_ (kk _ rfl)
   refine T.eqs ?_
   show T _ (zas (zY (n + 3)) (zX (n + 3)) (zal (n + 3)) (zm (n + 3)) (zo (n + 3)) (zac (n + 3)) (v.l.map zbk) (zf1 t b) x d)
   unfold zas
   refine T.eq (y:=((-1:Int),zf1 t b)) ?_ (T.some rfl)
   refine T.eqs ?_
   show T _ (zaw (zY (n + 2)) (zX (n + 2)) (zal (n + 2)) (zm (n + 2)) (zo (n + 2)) (zac (n + 2)) (v.l.map zbk) (zf1 t b) x d)
   unfold zaw
   refine T.lp (ι:=Int × zt) (λq=>0 <= q.1/\q.1 <= (v.l.length:Int)/\q.2=zf1 t b) (λq=>((v.l.length:Int) - q.1).toNat) ⟨zIl _,by dsimp only;omega,rfl⟩ (by dsimp only;omega) λL q ⟨q1,q2,q3⟩ hL=>T.br (λhb2=>?_) λ_=>T.some (by rw [q3])
   obtain ⟨q,c⟩:=q
   dsimp only at q1 q2 q3 hL hb2 ⊢
   subst q3
   have hb2:=zOT hb2
   rw [List.length_map] at hb2
   refine T.get q1 (by rw [List.length_map];exact hb2) λy hy=>?_
   rw [List.getElem?_map] at hy
   obtain ⟨w,hw1,hw2⟩:=Option.map_eq_some_iff.1 hy
   subst hw2
   have hwm:=List.mem_of_getElem? hw1
   refine T.eq (y:=(false,zf1 t b)) ?_ (T.br (λh=>by cases h) λ_=>T.ck (by omega) (hL _ ⟨by dsimp only;omega,by dsimp only;omega,rfl⟩ (by dsimp only;omega)))
   refine T.eqs ?_
   show T _ (zbR (zY (n + 1)) (zX (n + 1)) (zal (n + 1)) (zm (n + 1)) (zo (n + 1)) (zac (n + 1)) (zbk w) (zf1 t b) x d)
   unfold zbR
   exact T.ck (by omega) (T.eq (ih (by omega) (by omega) (by omega) (hf.kid w hwm) (by have:=zdq hwm;omega) (h3 w hwm) (hkb w hwm)) (T.some rfl))
  ·refine T.br (λh=>absurd (zOT h) (by omega)) λ_=>T.br (λ_=>?_) λh=>absurd k (zOF h)
   have e:pln (zbk v) (!decide (andI 5 1=0)) (!decide (andI 5 2=0)) (!decide (andI 5 4=0)) (!decide (andI 5 8=0))=true:=P h1 false
   have hnl:=(List.getElem?_eq_some_iff.1 h3).1
   have hl1:(zbk v).l=[zbk w]:=by rw [esl,h4];rfl
   have hwm:w ∈ v.l:=by rw [h4];exact zMo.2 rfl
   refine T.eq (zcU _ _ (by decide)) (T.and' (T.and' (T.and' ?_)))
   rw [e,esn,hl1,zDT h2,zDT (show v.n < (x.fields.length:Int) by omega)]
   refine T.jp (ι:=Bool × zt) (λp=>p=(true,zf1 t b)) (λJ kk=>T.br (λ_=>?_) λh=>by cases h) λp hp=>T.some (by rw [hp])
   refine T.get h2 (by omega) λf' hf'=>?_
   rw [h3] at hf';cases hf'
   refine T.eq (y:=zbk w) rfl (T.ck (by omega) (T.eq (ih (by omega) (by omega) (by omega) (hf.kid w hwm) (by have:=zdq hwm;omega) h5 (hkb w hwm)) (kk _ rfl)))
  ·refine T.br (λh=>absurd (zOT h) (by omega)) λ_=>T.br (λh=>absurd (zOT h) (by omega)) λ_=>?_
   refine T.jp (λb=>b=true) (λJ kk=>T.br (λh=>kk _ h) λh=>kk _ (zDT (k.resolve_left (zOF h)))) λb78 hb78=>?_
   subst hb78
   refine T.br (λ_=>?_) λh=>by cases h
   refine T.eq (y:=(true,zf1 t b)) ?_ (T.some rfl)
   refine T.eqs ?_
   show T _ (zcb (zY (n + 4)) (zX (n + 4)) (zal (n + 4)) (zm (n + 4)) (zo (n + 4)) (zac (n + 4)) (zf1 t b) i (zbk v) d)
   unfold zcb
   have e:pln (zbk v) (!decide (andI 12 1=0)) (!decide (andI 12 2=0)) (!decide (andI 12 4=0)) (!decide (andI 12 8=0))=true:=P h1 true
   refine T.eq eg (T.eq (zcU _ _ (by decide)) (T.or' ?_))
   rw [e,esl,List.length_map,h3,zDT rfl]
   refine T.jp (ι:=Bool × zt) (λp=>p=(false,zf1 t b)) (λJ kk=>T.br (λh=>by cases h) λ_=>T.eq (y:=(true,zf1 t b)) ?_ (kk _ rfl)) λp hp=>?_
   ·refine T.eqs ?_
    unfold zcQ
    refine T.eq eg (T.br (λ_=>T.some ?_) λh=>?_)
    ·rw [es];rfl
    ·rw [es] at h;cases h
   subst hp
   refine T.br (λh=>by cases h) λ_=>?_
   refine T.lp (ι:=Int × zt) (λq=>0 <= q.1/\q.1 <= (x.fields.length:Int)/\q.2=zf1 t b) (λq=>((x.fields.length:Int) - q.1).toNat) ⟨zIl _,by dsimp only;omega,rfl⟩ (by dsimp only;omega) λL q ⟨q1,q2,q3⟩ hL=>?_
   obtain ⟨q,c⟩:=q
   dsimp only at q1 q2 q3 hL ⊢
   subst q3
   refine T.br (λhb2=>?_) λ_=>?_
   ·have hb2:=zOT hb2
    refine T.jp (ι:=zt) (λp=>p=zf1 t b) (λJ kk=>?_) λp hp=>T.ck (by omega) (hL _ ⟨by dsimp only;omega,by dsimp only;omega,hp⟩ (by dsimp only;omega))
    refine T.get q1 hb2 λf hff=>T.get q1 (by rw [List.length_map];omega) λy hy=>?_
    rw [List.getElem?_map] at hy
    obtain ⟨w,hw1,hw2⟩:=Option.map_eq_some_iff.1 hy
    subst hw2
    have hwm:=List.mem_of_getElem? hw1
    have hfw:=h4 q.toNat f w hff hw1
    have hcw:=zdq hwm
    rw [zh3 w]
    refine T.br (λhz=>?_) λhz=>?_
    ·have hz:=zOT hz
     obtain ⟨_,z1,z2⟩:=hfw.resolve_right λh=>h.1 hz
     rw [z1,zlQ]
     refine T.eq (zhR _) ?_
     have ea:(decide (zcV.kind=0) && pln zcV false false false false)=true:=rfl
     rw [ea]
     have el:(f.optional || f.has || decide (x.root <= q))=true:=by
      rcases z2 with z2 | z2 | z2
      ·rw [z2];rfl
      ·rw [z2];simp
      ·rw [zDT (show x.root <= q by omega)];simp
     refine T.orJ (d:=false) (λJ2 hh=>T.eq (zmQ q1 hff) (by rw [el];exact hh)) (T.br (λh=>by cases h) λ_=>kk _ rfl)
    ·have hz:=zOF hz
     obtain ⟨_,z1,z2⟩:=hfw.resolve_left λh=>hz h.1
     refine T.ck (by omega) (T.eq (ih (by omega) (by omega) (by omega) (hf.kid w hwm) (by omega) z1 (hkb w hwm)) ?_)
     have hdk:=hok.dflt f (List.mem_of_getElem? hff)
     have hne:f.has=true->zbk w ≠ f.dflt:=λhh e=>by
      have hk2:w.kind=f.dflt.kind:=by rw [<- zh3 w,e]
      cases h with
      | zero=>exact z1.elim
      | succ h =>
       obtain ⟨_,x2,_,g⟩:=z1
       have h12:=(zo5 (hkb w hwm)).1
       obtain ⟨g1,g2⟩:=g.resolve_left h12
       have:zbk w=w:=zxV g2 (by rw [<- g1,hk2];exact hdk.2.2.2.2.1) h12
       exact z2 hh (this ▸ e)
     refine T.orJ (d:=false) (λJ2 hh=>T.jp (λb=>b=false) (λJ3 k3=>T.br (λh1=>?_) λ_=>k3 _ rfl) λb hb=>by rw [hb];exact hh) (T.br (λh=>by cases h) λ_=>kk _ rfl)
     refine T.cal (znb (k:=100000) (n:=fuel) (by have:=zuY 100000 w (by omega);omega) (by unfold fuel;omega) (zs2 100000 w (by omega) (hf.kid w hwm)) _) λr _ hr=>k3 _ ?_
     cases r with
     | true=>exact absurd (hr.1 rfl) (hne h1)
     | false=>rfl
   ·refine T.eq (zsT ht (v:=zbk v) i0 hx k (by rw [esl,List.length_map,h3]) (λw hw hz=>?_) (λs hs=>?_) hfl hok.root0) (T.some rfl)
    ·rw [esl] at hw
     obtain ⟨w',hw1,hw2⟩:=List.mem_map.1 hw
     subst hw2
     rw [zh3] at hz
     obtain ⟨k',hk'⟩:=List.mem_iff_getElem?.1 hw1
     have:=(List.getElem?_eq_some_iff.1 hk').1
     obtain ⟨f,hff⟩:∃ f,x.fields[k']?=some f:=⟨_,List.getElem?_eq_getElem (by omega)⟩
     obtain ⟨_,z1,_⟩:=(h4 k' f w' hff hk').resolve_right λh=>h.1 hz
     rw [z1];exact zlQ
    ·have:=h5 s hs
     have et:thr (zbk v)=thr v:=by
      funext k
      unfold thr
      rw [esl,List.getElem?_map]
      cases v.l[k.toNat]? with
      | none=>rfl
      | some w=>show (!decide ((zbk w).kind=0))=_;rw [zh3]
     unfold Grp lck at this ⊢
     rw [et]
     exact this
theorem zsU (x:zg) (n:Int) (hl:x.items.length <= 1000000) (hi:∃ it ∈ x.items,it.number=n):T (λr=>0 <= r) (zjt x n):=by
 unfold zjt
 refine T.lp (ι:=Int) (λ(q:Int)=>0 <= q/\q <= (x.items.length:Int)/\∀ k:Nat,(k:Int) < q->∀ it,x.items[k]?=some it->it.number ≠ n) (λ(q:Int)=>((x.items.length:Int) - q).toNat) ⟨zIl _,by omega,λk h=>by omega⟩ (by omega) λL q ⟨q1,q2,q3⟩ hL=>T.br (λh=>?_) λh=>?_
 ·have h:=zOT h
  refine T.get q1 h λy hy=>T.br (λ_=>T.some q1) λh2=>T.ck (by omega) (hL _ ⟨by omega,by omega,λk hk it hit=>?_⟩ (by omega))
  rcases Int.lt_or_le (k:Int) q with h4 | h4
  ·exact q3 k h4 it hit
  ·have:k=q.toNat:=by omega
   rw [this,hy] at hit;cases hit
   exact zOF h2
 ·have h:=zOF h
  obtain ⟨it,h1,h2⟩:=hi
  obtain ⟨k,hk⟩:=List.mem_iff_getElem?.1 h1
  have:=(List.getElem?_eq_some_iff.1 hk).1
  exact absurd h2 (q3 k (by omega) it hk)
theorem ztx {v:Val} (hb:bare v=true):v.kind ≠ 12/\v.more=[]/\∀ w ∈ v.l,bare w=true:=by
 rw [ziI,zBa] at hb
 have hb1:(decide (v.kind=12) || decide (0 < v.more.length))=false:=by simpa using hb.1
 rw [Bool.or_eq_false_iff] at hb1
 exact ⟨zOF hb1.1,List.length_eq_zero_iff.1 (by have:=zOF hb1.2;omega),λw hw=>List.all_eq_true.1 hb.2 _ (List.mem_map.2 ⟨w,hw,rfl⟩)⟩
theorem zq7 {t:zab} (ht:zdp t) {h:Nat} {i:Int} {x:zg} {v:Val} {d:Int} {Fi Fs} (h0:0 <= i) (hx:t.types[i.toNat]?=some x) (hk:x.kind=7 \/ x.kind=8) (hf:zcA v) (hc:cnt v <= 100000) (hd:0 <= d/\d <= 17) (hm:v.more=[])
    (hp:pln v false false true true=true) (hrule:v.rule=0) (hlen:v.l.length=x.fields.length) (hfs:∀ (k:Nat) f w,x.fields[k]?=some f->v.l[k]?=some w->zqR x (Fit t h) k f w) (hgs:∀ s ∈ slots x,Grp x v s)
    (ih:∀ (j:Int) w,w ∈ v.l->Fit t h j w->T (λr=>r=true) (Fi t j w (d + 1))):T (λr=>r=true) (zfJ Fs Fi t i v d):=by
  unfold zfJ
  have htl:=ht.types
  have hlt:=(List.getElem?_eq_some_iff.1 hx).1
  have hi:i < t.types.length:=by omega
  obtain ⟨j,hj⟩:=zbO.sub ht.kids i.toNat (by omega) (by omega)
  have hjl:=hj.inb
  obtain ⟨x',hx',hok,hkid⟩:=hj
  rw [hx] at hx';cases hx'
  have hfl:=ziA hkid hjl (by omega)
  have hr0:=hok.root0
  have hvl:=hf.l
  have eg:zs t.types i=some x:=by rw [zcH h0 hi];exact congrArg some (List.getElem?_eq_some_iff.1 hx).2
  have er:zkW t i v=some true:=by
    unfold zkW
    rw [hm,hrule];rfl
  refine T.eq eg (T.eq (zff v _ _ _ _) (T.or' ?_))
  rw [hp,hlen,zDT (show (x.fields.length:Int)=x.fields.length from rfl)]
  refine T.br (λh=>by cases h) λ_=>T.eq er (T.br (λh=>by cases h) λ_=>?_)
  refine T.lp (ι:=Int) (λ(q:Int)=>0 <= q/\q <= (x.fields.length:Int)) (λ(q:Int)=>((x.fields.length:Int) - q).toNat) ⟨zIl _,by omega⟩ (by omega) λL q ⟨q1,q2⟩ hL=>T.br (λhb=>?_) λhb=>?_
  · have hb:=zOT hb
    refine T.jp (ι:=Unit) (λ_=>True) (λJ kk=>?_) λ_ _=>T.ck (by omega) (hL _ ⟨by omega,by omega⟩ (by omega))
    refine T.get q1 hb λf hff=>T.or' (T.get q1 (by omega) λw hw=>?_)
    have hwm:=List.mem_of_getElem? hw
    have hg:∀ {β:Type} {R:β->Prop} {K:Val->Option β},T R (K w)->T R (Sy.cal (zs v.l q) K):=λhK=>T.get q1 (by omega) λy hy=>by rw [hw] at hy;cases hy;exact hK
    have hcw:=zdq hwm
    have hfw:=hfs q.toNat f w hff hw
    refine T.br (λhz=>hg ?_) λhz=>hg ?_
    · obtain ⟨_,z1,z2⟩:=hfw.resolve_right λh=>h.1 (zOT hz)
      refine T.cal (zh5 (k:=100000) (n:=fuel) (by omega) (by unfold fuel;omega) (hf.kid w hwm) _) λr _ hr=>T.orJ (d:=!(f.optional || f.has) && decide (q < x.root)) (λJ2 h2=>T.and' h2) (T.br (λhq=>?_) λhq=>kk _ trivial)
      rw [hr.2 z1] at hq
      rcases z2 with z2 | z2 | z2
      · rw [z2] at hq;cases hq
      · rw [z2] at hq;simp at hq
      · rw [zDF (show ¬ q < x.root by omega)] at hq;simp at hq
    · obtain ⟨_,z1,z2⟩:=hfw.resolve_left λh=>zOF hz h.1
      refine T.ck (by omega) (T.cal (ih f.ty w hwm z1) λy _ hy=>?_)
      rw [hy]
      refine T.jp (λb=>b=false) (λJ2 k2=>T.br (λh=>by cases h) λ_=>?_) λb hb2=>T.br (λh=>by rw [hb2] at h;cases h) λ_=>kk _ trivial
      refine T.jp (λb=>b=false) (λJ3 k3=>T.br (λhh=>hg (T.cal (zh5 (k:=100000) (n:=fuel) (by omega) (by unfold fuel;omega) (hf.kid w hwm) _) λr _ hr=>k3 _ ?_)) λhh=>k3 _ rfl) λb hb3=>k2 _ hb3
      cases r with
      | true=>exact absurd (hr.1 rfl) (z2 hh)
      | false=>rfl
  clear hL
  refine T.eq (ztA ht i) ?_
  rw [zmG h0 hx hk]
  have hsl:=zli hr0
  refine T.lp (ι:=Int) (λ(q:Int)=>0 <= q/\q <= ((slots x).length:Int)) (λ(q:Int)=>(((slots x).length:Int) - q).toNat) ⟨zIl _,by omega⟩ (by omega) λL q ⟨q1,q2⟩ hL=>T.br (λhb=>?_) λhb=>T.some rfl
  have hb:=zOT hb
  obtain ⟨s,hs⟩:∃ s,(slots x)[q.toNat]?=some s:=⟨_,List.getElem?_eq_getElem (by omega)⟩
  have hg:∀ {β:Type} {R:β->Prop} {K:List Int->Option β},T R (K s)->T R (Sy.cal (zs (slots x) q) K):=λhK=>T.get q1 hb λy hy=>by rw [hs] at hy;cases hy;exact hK
  have hsm:=List.mem_of_getElem? hs
  obtain ⟨k0,r,e0,e1,e2⟩:=zoC hr0 s hsm
  have hsl2:=zlS hr0 s hsm
  refine T.lp (ι:=Bool × Bool × Int) (λp=>0 <= p.2.2/\p.2.2 <= (s.length:Int)/\p.1=(s.take p.2.2.toNat).any (thr v)/\p.2.1=(s.take p.2.2.toNat).any (lck x v)) (λp=>((s.length:Int) - p.2.2).toNat) ⟨zIl _,by dsimp only;omega,rfl,rfl⟩ (by dsimp only;omega) λL2 p ⟨p1,p2,p3,p4⟩ hL2=>hg (T.br (λhc2=>?_) λhc2=>?_)
  · obtain ⟨so,la,m⟩:=p
    dsimp only at p1 p2 p3 p4 hL2 hc2 ⊢
    have hc2:=zOT hc2
    have em:(m + 1).toNat=m.toNat + 1:=by omega
    refine hg (T.get p1 hc2 λk hk=>?_)
    obtain ⟨k1,k2⟩:=e2 k (List.mem_of_getElem? hk)
    refine T.get (by omega) k2 λf hff=>hg (T.get p1 hc2 λk' hk'=>?_)
    rw [hk] at hk';cases hk'
    refine T.get (by omega) (by omega) λw hw=>T.or' ?_
    have eth:(!decide (w.kind=0))=thr v k:=by unfold thr;rw [hw]
    have elk:(!(!decide (w.kind=0)) && (!f.optional) && (!f.has))=lck x v k:=by
      unfold lck
      rw [<- eth,hff]
      show _=(!(!decide (w.kind=0)) && !(f.optional || f.has))
      cases decide (w.kind=0) <;> cases f.optional <;> cases f.has <;> rfl
    refine T.orJ (d:=lck x v k) (λJ h2=>T.and' (T.and' ?_)) (T.ck (by omega) (hL2 _ ⟨by dsimp only;omega,by dsimp only;omega,?_,?_⟩ (by dsimp only;omega)))
    · rw [elk];exact h2
    · dsimp only;rw [em,zjj hk,p3,eth]
    · dsimp only;rw [em,zjj hk,p4]
  · obtain ⟨so,la,m⟩:=p
    dsimp only at p1 p2 p3 p4 hL2 hc2 ⊢
    have hc2:=zOF hc2
    rw [zTl (by omega)] at p3 p4
    refine hg (T.get (zIl _) (by rw [e0,zLc];omega) λk hk=>?_)
    have ek:k=k0:=by rw [e0] at hk;simpa using hk.symm
    subst ek
    obtain ⟨k1,k2⟩:=e2 k (by rw [e0];exact zMs)
    refine T.get (by omega) k2 λf hff=>T.and' (T.and' (T.br (λhq=>?_) λhq=>T.ck (by omega) (hL _ ⟨by omega,by omega⟩ (by omega))))
    have:=hgs s hsm
    unfold Grp at this
    have eg:grp x.fields (s.headD 0)=f.group:=by
      rw [e0]
      show grp x.fields k=_
      unfold grp
      rw [hff];rfl
    rw [eg,<- p3,<- p4,hq] at this
    cases this
theorem ztr {t:zab} (ht:zdp t):∀ {h n:Nat} {i:Int} {v:Val} {d:Int},0 <= d->d + h=18->2 * h + 2 <= n->zcA v->cnt v <= 100000->Fit t h i v->bare v=true->T (λr=>r=true) (zgC n t i v d):=by
 intro h
 induction h with
 | zero=>intro n i v d _ _ _ _ _ hF;exact hF.elim
 | succ h ih =>
  intro n i v d d0 hd hn hf hc hF hb
  obtain ⟨n,rfl⟩:∃ n',n=n' + 2:=⟨n - 2,by omega⟩
  obtain ⟨hk12,hm,hkb⟩:=ztx hb
  obtain ⟨i0,x,hx,hfk⟩:=hF
  obtain ⟨hkk,hfk⟩:=hfk.resolve_left hk12
  have hlt:=(List.getElem?_eq_some_iff.1 hx).1
  have htl:=ht.types
  have hvl:=hf.l
  obtain ⟨j,hj⟩:=zbO.sub ht.kids i.toNat (by omega) (by omega)
  have hjl:=hj.inb
  obtain ⟨x',hx',hok,hkid⟩:=hj
  rw [hx] at hx';cases hx'
  have hil:=hok.ilen
  have kid:∀ (j:Int) w,w ∈ v.l->Fit t h j w->T (λr=>r=true) (zgC (n + 1) t j w (d + 1)):=λj w hw hF=>ih (by omega) (by omega) (by omega) (hf.kid w hw) (by have:=zdq hw;omega) hF (hkb w hw)
  show T _ (zin (zh4 (n + 1)) (zgC (n + 1)) t i v d)
  unfold zin
  refine T.or' (T.or' (T.br (λhq=>?_) λ_=>?_))
  ·rw [Bool.or_eq_true,Bool.or_eq_true] at hq
   rcases hq with (hq | hq) | hq <;> (have:=zOT hq;omega)
  refine T.get i0 (by omega) λy hy=>?_
  rw [hx] at hy;cases hy
  refine T.br (λh=>absurd (zOT h) hk12) λ_=>T.br (λh=>?_) λ_=>?_
  ·rw [hkk] at h;simp at h
  have no:∀ {β:Type} {R:β->Prop} {k:Int} {A B:Option β},x.kind ≠ k->T R B->T R (br (decide (x.kind=k)) A B):=λhn hB=>T.br (λh=>absurd (zOT h) hn) λ_=>hB
  have ys:∀ {β:Type} {R:β->Prop} {k:Int} {A B:Option β},x.kind=k->T R A->T R (br (decide (x.kind=k)) A B):=λhn hA=>T.br (λ_=>hA) λh=>absurd hn (zOF h)
  rcases hfk with ⟨k,h1,h2⟩ | ⟨k,h1,h2⟩ | ⟨k,h1,h2⟩ | ⟨k,h1⟩ | ⟨k,h1,h2,h3,h4⟩ | ⟨k,h1,h2,h3⟩ | ⟨k,h1,h2,f,w,h3,h4,h5⟩ | ⟨k,h1,h2,h3,h4,h5⟩
  ·exact ys k (T.eq (zff v _ _ _ _) (T.andJ (d:=decide (v.n=0) || decide (v.n=1)) (λJ hh=>T.or' hh) (T.some (by rw [h1,h2];rfl))))
  ·exact no (by omega) (ys k (T.eq (zff v _ _ _ _) (T.andJ (d:=x.con.more || zgc x.con v.n) (λJ hh=>T.orJ (d:=zgc x.con v.n) (λJ2 h2=>T.eq (zlV _ _) h2) hh) (T.some (by rw [h1,h2];rfl)))))
  ·refine no (by omega) (no (by omega) (ys k (T.eq (zff v _ _ _ _) (T.jp (λb=>b=true) (λJ kk=>T.br (λ_=>?_) λh=>by rw [h1] at h;cases h) λb hb=>T.some hb))))
   exact T.cal (zsU x v.n (by omega) h2) λr _ hr=>kk _ (zDT hr)
  ·exact no (by omega) (no (by omega) (no (by omega) (ys k (T.eq (zff v _ _ _ _) (T.some h1)))))
  all_goals refine no (by omega) (no (by omega) (no (by omega) (no (by omega) ?_)))
  ·refine T.jp (λb=>b=true) (λJ kk=>T.br (λh=>kk _ h) λh=>kk _ (zDT (k.resolve_left (zOF h)))) λb56 hb56=>T.br (λ_=>?_) λh=>by rw [hb56] at h;cases h
   refine T.eq (zff v _ _ _ _) (T.and' (T.andJ (d:=x.con.more || zgc x.con (v.b.length:Int)) (λJ hh=>T.orJ (d:=zgc x.con (v.b.length:Int)) (λJ2 h2=>T.eq (zlV _ _) h2) hh) ?_))
   rw [h1,h3,zDT h2]
   refine T.jp (λb=>b=true) (λJ kk=>T.br (λ_=>?_) λh=>by cases h) λb hb=>T.some hb
   exact T.jp (λb=>b=true) (λJ2 k2=>T.br (λh5=>k2 _ rfl) λh5=>T.eq (h4.resolve_left (zOF h5)) (k2 _ rfl)) λc hc=>kk _ hc
  all_goals refine T.jp (λb=>b=false) (λJ kk=>T.br (λh=>absurd (zOT h) (by omega)) λh=>kk _ (zDF (by omega))) λb56 hb56=>T.br (λh=>by rw [hb56] at h;cases h) λ_=>?_
  ·refine ys k (T.eq (zff v _ _ _ _) (T.orJ (d:=!x.con.more && !zgc x.con (v.l.length:Int)) (λJ hh=>T.andJ (d:=!zgc x.con (v.l.length:Int)) (λJ2 h2=>T.eq (zlV _ _) h2) hh) (T.br (λh=>?_) λ_=>?_)))
   ·rw [h1] at h
    cases e1:x.con.more <;> cases e2:zgc x.con (v.l.length:Int) <;> simp_all
   refine T.lp (ι:=Int) (λ(q:Int)=>0 <= q/\q <= (v.l.length:Int)) (λ(q:Int)=>((v.l.length:Int) - q).toNat) ⟨zIl _,by omega⟩ (by omega) λL q ⟨q1,q2⟩ hL=>T.br (λhb=>?_) λhb=>T.some rfl
   have hb:=zOT hb
   refine T.get q1 hb λw hw=>?_
   have hwm:=List.mem_of_getElem? hw
   exact T.ck (by omega) (T.cal (kid x.of w hwm (h3 w hwm)) λy _ hy=>T.br (λh=>by rw [hy] at h;cases h) λ_=>T.ck (by omega) (hL _ ⟨by omega,by omega⟩ (by omega)))
  ·have hnl:=(List.getElem?_eq_some_iff.1 h3).1
   refine no (by omega) (ys k (T.eq (zff v _ _ _ _) (T.and' (T.and' (T.and' ?_)))))
   rw [h1,h4,zDT h2,zDT (show v.n < (x.fields.length:Int) by omega)]
   refine T.jp (λb=>b=true) (λJ kk=>T.br (λ_=>?_) λh=>by cases h) λb hb=>T.some hb
   refine T.get h2 (by omega) λf' hf'=>?_
   rw [h3] at hf';cases hf'
   exact T.eq (y:=w) rfl (T.ck (by omega) (T.cal (kid f.ty w (by rw [h4];exact zMo.2 rfl) h5) λy _ hy=>kk _ hy))
  ·refine no (by omega) (no (by omega) (T.jp (λb=>b=true) (λJ kk=>T.br (λh=>kk _ h) λh=>kk _ (zDT (k.resolve_left (zOF h)))) λb hb=>T.br (λ_=>?_) λh=>by rw [hb] at h;cases h))
   refine T.cal (Q:=λr=>r=true) ?_ λy _ hy=>T.some hy
   show T _ (zfJ (zh4 n) (zgC n) t i v d)
   exact zq7 ht i0 hx k hf hc (by omega) hm h1 (h2 hm) h3 h4 h5 λj w hw hF=>ih (by omega) (by omega) (by omega) (hf.kid w hw) (by have:=zdq hw;omega) hF (hkb w hw)
theorem zsZ {t:zab} (ht:zdp t) {i:Int} {v:Val} (hf:zcA v) (hc:cnt v <= 5000) (hF:Fit t 17 i v) (hb:bare v=true):T (λr=>r=true) (zjp t i v):=by
 unfold zjp
 exact T.eq (zsX (by unfold fuel;omega) (by omega) hf) (T.jp (λb=>b=true) (λJ kk=>T.br (λh=>T.cal (ztr ht (h:=17) (by decide) (by decide) (by unfold fuel;decide) hf (by omega) hF hb) λy _ hy=>kk _ hy) λh=>absurd (show ((cnt v:Nat):Int) <= 5000 by omega) (zOF h)) λb hb=>T.some hb)
def zaj (a_r_:zaa) (a_k:Int):Option (UInt8 × zaa) :=
 ck ((a_r_.reader.at_ + a_k)) <| br (decide ((a_r_.reader.s.b.length:Int) <= (a_r_.reader.at_ + a_k))) (some ((0:UInt8),a_r_)) (ck ((a_r_.reader.at_ + a_k)) <| cal (zs a_r_.reader.s.b (a_r_.reader.at_ + a_k)) λy7=>some (y7,a_r_))

def zbZ (a_s:Str) (zd2:Str):Option (Bool) :=
 jp (ι:=Bool) (λJ2=>br (decide ((zd2.b.length:Int) <= (a_s.b.length:Int))) (asr (decide (0 <= (0:Int)/\(0:Int) <= (zd2.b.length:Int)/\(zd2.b.length:Int) <= (a_s.b.length:Int))) <| J2 ((decide ((Str.mk ((a_s.b.take ((zd2.b.length:Int)).toNat).drop (0:Int).toNat))=zd2)))) (J2 (false))) (λq1=>some (q1))

def zfa (a_s:Str) (zd2:Str):Option (Bool) :=
 cal (zbZ a_s zd2) λy1=>some (y1)

def zci (a_r_:zaa) (a_t:Str):Option (Bool × zaa) :=
 asr (decide (0 <= a_r_.reader.at_/\a_r_.reader.at_ <= (a_r_.reader.s.b.length:Int)/\(a_r_.reader.s.b.length:Int) <= (a_r_.reader.s.b.length:Int))) <| cal (zfa (Str.mk ((a_r_.reader.s.b.take ((a_r_.reader.s.b.length:Int)).toNat).drop (a_r_.reader.at_).toNat)) a_t) λy4=>some (y4,a_r_)

def zdM (a_r_:zaa):Option (zaa) :=
 lp (ι:=zaa) (λL2 q1=>br (decide (q1.reader.at_ < (q1.reader.s.b.length:Int))) (cal (zaj q1 (0:Int)) λy65=>jp (ι:=Bool) (λJ67=>br (decide (y65.1=(32:UInt8))) (J67 (true)) (J67 ((decide (y65.1=(9:UInt8)))))) (λq66=>jp (ι:=Bool) (λJ70=>br q66 (J70 (true)) (J70 ((decide (y65.1=(10:UInt8)))))) (λq69=>jp (ι:=Bool) (λJ73=>br q69 (J73 (true)) (J73 ((decide (y65.1=(13:UInt8)))))) (λq72=>br q72 (ck ((y65.2.reader.at_ + (1:Int))) <| L2 ({ y65.2 with reader:={ y65.2.reader with at_:=(y65.2.reader.at_ + (1:Int)) } })) (cal (zci y65.2 (Str.mk [45,45])) λy76=>br y76.1 (ck ((y76.2.reader.at_ + (2:Int))) <| lp (ι:=zaa) (λL79 q78=>jp (ι:=Bool × zaa) (λJ102=>jp (ι:=Bool × zaa) (λJ104=>br (decide (q78.reader.at_ < (q78.reader.s.b.length:Int))) (cal (zaj q78 (0:Int)) λy106=>J104 ((!decide (y106.1=(10:UInt8))),y106.2)) (J104 (false,q78))) (λq103=>jp (ι:=Bool × zaa) (λJ108=>br q103.1 (cal (zci q103.2 (Str.mk [45,45])) λy110=>J108 ((!y110.1),y110.2)) (J108 (false,q103.2))) (λq107=>J102 (q107.1,q107.2)))) (λq101=>br q101.1 (ck ((q101.2.reader.at_ + (1:Int))) <| L79 ({ q101.2 with reader:={ q101.2.reader with at_:=(q101.2.reader.at_ + (1:Int)) } })) (cal (zci q101.2 (Str.mk [45,45])) λy120=>br y120.1 (ck ((y120.2.reader.at_ + (2:Int))) <| L2 ({ y120.2 with reader:={ y120.2.reader with at_:=(y120.2.reader.at_ + (2:Int)) } })) (L2 (y120.2))))) (({ y76.2 with reader:={ y76.2.reader with at_:=(y76.2.reader.at_ + (2:Int)) } }))) (some (y76.2))))))) (some (q1))) ((a_r_))

def zf6 (a_c:UInt8):Option (Bool) :=
 jp (ι:=Bool) (λJ2=>br (decide ((97:UInt8) <= a_c)) (J2 ((decide (a_c <= (122:UInt8))))) (J2 (false))) (λq1=>jp (ι:=Bool) (λJ5=>br q1 (J5 (true)) (jp (ι:=Bool) (λJ8=>br (decide ((65:UInt8) <= a_c)) (J8 ((decide (a_c <= (90:UInt8))))) (J8 (false))) (λq7=>J5 (q7)))) (λq4=>some (q4)))

def zfF (a_c:UInt8):Option (Bool) :=
 jp (ι:=Bool) (λJ2=>br (decide ((48:UInt8) <= a_c)) (J2 ((decide (a_c <= (57:UInt8))))) (J2 (false))) (λq1=>some (q1))

def zkO (a_s:Str):Option (Bool) :=
 jp (ι:=Bool) (λJ2=>br (decide (a_s=(Str.mk [68,69,70,73,78,73,84,73,79,78,83]))) (J2 ((decide (a_s=(Str.mk [68,69,70,73,78,73,84,73,79,78,83]))))) (br (decide (a_s=(Str.mk [69,88,80,76,73,67,73,84]))) (J2 ((decide (a_s=(Str.mk [69,88,80,76,73,67,73,84]))))) (br (decide (a_s=(Str.mk [73,77,80,76,73,67,73,84]))) (J2 ((decide (a_s=(Str.mk [73,77,80,76,73,67,73,84]))))) (br (decide (a_s=(Str.mk [65,85,84,79,77,65,84,73,67]))) (J2 ((decide (a_s=(Str.mk [65,85,84,79,77,65,84,73,67]))))) (br (decide (a_s=(Str.mk [84,65,71,83]))) (J2 ((decide (a_s=(Str.mk [84,65,71,83]))))) (br (decide (a_s=(Str.mk [66,69,71,73,78]))) (J2 ((decide (a_s=(Str.mk [66,69,71,73,78]))))) (br (decide (a_s=(Str.mk [69,78,68]))) (J2 ((decide (a_s=(Str.mk [69,78,68]))))) (br (decide (a_s=(Str.mk [66,79,79,76,69,65,78]))) (J2 ((decide (a_s=(Str.mk [66,79,79,76,69,65,78]))))) (br (decide (a_s=(Str.mk [73,78,84,69,71,69,82]))) (J2 ((decide (a_s=(Str.mk [73,78,84,69,71,69,82]))))) (br (decide (a_s=(Str.mk [69,78,85,77,69,82,65,84,69,68]))) (J2 ((decide (a_s=(Str.mk [69,78,85,77,69,82,65,84,69,68]))))) (br (decide (a_s=(Str.mk [78,85,76,76]))) (J2 ((decide (a_s=(Str.mk [78,85,76,76]))))) (br (decide (a_s=(Str.mk [79,67,84,69,84]))) (J2 ((decide (a_s=(Str.mk [79,67,84,69,84]))))) (br (decide (a_s=(Str.mk [83,84,82,73,78,71]))) (J2 ((decide (a_s=(Str.mk [83,84,82,73,78,71]))))) (br (decide (a_s=(Str.mk [85,84,70,56,83,116,114,105,110,103]))) (J2 ((decide (a_s=(Str.mk [85,84,70,56,83,116,114,105,110,103]))))) (br (decide (a_s=(Str.mk [83,69,81,85,69,78,67,69]))) (J2 ((decide (a_s=(Str.mk [83,69,81,85,69,78,67,69]))))) (br (decide (a_s=(Str.mk [83,69,84]))) (J2 ((decide (a_s=(Str.mk [83,69,84]))))) (br (decide (a_s=(Str.mk [67,72,79,73,67,69]))) (J2 ((decide (a_s=(Str.mk [67,72,79,73,67,69]))))) (br (decide (a_s=(Str.mk [79,70]))) (J2 ((decide (a_s=(Str.mk [79,70]))))) (br (decide (a_s=(Str.mk [79,80,84,73,79,78,65,76]))) (J2 ((decide (a_s=(Str.mk [79,80,84,73,79,78,65,76]))))) (br (decide (a_s=(Str.mk [68,69,70,65,85,76,84]))) (J2 ((decide (a_s=(Str.mk [68,69,70,65,85,76,84]))))) (br (decide (a_s=(Str.mk [83,73,90,69]))) (J2 ((decide (a_s=(Str.mk [83,73,90,69]))))) (br (decide (a_s=(Str.mk [77,73,78]))) (J2 ((decide (a_s=(Str.mk [77,73,78]))))) (br (decide (a_s=(Str.mk [77,65,88]))) (J2 ((decide (a_s=(Str.mk [77,65,88]))))) (br (decide (a_s=(Str.mk [84,82,85,69]))) (J2 ((decide (a_s=(Str.mk [84,82,85,69]))))) (J2 ((decide (a_s=(Str.mk [70,65,76,83,69]))))))))))))))))))))))))))))) (λq1=>br q1 (some (true)) (some (false)))

def zfx (a_l:zaa):Option (Int × Str × zaa) :=
 cal (zaj a_l (0:Int)) λy1=>lp (ι:=UInt8 × zaa) (λL3 q2=>cal (zf6 q2.1) λy28=>jp (ι:=Bool) (λJ30=>br y28 (J30 (true)) (cal (zfF q2.1) λy32=>J30 (y32))) (λq29=>jp (ι:=Bool × zaa) (λJ34=>br q29 (J34 (true,q2.2)) (jp (ι:=Bool × zaa) (λJ37=>br (decide (q2.1=(45:UInt8))) (cal (zaj q2.2 (1:Int)) λy39=>J37 ((!decide (y39.1=(45:UInt8))),y39.2)) (J37 (false,q2.2))) (λq36=>J34 (q36.1,q36.2)))) (λq33=>br q33.1 (ck ((q33.2.reader.at_ + (1:Int))) <| cal (zaj ({ q33.2 with reader:={ q33.2.reader with at_:=(q33.2.reader.at_ + (1:Int)) } }) (0:Int)) λy41=>L3 (y41.1,y41.2)) (asr (decide (0 <= a_l.reader.at_/\a_l.reader.at_ <= q33.2.reader.at_/\q33.2.reader.at_ <= (q33.2.reader.s.b.length:Int))) <| jp (ι:=Bool) (λJ46=>br (decide ((60:Int) < ((Str.mk ((q33.2.reader.s.b.take (q33.2.reader.at_).toNat).drop (a_l.reader.at_).toNat)).b.length:Int))) (J46 (true)) (ck ((((Str.mk ((q33.2.reader.s.b.take (q33.2.reader.at_).toNat).drop (a_l.reader.at_).toNat)).b.length:Int) - (1:Int))) <| cal (zs (Str.mk ((q33.2.reader.s.b.take (q33.2.reader.at_).toNat).drop (a_l.reader.at_).toNat)).b (((Str.mk ((q33.2.reader.s.b.take (q33.2.reader.at_).toNat).drop (a_l.reader.at_).toNat)).b.length:Int) - (1:Int))) λy49=>J46 ((decide (y49=(45:UInt8)))))) (λq45=>br q45 (some ((0:Int),(Str.mk []),q33.2)) (cal (zkO (Str.mk ((q33.2.reader.s.b.take (q33.2.reader.at_).toNat).drop (a_l.reader.at_).toNat))) λy50=>br y50 (some ((5:Int),(Str.mk ((q33.2.reader.s.b.take (q33.2.reader.at_).toNat).drop (a_l.reader.at_).toNat)),q33.2)) (cal (zs (Str.mk ((q33.2.reader.s.b.take (q33.2.reader.at_).toNat).drop (a_l.reader.at_).toNat)).b (0:Int)) λy51=>br (decide (y51 <= (90:UInt8))) (some ((1:Int),(Str.mk ((q33.2.reader.s.b.take (q33.2.reader.at_).toNat).drop (a_l.reader.at_).toNat)),q33.2)) (some ((2:Int),(Str.mk ((q33.2.reader.s.b.take (q33.2.reader.at_).toNat).drop (a_l.reader.at_).toNat)),q33.2))))))))) ((y1.1,y1.2))

def zeI (a_l:zaa):Option (Int × Str × zaa) :=
 cal (zaj a_l (0:Int)) λy1=>jp (ι:=zaa) (λJ3=>br (decide (y1.1=(45:UInt8))) (ck ((y1.2.reader.at_ + (1:Int))) <| J3 ({ y1.2 with reader:={ y1.2.reader with at_:=(y1.2.reader.at_ + (1:Int)) } })) (J3 (y1.2))) (λq2=>lp (ι:=zaa) (λL6 q5=>cal (zaj q5 (0:Int)) λy30=>cal (zfF y30.1) λy31=>br y31 (ck ((y30.2.reader.at_ + (1:Int))) <| L6 ({ y30.2 with reader:={ y30.2.reader with at_:=(y30.2.reader.at_ + (1:Int)) } })) (asr (decide (0 <= a_l.reader.at_/\a_l.reader.at_ <= y30.2.reader.at_/\y30.2.reader.at_ <= (y30.2.reader.s.b.length:Int))) <| cal (zs y30.2.reader.s.b q2.reader.at_) λy36=>cal (zbb (Str.mk ((y30.2.reader.s.b.take (y30.2.reader.at_).toNat).drop (a_l.reader.at_).toNat)) (10:Int) (64:Int)) λy37=>jp (ι:=Bool) (λJ39=>br y37.2.bad (J39 (true)) (jp (ι:=Bool) (λJ42=>br (decide (y36=(48:UInt8))) (ck ((y30.2.reader.at_ - q2.reader.at_)) <| jp (ι:=Bool) (λJ46=>br (decide ((1:Int) < (y30.2.reader.at_ - q2.reader.at_))) (J46 (true)) (J46 ((decide (a_l.reader.at_ < q2.reader.at_))))) (λq45=>J42 (q45))) (J42 (false))) (λq41=>J39 (q41)))) (λq38=>jp (ι:=Bool × zaa) (λJ49=>br q38 (J49 (true,y30.2)) (cal (zaj y30.2 (0:Int)) λy51=>cal (zf6 y51.1) λy52=>J49 (y52,y51.2))) (λq48=>br q48.1 (some ((0:Int),(Str.mk []),q48.2)) (some ((3:Int),(Str.mk ((y30.2.reader.s.b.take (y30.2.reader.at_).toNat).drop (a_l.reader.at_).toNat)),q48.2)))))) ((q2)))

def zfX (a_l:zaa):Option (Int × Str × zaa) :=
 ck ((a_l.reader.at_ + (1:Int))) <| cal (zaj ({ a_l with reader:={ a_l.reader with at_:=(a_l.reader.at_ + (1:Int)) } }) (0:Int)) λy2=>lp (ι:=UInt8 × zaa) (λL4 q3=>cal (zfF q3.1) λy23=>jp (ι:=Bool) (λJ25=>br y23 (J25 (true)) (jp (ι:=Bool) (λJ28=>br (decide ((65:UInt8) <= q3.1)) (J28 ((decide (q3.1 <= (70:UInt8))))) (J28 (false))) (λq27=>J25 (q27)))) (λq24=>br q24 (ck ((q3.2.reader.at_ + (1:Int))) <| cal (zaj ({ q3.2 with reader:={ q3.2.reader with at_:=(q3.2.reader.at_ + (1:Int)) } }) (0:Int)) λy31=>L4 (y31.1,y31.2)) (asr (decide (0 <= (a_l.reader.at_ + (1:Int))/\(a_l.reader.at_ + (1:Int)) <= q3.2.reader.at_/\q3.2.reader.at_ <= (q3.2.reader.s.b.length:Int))) <| asr (!decide ((2:Int)=0)) <| jp (ι:=Bool × zaa) (λJ37=>br (!decide ((((Str.mk ((q3.2.reader.s.b.take (q3.2.reader.at_).toNat).drop ((a_l.reader.at_ + (1:Int))).toNat)).b.length:Int).tmod (2:Int))=(0:Int))) (J37 (true,q3.2)) (cal (zci q3.2 (Str.mk [39,72])) λy39=>J37 ((!y39.1),y39.2))) (λq36=>br q36.1 (some ((0:Int),(Str.mk []),q36.2)) (ck ((q36.2.reader.at_ + (2:Int))) <| some ((4:Int),(Str.mk ((q3.2.reader.s.b.take (q3.2.reader.at_).toNat).drop ((a_l.reader.at_ + (1:Int))).toNat)),{ q36.2 with reader:={ q36.2.reader with at_:=(q36.2.reader.at_ + (2:Int)) } })))))) ((y2.1,y2.2))

def zft (a_l:zaa):Option (Int × Str × zaa) :=
 ck ((a_l.reader.at_ + (1:Int))) <| lp (ι:=(List UInt8) × zaa) (λL3 q2=>br (decide (q2.2.reader.at_ < (q2.2.reader.s.b.length:Int))) (cal (zaj q2.2 (0:Int)) λy19=>jp (ι:=zaa) (λJ21=>br (decide (y19.1=(34:UInt8))) (ck ((y19.2.reader.at_ + (1:Int))) <| cal (zaj ({ y19.2 with reader:={ y19.2.reader with at_:=(y19.2.reader.at_ + (1:Int)) } }) (0:Int)) λy23=>br (!decide (y23.1=(34:UInt8))) (cal (zcy q2.1) λy24=>br (!y24) (some ((0:Int),(Str.mk []),y23.2)) (some ((7:Int),(Str.mk q2.1),y23.2))) (J21 (y23.2))) (J21 (y19.2))) (λq20=>cal (zaj q20 (0:Int)) λy25=>asr (Nat.ble (q2.1.length + ([y25.1]:(List UInt8)).length) 68719476736) <| ck ((y25.2.reader.at_ + (1:Int))) <| L3 ((q2.1 ++ ([y25.1]:(List UInt8))),{ y25.2 with reader:={ y25.2.reader with at_:=(y25.2.reader.at_ + (1:Int)) } }))) (some ((0:Int),(Str.mk []),q2.2))) ((([]:(List UInt8)),{ a_l with reader:={ a_l.reader with at_:=(a_l.reader.at_ + (1:Int)) } }))

def zfv (a_l:zaa):Option (Int × Str × zaa) :=
 lp (ι:=Int × zaa) (λL3 q2=>br (decide (q2.1 < (([(Str.mk [58,58,61]),(Str.mk [46,46,46]),(Str.mk [46,46]),(Str.mk [91,91]),(Str.mk [93,93]),(Str.mk [123]),(Str.mk [125]),(Str.mk [91]),(Str.mk [93]),(Str.mk [40]),(Str.mk [41]),(Str.mk [44]),(Str.mk [58])]:(List Str)).length:Int))) (cal (zs ([(Str.mk [58,58,61]),(Str.mk [46,46,46]),(Str.mk [46,46]),(Str.mk [91,91]),(Str.mk [93,93]),(Str.mk [123]),(Str.mk [125]),(Str.mk [91]),(Str.mk [93]),(Str.mk [40]),(Str.mk [41]),(Str.mk [44]),(Str.mk [58])]:(List Str)) q2.1) λy8=>cal (zci q2.2 y8) λy9=>br y9.1 (ck ((y9.2.reader.at_ + (y8.b.length:Int))) <| some ((6:Int),y8,{ y9.2 with reader:={ y9.2.reader with at_:=(y9.2.reader.at_ + (y8.b.length:Int)) } })) (ck ((q2.1 + (1:Int))) <| L3 ((q2.1 + (1:Int)),y9.2))) (some ((0:Int),(Str.mk []),q2.2))) (((0:Int),a_l))

def ze5 (a_l:zaa):Option (Int × Str × zaa) :=
 cal (zaj a_l (0:Int)) λy1=>cal (zf6 y1.1) λy2=>br y2 (cal (zfx y1.2) λy3=>some (y3.1,y3.2.1,y3.2.2)) (cal (zfF y1.1) λy4=>jp (ι:=Bool × zaa) (λJ6=>br y4 (J6 (true,y1.2)) (jp (ι:=Bool × zaa) (λJ9=>br (decide (y1.1=(45:UInt8))) (cal (zaj y1.2 (1:Int)) λy11=>cal (zfF y11.1) λy12=>J9 (y12,y11.2)) (J9 (false,y1.2))) (λq8=>J6 (q8.1,q8.2)))) (λq5=>br q5.1 (cal (zeI q5.2) λy13=>some (y13.1,y13.2.1,y13.2.2)) (br (decide (y1.1=(39:UInt8))) (cal (zfX q5.2) λy14=>some (y14.1,y14.2.1,y14.2.2)) (br (decide (y1.1=(34:UInt8))) (cal (zft q5.2) λy15=>some (y15.1,y15.2.1,y15.2.2)) (cal (zfv q5.2) λy16=>some (y16.1,y16.2.1,y16.2.2))))))

def ziz (za3:Str):Option ((List zU) × Int × Int) :=
 br (decide ((8000:Int) < (za3.b.length:Int))) (some (([]:(List zU)),(0:Int),(5:Int))) (cal (zdM (zaa.mk (zch.mk za3 (0:Int)))) λy2=>lp (ι:=(List zU) × zaa) (λL4 q3=>br (decide (q3.2.reader.at_ < (za3.b.length:Int))) (cal (ze5 q3.2) λy13=>br (decide (y13.1=(0:Int))) (some (([]:(List zU)),q3.2.reader.at_,(6:Int))) (asr (Nat.ble (q3.1.length + ([(zU.mk y13.1 y13.2.1 q3.2.reader.at_)]:(List zU)).length) 68719476736) <| cal (zdM y13.2.2) λy17=>L4 ((q3.1 ++ ([(zU.mk y13.1 y13.2.1 q3.2.reader.at_)]:(List zU))),y17))) (asr (Nat.ble (q3.1.length + ([(zU.mk (0:Int) (Str.mk []) (za3.b.length:Int))]:(List zU)).length) 68719476736) <| some ((q3.1 ++ ([(zU.mk (0:Int) (Str.mk []) (za3.b.length:Int))]:(List zU))),(0:Int),(0:Int)))) ((([]:(List zU)),y2)))
def zay (a_p:zah) (ziK:(List Str)):Option (zah) :=
 lp (ι:=Int × zah) (λL3 q2=>br (decide (q2.1 < (ziK.length:Int))) (cal (zs ziK q2.1) λy8=>asr (Nat.ble (q2.2.b.length + y8.b.length) 68719476736) <| ck ((q2.1 + (1:Int))) <| L3 ((q2.1 + (1:Int)),(zah.mk q2.2.t (q2.2.b ++ y8.b)))) (some (q2.2))) (((0:Int),a_p))

def zhI (a_b:(List UInt8)):Option (Str) :=
 lp (ι:=(List UInt8) × Int) (λL3 q2=>br (decide (q2.2 < (a_b.length:Int))) (cal (zs a_b q2.2) λy15=>asr (Nat.ble (4:UInt64).toNat 8) <| cal (zs (Str.mk [48,49,50,51,52,53,54,55,56,57,65,66,67,68,69,70]).b ((zfn y15 (4:UInt64).toNat).toNat:Int)) λy17=>cal (zs (Str.mk [48,49,50,51,52,53,54,55,56,57,65,66,67,68,69,70]).b ((y15 &&& (15:UInt8)).toNat:Int)) λy18=>asr (Nat.ble (q2.1.length + ([y17,y18]:(List UInt8)).length) 68719476736) <| ck ((q2.2 + (1:Int))) <| L3 ((q2.1 ++ ([y17,y18]:(List UInt8))),(q2.2 + (1:Int)))) (asr (Nat.ble (q2.1.length + ([(39:UInt8),(72:UInt8)]:(List UInt8)).length) 68719476736) <| some ((Str.mk (q2.1 ++ ([(39:UInt8),(72:UInt8)]:(List UInt8))))))) ((([(39:UInt8)]:(List UInt8)),(0:Int)))

def zgm (a_v:Val):Option (Str) :=
 br (decide (a_v.kind=(1:Int))) (br (!decide (a_v.n=(0:Int))) (some ((Str.mk [84,82,85,69]))) (some ((Str.mk [70,65,76,83,69])))) (br (decide (a_v.kind=(4:Int))) (some ((Str.mk [78,85,76,76]))) (br (decide (a_v.kind=(2:Int))) (cal (zdI a_v.n (10:Int)) λy1=>some (y1)) (br (decide (a_v.kind=(3:Int))) (some ((Str.mk a_v.b))) (br (decide (a_v.kind=(5:Int))) (cal (zhI a_v.b) λy2=>some (y2)) (br (decide (a_v.kind=(6:Int))) (cal (strings_ReplaceAll (Str.mk a_v.b) (Str.mk [34]) (Str.mk [34,34])) λy3=>asr (Nat.ble ((Str.mk [34]).b.length + y3.b.length) 4611686018427387904) <| asr (Nat.ble ((Str.mk ((Str.mk [34]).b ++ y3.b)).b.length + (Str.mk [34]).b.length) 4611686018427387904) <| some ((Str.mk ((Str.mk ((Str.mk [34]).b ++ y3.b)).b ++ (Str.mk [34]).b)))) (some ((Str.mk []))))))))

def zcW (zK:Int->zah->zg->Val->Option (Bool × zah)) (zQ:zah->Int->Val->Option (zah)) (zR:zah->Int->zg->Val->Option (zah)) (zJ:zah->Int->Val->zg->Option (zah)) (zI:Int->Val->zah->zg->Option (Bool × zah)) (a_k:Int) (a_a1:zah) (a_a2:zg) (a_a3:Val):Option (Bool × zah) :=
 cal (zs a_a3.l a_k) λy2=>cal (zQ a_a1 a_a2.of y2) λy3=>some (true,y3)
def zdD (zK:Int->zah->zg->Val->Option (Bool × zah)) (zQ:zah->Int->Val->Option (zah)) (zR:zah->Int->zg->Val->Option (zah)) (zJ:zah->Int->Val->zg->Option (zah)) (zI:Int->Val->zah->zg->Option (Bool × zah)) (a_p:zah) (a_i:Int) (a_v:Val):Option (zah) :=
 cal (zs a_p.t.types a_i) λy2=>br (decide (y2.kind=(3:Int))) (cal (zdk y2 a_v.n) λy4=>cal (zs y2.items y4) λy5=>cal (zay a_p ([y5.name]:(List Str))) λy7=>some (y7)) (br (decide (y2.kind=(10:Int))) (cal (zR a_p (a_v.l.length:Int) y2 a_v) λy9=>some (y9)) (br (decide (y2.kind=(9:Int))) (cal (zs y2.fields a_v.n) λy11=>cal (zay a_p ([y11.name,(Str.mk [32,58,32])]:(List Str))) λy14=>cal (zs a_v.l (0:Int)) λy16=>cal (zQ y14 y11.ty y16) λy17=>some (y17)) (jp (ι:=Bool) (λJ20=>br (decide (y2.kind=(7:Int))) (J20 ((decide (y2.kind=(7:Int))))) (J20 ((decide (y2.kind=(8:Int)))))) (λq19=>br q19 (cal (zJ a_p (a_v.l.length:Int) a_v y2) λy21=>some (y21)) (cal (zgm a_v) λy23=>cal (zay a_p ([y23]:(List Str))) λy25=>some (y25))))))
def zde (zK:Int->zah->zg->Val->Option (Bool × zah)) (zQ:zah->Int->Val->Option (zah)) (zR:zah->Int->zg->Val->Option (zah)) (zJ:zah->Int->Val->zg->Option (zah)) (zI:Int->Val->zah->zg->Option (Bool × zah)) (a_p:zah) (a_n_:Int) (zT:zg) (zy:Val):Option (zah) :=
 lp (ι:=Bool × Int × zah) (λL3 q2=>br (decide (q2.2.1 < a_n_)) (jp (ι:=Bool × zah) (λJ19=>jp (ι:=zah) (λJ21=>br q2.1 (cal (zay q2.2.2 ([(Str.mk [123,32])]:(List Str))) λy23=>J21 (y23)) (cal (zay q2.2.2 ([(Str.mk [44,32])]:(List Str))) λy26=>J21 (y26))) (λq20=>cal (zK q2.2.1 q20 zT zy) λy28=>br y28.1 (J19 (false,y28.2)) (asr (decide (0 <= ((q2.2.2.b.length:Nat):Int)/\((q2.2.2.b.length:Nat):Int) <= (y28.2.b.length:Int))) <| J19 (q2.1,(zah.mk y28.2.t (y28.2.b.take (((q2.2.2.b.length:Nat):Int)).toNat)))))) (λq18=>ck ((q2.2.1 + (1:Int))) <| L3 (q18.1,(q2.2.1 + (1:Int)),q18.2))) (br q2.1 (cal (zay q2.2.2 ([(Str.mk [123,125])]:(List Str))) λy33=>some (y33)) (cal (zay q2.2.2 ([(Str.mk [32,125])]:(List Str))) λy36=>some (y36)))) ((true,(0:Int),a_p))
def zcX (zK:Int->zah->zg->Val->Option (Bool × zah)) (zQ:zah->Int->Val->Option (zah)) (zR:zah->Int->zg->Val->Option (zah)) (zJ:zah->Int->Val->zg->Option (zah)) (zI:Int->Val->zah->zg->Option (Bool × zah)) (a_p:zah) (a_n_:Int) (zcB:Val) (zy:zg):Option (zah) :=
 lp (ι:=Bool × Int × zah) (λL3 q2=>br (decide (q2.2.1 < a_n_)) (jp (ι:=Bool × zah) (λJ19=>jp (ι:=zah) (λJ21=>br q2.1 (cal (zay q2.2.2 ([(Str.mk [123,32])]:(List Str))) λy23=>J21 (y23)) (cal (zay q2.2.2 ([(Str.mk [44,32])]:(List Str))) λy26=>J21 (y26))) (λq20=>cal (zI q2.2.1 zcB q20 zy) λy28=>br y28.1 (J19 (false,y28.2)) (asr (decide (0 <= ((q2.2.2.b.length:Nat):Int)/\((q2.2.2.b.length:Nat):Int) <= (y28.2.b.length:Int))) <| J19 (q2.1,(zah.mk y28.2.t (y28.2.b.take (((q2.2.2.b.length:Nat):Int)).toNat)))))) (λq18=>ck ((q2.2.1 + (1:Int))) <| L3 (q18.1,(q2.2.1 + (1:Int)),q18.2))) (br q2.1 (cal (zay q2.2.2 ([(Str.mk [123,125])]:(List Str))) λy33=>some (y33)) (cal (zay q2.2.2 ([(Str.mk [32,125])]:(List Str))) λy36=>some (y36)))) ((true,(0:Int),a_p))
def zco (zK:Int->zah->zg->Val->Option (Bool × zah)) (zQ:zah->Int->Val->Option (zah)) (zR:zah->Int->zg->Val->Option (zah)) (zJ:zah->Int->Val->zg->Option (zah)) (zI:Int->Val->zah->zg->Option (Bool × zah)) (a_k:Int) (a_a1:Val) (a_a2:zah) (a_a3:zg):Option (Bool × zah) :=
 cal (zs a_a1.l a_k) λy2=>cal (zeS y2) λy3=>br y3 (some (false,a_a2)) (cal (zs a_a3.fields a_k) λy4=>cal (zay a_a2 ([y4.name,(Str.mk [32])]:(List Str))) λy6=>cal (zs a_a3.fields a_k) λy8=>cal (zs a_a1.l a_k) λy9=>cal (zQ y6 y8.ty y9) λy10=>some (true,y10))
def zca:Nat->(Int->zah->zg->Val->Option (Bool × zah)) × (zah->Int->Val->Option (zah)) × (zah->Int->zg->Val->Option (zah)) × (zah->Int->Val->zg->Option (zah)) × (Int->Val->zah->zg->Option (Bool × zah))
 | 0=>(λ_ _ _ _=>none,λ_ _ _=>none,λ_ _ _ _=>none,λ_ _ _ _=>none,λ_ _ _ _=>none)
 | n + 1=>let p:=zca n;(zcW p.1 p.2.1 p.2.2.1 p.2.2.2.1 p.2.2.2.2,zdD p.1 p.2.1 p.2.2.1 p.2.2.2.1 p.2.2.2.2,zde p.1 p.2.1 p.2.2.1 p.2.2.2.1 p.2.2.2.2,zcX p.1 p.2.1 p.2.2.1 p.2.2.2.1 p.2.2.2.2,zco p.1 p.2.1 p.2.2.1 p.2.2.2.1 p.2.2.2.2)
def zaX (n:Nat):Int->zah->zg->Val->Option (Bool × zah):=(zca n).1
def zaP (n:Nat):zah->Int->Val->Option (zah):=(zca n).2.1
def zbc (n:Nat):zah->Int->zg->Val->Option (zah):=(zca n).2.2.1
def zaL (n:Nat):zah->Int->Val->zg->Option (zah):=(zca n).2.2.2.1
def zaW (n:Nat):Int->Val->zah->zg->Option (Bool × zah):=(zca n).2.2.2.2

def zew (a_t:zab) (a_i:Int) (a_v:Val):Option (Str × Int) :=
 cal (zeZ a_t a_i a_v) λy1=>br (!y1) (some ((Str.mk []),(13:Int))) (cal (zdP fuel a_v) λy2=>br (!y2) (some ((Str.mk []),(16:Int))) (cal (zaP fuel (zah.mk a_t ([]:(List UInt8))) a_i a_v) λy5=>br (decide ((8000:Int) < ((y5.b.length:Nat):Int))) (some ((Str.mk []),(5:Int))) (some ((Str.mk y5.b),(0:Int)))))
theorem tx {β:Type} {o:Option β} {x:β} (h:T (λr=>r=x) o):o=some x:=by
 obtain ⟨r,h1,h2⟩:=h;rw [h1,h2]
def hd:List UInt8->UInt8
 | []=>0
 | c :: _=>c
theorem zyb (b:List UInt8) (n:Nat):hd (b.drop n)=(b[n]?).getD 0:=by
 rcases Nat.lt_or_ge n b.length with h | h
 ·rw [List.drop_eq_getElem_cons h,List.getElem?_eq_getElem h];rfl
 ·rw [zDn h,List.getElem?_eq_none h];rfl
theorem zgH {b:List UInt8} {n:Nat} {y:UInt8} (h:b[n]?=some y):b.drop n=y :: b.drop (n + 1):=by
 obtain ⟨h1,h2⟩:=List.getElem?_eq_some_iff.1 h
 rw [List.drop_eq_getElem_cons h1,h2]
theorem znu (s:Str) (i:Int) (h:0 <= i):zgy s i=some (hd (s.b.drop i.toNat)):=by
 obtain ⟨r,h1,h2⟩:=zj2 s i
 rw [h1,h2,if_pos h,zyb]

/-! ### White -/
inductive Wst where
 | out
 | start
 | ins
 | fin
def zm3 (c:UInt8):Bool:=decide (c=32) || decide (c=9) || decide (c=10) || decide (c=13)
def wh:Wst->List UInt8->List UInt8
 | _,[]=>[]
 | .out,c :: r=>bif zm3 c then wh .out r else bif decide (c=45) && decide (hd r=45) then wh .start r else c :: r
 | .start,_ :: r=>wh .ins r
 | .ins,c :: r=>bif decide (c=10) then wh .out r else bif decide (c=45) && decide (hd r=45) then wh .fin r else wh .ins r
 | .fin,_ :: r=>wh .out r
theorem zp2 {b:List UInt8} {n:Nat} (h:hd (b.drop n)=45):n < b.length:=by
 rcases Nat.lt_or_ge n b.length with h2 | h2
 ·exact h2
 ·rw [zDn h2] at h;cases h
theorem ziG {b:List UInt8} {n:Nat} (h:n < b.length):∃ c,b.drop n=c :: b.drop (n + 1):=⟨_,List.drop_eq_getElem_cons h⟩
theorem zxh (s:Str) (i:Int) (h0:0 <= i) (h1:i <= s.b.length) (hl:s.b.length <= 1000000):zhb s i=some ((s.b.length:Int) - ((wh .out (s.b.drop i.toNat)).length:Int)):=by
 refine tx ?_
 unfold zhb
 refine T.lp (λk=>i <= k/\k <= s.b.length/\wh .out (s.b.drop k.toNat)=wh .out (s.b.drop i.toNat)) (λk=>(s.b.length - k).toNat) ⟨zIl _,h1,rfl⟩ (by omega) λL k ⟨k1,k2,k3⟩ hL=>?_
 rw [<- k3] at hL ⊢
 refine T.br (λhb=>?_) (λhb=>T.some ?_)
 rotate_left
 ·have hb:=zOF hb
  rw [zDn (by omega)]
  simp only [wh,zLn];omega
 have hb:=zOT hb
 refine T.get (by omega) hb λy hy=>?_
 have e:=zgH hy
 have e1:(k + 1).toNat=k.toNat + 1:=by omega
 refine T.jp (λq=>q=(decide (y=32) || decide (y=9))) (λJ h=>T.br (λh2=>h _ (by rw [h2];rfl)) λh2=>T.get (by omega) hb λy' hy'=>h _ (by rw [hy] at hy';cases hy';rw [h2];rfl)) λq hq=>?_
 refine T.jp (λq'=>q'=(q || decide (y=10))) (λJ h=>T.br (λh2=>h _ (by rw [h2];rfl)) λh2=>T.get (by omega) hb λy' hy'=>h _ (by rw [hy] at hy';cases hy';rw [h2];rfl)) λq' hq'=>?_
 refine T.jp (λq2=>q2=(q' || decide (y=13))) (λJ h=>T.br (λh2=>h _ (by rw [h2];rfl)) λh2=>T.get (by omega) hb λy' hy'=>h _ (by rw [hy] at hy';cases hy';rw [h2];rfl)) λq2 hq2=>?_
 have hw:q2=zm3 y:=by rw [hq2,hq',hq];rfl
 refine T.br (λh2=>T.ck (by omega) ?_) λh2=>?_
 ·refine hL _ ⟨by omega,by omega,?_⟩ (by omega)
  rw [e1,e];simp only [wh,<- hw,h2,zCt]
 refine T.get (by omega) hb λy' hy'=>?_
 rw [hy] at hy';cases hy'
 refine T.jp (λq=>q=(decide (y=45) && decide (hd (s.b.drop (k.toNat + 1))=45))) (λJ h=>T.br (λh3=>T.ck (by omega) (T.eq (znu s _ (by omega)) (h _ (by rw [h3,e1];rfl)))) λh3=>h _ (by rw [h3];rfl)) λq3 hq3=>?_
 refine T.br (λh3=>T.ck (by omega) ?_) (λh3=>T.some ?_)
 rotate_left
 ·rw [e];simp only [wh,<- hw,h2,zCf,<- hq3,h3,zLc,zLd];omega
 have h45:hd (s.b.drop (k.toNat + 1))=45:=by rw [hq3] at h3;simpa using (Bool.and_eq_true_iff.1 h3).2
 have hlt:=zp2 h45
 obtain ⟨c,ec⟩:=ziG hlt
 have e2:(k + 2).toNat=k.toNat + 1 + 1:=by omega
 have hins:wh .out (s.b.drop k.toNat)=wh .ins (s.b.drop (k + 2).toNat):=by
  rw [e,e2];simp only [wh,<- hw,h2,zCf,<- hq3,h3,zCt];rw [ec];simp only [wh]
 refine T.lp (λj=>k + 2 <= j/\j <= s.b.length/\wh .out (s.b.drop k.toNat)=wh .ins (s.b.drop j.toNat)) (λj=>(s.b.length - j).toNat) ⟨zIl _,by omega,hins⟩ (by omega) λL2 j ⟨j1,j2,j3⟩ hL2=>?_
 refine T.jp (λq=>(q=true->j < s.b.length/\∀ y,s.b[j.toNat]?=some y->y ≠ 10)/\(q=false->wh .out (s.b.drop j.toNat)=wh .ins (s.b.drop j.toNat))) (λJ h=>T.br (λh4=>?_) λh4=>h _ ⟨(λh=>by cases h),λ_=>?_⟩) λq hq=>?_
 ·have h4:=zOT h4
  refine T.get (by omega) h4 λy2 hy2=>h _ ⟨λh5=>⟨h4,λy3 hy3=>?_⟩,λh5=>?_⟩
  ·rw [hy2] at hy3;cases hy3;simpa using h5
  ·have h6:y2=10:=by simpa using h5
   subst h6
   rw [zgH hy2]
   simp [wh,zm3]
 ·have h4:=zOF h4
  rw [zDn (by omega)];simp only [wh]
 refine T.br (λh4=>?_) (λh4=>hL _ ⟨by omega,j2,by rw [hq.2 h4,j3]⟩ (by omega))
 obtain ⟨hj,hne⟩:=hq.1 h4
 refine T.get (by omega) hj λy2 hy2=>?_
 have hy10:=hne y2 hy2
 have f:=zgH hy2
 have f1:(j + 1).toNat=j.toNat + 1:=by omega
 refine T.jp (λq=>q=(decide (y2=45) && decide (hd (s.b.drop (j.toNat + 1))=45))) (λJ h=>T.br (λh3=>T.ck (by omega) (T.eq (znu s _ (by omega)) (h _ (by rw [h3,f1];rfl)))) λh3=>h _ (by rw [h3];rfl)) λq4 hq4=>?_
 refine T.br (λh5=>T.ck (by omega) ?_) (λh5=>T.ck (by omega) (hL2 _ ⟨by omega,by omega,?_⟩ (by omega)))
 ·have h46:hd (s.b.drop (j.toNat + 1))=45:=by rw [hq4] at h5;simpa using (Bool.and_eq_true_iff.1 h5).2
  have hlt2:=zp2 h46
  obtain ⟨c2,ec2⟩:=ziG hlt2
  have f2:(j + 2).toNat=j.toNat + 1 + 1:=by omega
  refine hL _ ⟨by omega,by omega,?_⟩ (by omega)
  rw [j3,f,f2];simp only [wh,zDF hy10,zCf,<- hq4,h5,zCt];rw [ec2];simp only [wh]
 ·rw [j3,f,f1];simp only [wh,zDF hy10,zCf,<- hq4,h5]

/-! ### Names -/
def zcn (c:UInt8) (r:List UInt8):Bool:=zaF c || zaq c || (decide (c=45) && !decide (hd r=45))
def nm:List UInt8->Nat
 | []=>0
 | c :: r=>bif zcn c r then nm r + 1 else 0
theorem zny (c:UInt8) (r:List UInt8):nm (c :: r)=bif zcn c r then nm r + 1 else 0:=rfl
theorem zpF:∀ b:List UInt8,nm b <= b.length
 | []=>zNl _
 | c :: r=>by
  have:=zpF r
  unfold nm
  cases zcn c r <;> simp <;> omega
def zgK (b:List UInt8):Bool:=decide ((b.take (nm b)).getLast?=some 45) || decide (60 < nm b)
theorem zuJ {b:List UInt8} {n:Nat} {y:UInt8} (hn:0 < n) (hy:b[n - 1]?=some y):(b.take n).getLast?=some y:=by
 have hlt:=(List.getElem?_eq_some_iff.1 hy).1
 rw [List.getLast?_eq_getElem?,zLt,List.getElem?_take,Nat.min_eq_left (by omega),if_pos (by omega),hy]
theorem zyP (s:Str) (i:Int) (h0:0 <= i) (h1:i < s.b.length) (hl:s.b.length <= 1000000) (hc:zaF (hd (s.b.drop i.toNat))=true) :
    ziy s i=some (bif zgK (s.b.drop i.toNat) then -1 else i + nm (s.b.drop i.toNat)):=by
  refine tx ?_
  unfold ziy
  have hi0:0 < nm (s.b.drop i.toNat):=by
    obtain ⟨c,ec⟩:=ziG (b:=s.b) (n:=i.toNat) (by omega)
    rw [ec] at hc ⊢
    unfold nm zcn
    simp only [hd] at hc
    rw [hc];simp
  refine T.lp (λk=>i <= k/\k <= s.b.length/\(nm (s.b.drop i.toNat):Int)=k - i + nm (s.b.drop k.toNat)) (λk=>(s.b.length - k).toNat) ⟨zIl _,by omega,by omega⟩ (by omega) λL k ⟨k1,k2,k3⟩ hL=>?_
  refine T.jp (λq=>(q=true->k < s.b.length/\(nm (s.b.drop i.toNat):Int)=k + 1 - i + nm (s.b.drop (k + 1).toNat))/\(q=false->(nm (s.b.drop i.toNat):Int)=k - i)) (λJ h=>?_) λq hq=>?_
  · refine T.br (λhb=>?_) (λhb=>h _ ⟨(λh=>by cases h),λ_=>by
      have:=zOF hb
      rw [zDn (as:=s.b) (i:=k.toNat) (by omega)] at k3
      simpa [nm] using k3⟩)
    have hb:=zOT hb
    refine T.get (by omega) hb λy hy=>?_
    have e:=zgH hy
    have e1:(k + 1).toNat=k.toNat + 1:=by omega
    refine T.eq (zhM y) ?_
    refine T.jp (λq=>q=(zaF y || zaq y)) (λJ2 h2=>T.br (λh3=>h2 _ (by rw [h3];rfl)) λh3=>T.get (by omega) hb λy2 hy2=>T.eq (zfQ y2) (h2 _ (by rw [hy] at hy2;cases hy2;rw [h3];rfl))) λq hq=>?_
    refine T.jp (λq2=>q2=zcn y (s.b.drop (k.toNat + 1))) (λJ2 h2=>T.br (λh3=>h2 _ (by unfold zcn;rw [<- hq,h3];rfl)) λh3=>T.get (by omega) hb λy2 hy2=>?_) λq2 hq2=>?_
    · rw [hy] at hy2;cases hy2
      refine T.jp (λq3=>q3=(decide (y=45) && !decide (hd (s.b.drop (k.toNat + 1))=45))) (λJ3 h4=>T.br (λh5=>T.ck (by omega) (T.eq (znu s _ (by omega)) (h4 _ (by rw [h5,e1];rfl)))) λh5=>h4 _ (by rw [h5];rfl)) λq3 hq3=>h2 _ ?_
      unfold zcn;rw [<- hq,h3,hq3];rfl
    · rw [e,zny] at k3
      refine h _ ⟨λh3=>⟨hb,?_⟩,λh3=>?_⟩
      · rw [<- hq2,h3,zCt] at k3
        rw [e1];omega
      · rw [<- hq2,h3,zCf] at k3
        omega
  refine T.br (λhb=>T.ck (by have:=hq.1 hb;omega) (hL _ ⟨by omega,by have:=hq.1 hb;omega,(hq.1 hb).2⟩ (by have:=hq.1 hb;omega))) λhb=>?_
  have hn:=hq.2 hb
  refine T.ck (by omega) (T.get (by omega) (by omega) λy hy=>?_)
  have hlast:((s.b.drop i.toNat).take (nm (s.b.drop i.toNat))).getLast?=some y:=by
    refine zuJ hi0 ?_
    rw [List.getElem?_drop]
    have:i.toNat + (nm (s.b.drop i.toNat) - 1)=(k - 1).toNat:=by omega
    rw [this,hy]
  refine T.jp (λq=>q=zgK (s.b.drop i.toNat)) (λJ h=>T.br (λh3=>h _ ?_) λh3=>T.ck (by omega) (h _ ?_)) λq hq=>?_
  · unfold zgK
    rw [hlast]
    have:=zOT h3
    subst this;rfl
  · unfold zgK
    rw [hlast]
    have:=zOF h3
    have e:decide (some y=some (45:UInt8))=false:=by simpa using this
    rw [e,Bool.false_or,decide_eq_decide]
    omega
  · rw [<- hq]
    exact T.br (λh3=>T.some (by rw [h3];rfl)) λh3=>T.some (by rw [h3,zCf];omega)
end Go.Proofs.Q
