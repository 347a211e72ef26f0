/- Walks, printed by mill.py and grow.py. -/
import Derived.Test.YthafpblconbjkaaGreatDoorPqM
set_option linter.unusedVariables false
set_option linter.unusedSimpArgs false
set_option maxRecDepth 4000
set_option maxHeartbeats 4000000
namespace Go.Proofs.Q
open Go.Sy
section
attribute [local irreducible] isv zbn zal zbK zbw zem zeI zgQ zf1 zdV zdI zcO zj zO zI cal br ck asr jp lp zq

abbrev zbt (a_w_:Val) (a_a1:zy) (a_a2:zg) (a_a3:Int):AC (Bool × zy):=.b λzgt=>.mk [isv a_w_,zbn (zfY.mk zgt),zbn (a_a2),zbn (a_a3)] [zj zgt (a_a1:zy)] λr=>.mk [isv r.1] [zj zgt (r.2)]
abbrev zbH (a_c:zy) (a_i:Int) (a_v:Val) (za:Int):AC (Bool × zy):=.b λzcD=>.mk [zal zcD (Fld.id zy),isv a_i,isv a_v,isv za] [zj zcD (a_c:zy)] λr=>.mk [isv r.1] [zj zcD (r.2)]
abbrev zcc (a_c:zy) (a_x:zg) (a_v:Val) (za:Int):AC (Bool × zy):=.b λzcD=>.mk [zal zcD (Fld.id zy),isv a_x,isv a_v,isv za] [zj zcD (a_c:zy)] λr=>.mk [isv r.1] [zj zcD (r.2)]
abbrev zaf (a_s:(List Val)) (za9:zy) (zbd:zg) (zbE:Int):AC (Bool × zy):=.b λzdY=>.mk [isv a_s,zdV 156 [zbn (zfY.mk zdY),zbn (zbd),zbn (zbE)]] [zj zdY (za9:zy)] λr=>.mk [isv r.1] [zj zdY (r.2)]
abbrev zap (a_s:(List Val)) (za9:zy) (zbd:zg) (zbE:Int):AC (Int × zy):=.b λzdY=>.mk [isv a_s,zdV 156 [zbn (zfY.mk zdY),zbn (zbd),zbn (zbE)]] [zj zdY (za9:zy)] λr=>.mk [isv r.1] [zj zdY (r.2)]
abbrev zbD (a_c:zy) (a_i:Int) (a_v:Val) (za:Int):AC (Bool × zy):=.b λzcD=>.mk [zal zcD (Fld.id zy),isv a_i,isv a_v,isv za] [zj zcD (a_c:zy)] λr=>.mk [isv r.1] [zj zcD (r.2)]
theorem zjb {zt:Val->zy->zg->Int->Option (Bool × zy)} {zC:zy->Int->Val->Int->Option (Bool × zy)} {zF:zy->zg->Val->Int->Option (Bool × zy)} {ze:(List Val)->zy->zg->Int->Option (Bool × zy)} {zf:(List Val)->zy->zg->Int->Option (Int × zy)} {zu:zy->Int->Val->Int->Option (Bool × zy)} [∀ a_w_ a_a1 a_a2 a_a3,zd Tryz.prog 156 (zt a_w_ a_a1 a_a2 a_a3) (zbt a_w_ a_a1 a_a2 a_a3)] [∀ a_c a_i a_v za,zd Tryz.prog 54 (zC a_c a_i a_v za) (zbH a_c a_i a_v za)] [∀ a_c a_x a_v za,zd Tryz.prog 111 (zF a_c a_x a_v za) (zcc a_c a_x a_v za)] [∀ a_s za9 zbd zbE,zd Tryz.prog 66 (ze a_s za9 zbd zbE) (zaf a_s za9 zbd zbE)] [∀ a_s za9 zbd zbE,zd Tryz.prog 122 (zf a_s za9 zbd zbE) (zap a_s za9 zbd zbE)] [∀ a_c a_i a_v za,zd Tryz.prog 112 (zu a_c a_i a_v za) (zbD a_c a_i a_v za)] a_w_ a_a1 a_a2 a_a3:zd Tryz.prog 156 (zb0 zt zC zF ze zf zu a_w_ a_a1 a_a2 a_a3) (zbt a_w_ a_a1 a_a2 a_a3):=by
 unfold zb0
 exact W .a Tryz.func156 e
theorem zkt {zt:Val->zy->zg->Int->Option (Bool × zy)} {zC:zy->Int->Val->Int->Option (Bool × zy)} {zF:zy->zg->Val->Int->Option (Bool × zy)} {ze:(List Val)->zy->zg->Int->Option (Bool × zy)} {zf:(List Val)->zy->zg->Int->Option (Int × zy)} {zu:zy->Int->Val->Int->Option (Bool × zy)} [∀ a_w_ a_a1 a_a2 a_a3,zd Tryz.prog 156 (zt a_w_ a_a1 a_a2 a_a3) (zbt a_w_ a_a1 a_a2 a_a3)] [∀ a_c a_i a_v za,zd Tryz.prog 54 (zC a_c a_i a_v za) (zbH a_c a_i a_v za)] [∀ a_c a_x a_v za,zd Tryz.prog 111 (zF a_c a_x a_v za) (zcc a_c a_x a_v za)] [∀ a_s za9 zbd zbE,zd Tryz.prog 66 (ze a_s za9 zbd zbE) (zaf a_s za9 zbd zbE)] [∀ a_s za9 zbd zbE,zd Tryz.prog 122 (zf a_s za9 zbd zbE) (zap a_s za9 zbd zbE)] [∀ a_c a_i a_v za,zd Tryz.prog 112 (zu a_c a_i a_v za) (zbD a_c a_i a_v za)] a_c a_i a_v za:zd Tryz.prog 54 (zbF zt zC zF ze zf zu a_c a_i a_v za) (zbH a_c a_i a_v za):=by
 unfold zbF
 exact W (.o 4 22 (.o 0 26 (.b .a (.b .a (.b .a (.b (.o 1 63 .a (.b (.o 2 62 .a .a) .a)) (.b (.o 1 79 .a (.b (.o 2 78 .a .a) .a)) (.b (.o 1 90 .a .a) (.b .a (.w [95] (.b .a (.b .a (.b (.d 68719476738 (.o 32 117 (.o 24 125 (.o 18 131 (.j 1 (.b 0 λzcD=>.m [true] (.v (λq45:Bool × zy=>[(148,isv q45.1)]) λq45=>[zj zcD (q45.2:zy)])) .a .a) .a) .a) .a)) (.w [149] .a .a)))) .a)))))))) .a) .a) Tryz.func54 e
theorem zky {zt:Val->zy->zg->Int->Option (Bool × zy)} {zC:zy->Int->Val->Int->Option (Bool × zy)} {zF:zy->zg->Val->Int->Option (Bool × zy)} {ze:(List Val)->zy->zg->Int->Option (Bool × zy)} {zf:(List Val)->zy->zg->Int->Option (Int × zy)} {zu:zy->Int->Val->Int->Option (Bool × zy)} [∀ a_w_ a_a1 a_a2 a_a3,zd Tryz.prog 156 (zt a_w_ a_a1 a_a2 a_a3) (zbt a_w_ a_a1 a_a2 a_a3)] [∀ a_c a_i a_v za,zd Tryz.prog 54 (zC a_c a_i a_v za) (zbH a_c a_i a_v za)] [∀ a_c a_x a_v za,zd Tryz.prog 111 (zF a_c a_x a_v za) (zcc a_c a_x a_v za)] [∀ a_s za9 zbd zbE,zd Tryz.prog 66 (ze a_s za9 zbd zbE) (zaf a_s za9 zbd zbE)] [∀ a_s za9 zbd zbE,zd Tryz.prog 122 (zf a_s za9 zbd zbE) (zap a_s za9 zbd zbE)] [∀ a_c a_i a_v za,zd Tryz.prog 112 (zu a_c a_i a_v za) (zbD a_c a_i a_v za)] a_c a_x a_v za:zd Tryz.prog 111 (zcA zt zC zF ze zf zu a_c a_x a_v za) (zcc a_c a_x a_v za):=by
 unfold zcA
 exact W (.o 8 23 (.j 1 (.b 0 λzcD=>.m [true] (.v (λq9:Bool × zy=>[(30,isv q9.1)]) λq9=>[zj zcD (q9.2:zy)])) .a .a) (.b (.o 9 22 .a .a) .a)) Tryz.func111 e
theorem zeY {zt:Val->zy->zg->Int->Option (Bool × zy)} {zC:zy->Int->Val->Int->Option (Bool × zy)} {zF:zy->zg->Val->Int->Option (Bool × zy)} {ze:(List Val)->zy->zg->Int->Option (Bool × zy)} {zf:(List Val)->zy->zg->Int->Option (Int × zy)} {zu:zy->Int->Val->Int->Option (Bool × zy)} [∀ a_w_ a_a1 a_a2 a_a3,zd Tryz.prog 156 (zt a_w_ a_a1 a_a2 a_a3) (zbt a_w_ a_a1 a_a2 a_a3)] [∀ a_c a_i a_v za,zd Tryz.prog 54 (zC a_c a_i a_v za) (zbH a_c a_i a_v za)] [∀ a_c a_x a_v za,zd Tryz.prog 111 (zF a_c a_x a_v za) (zcc a_c a_x a_v za)] [∀ a_s za9 zbd zbE,zd Tryz.prog 66 (ze a_s za9 zbd zbE) (zaf a_s za9 zbd zbE)] [∀ a_s za9 zbd zbE,zd Tryz.prog 122 (zf a_s za9 zbd zbE) (zap a_s za9 zbd zbE)] [∀ a_c a_i a_v za,zd Tryz.prog 112 (zu a_c a_i a_v za) (zbD a_c a_i a_v za)] a_s za9 zbd zbE:zd Tryz.prog 66 (zar zt zC zF ze zf zu a_s za9 zbd zbE) (zaf a_s za9 zbd zbE):=by
 unfold zar
 exact W .a Tryz.func66 e
theorem zfn {zt:Val->zy->zg->Int->Option (Bool × zy)} {zC:zy->Int->Val->Int->Option (Bool × zy)} {zF:zy->zg->Val->Int->Option (Bool × zy)} {ze:(List Val)->zy->zg->Int->Option (Bool × zy)} {zf:(List Val)->zy->zg->Int->Option (Int × zy)} {zu:zy->Int->Val->Int->Option (Bool × zy)} [∀ a_w_ a_a1 a_a2 a_a3,zd Tryz.prog 156 (zt a_w_ a_a1 a_a2 a_a3) (zbt a_w_ a_a1 a_a2 a_a3)] [∀ a_c a_i a_v za,zd Tryz.prog 54 (zC a_c a_i a_v za) (zbH a_c a_i a_v za)] [∀ a_c a_x a_v za,zd Tryz.prog 111 (zF a_c a_x a_v za) (zcc a_c a_x a_v za)] [∀ a_s za9 zbd zbE,zd Tryz.prog 66 (ze a_s za9 zbd zbE) (zaf a_s za9 zbd zbE)] [∀ a_s za9 zbd zbE,zd Tryz.prog 122 (zf a_s za9 zbd zbE) (zap a_s za9 zbd zbE)] [∀ a_c a_i a_v za,zd Tryz.prog 112 (zu a_c a_i a_v za) (zbD a_c a_i a_v za)] a_s za9 zbd zbE:zd Tryz.prog 122 (zav zt zC zF ze zf zu a_s za9 zbd zbE) (zap a_s za9 zbd zbE):=by
 unfold zav
 exact W (.k (.b 0 λzdY=>.m [true] (.v (λq1:Int × zy=>[(8,isv q1.1)]) λq1=>[zj zdY (q1.2:zy)])) .a) Tryz.func122 e
theorem zjj {zt:Val->zy->zg->Int->Option (Bool × zy)} {zC:zy->Int->Val->Int->Option (Bool × zy)} {zF:zy->zg->Val->Int->Option (Bool × zy)} {ze:(List Val)->zy->zg->Int->Option (Bool × zy)} {zf:(List Val)->zy->zg->Int->Option (Int × zy)} {zu:zy->Int->Val->Int->Option (Bool × zy)} [∀ a_w_ a_a1 a_a2 a_a3,zd Tryz.prog 156 (zt a_w_ a_a1 a_a2 a_a3) (zbt a_w_ a_a1 a_a2 a_a3)] [∀ a_c a_i a_v za,zd Tryz.prog 54 (zC a_c a_i a_v za) (zbH a_c a_i a_v za)] [∀ a_c a_x a_v za,zd Tryz.prog 111 (zF a_c a_x a_v za) (zcc a_c a_x a_v za)] [∀ a_s za9 zbd zbE,zd Tryz.prog 66 (ze a_s za9 zbd zbE) (zaf a_s za9 zbd zbE)] [∀ a_s za9 zbd zbE,zd Tryz.prog 122 (zf a_s za9 zbd zbE) (zap a_s za9 zbd zbE)] [∀ a_c a_i a_v za,zd Tryz.prog 112 (zu a_c a_i a_v za) (zbD a_c a_i a_v za)] a_c a_i a_v za:zd Tryz.prog 112 (zch zt zC zF ze zf zu a_c a_i a_v za) (zbD a_c a_i a_v za):=by
 unfold zch
 exact W (.o 7 33 (.j 0 (.b 0 λzcD=>.m [true] (.v (λq7:Bool × zy=>[(40,isv q7.1)]) λq7=>[zj zcD (q7.2:zy)])) (.b .a (.k (.b 0 λzcD=>.m [true] (.v (λq11:Int × zy=>[(44,isv q11.1)]) λq11=>[zj zcD (q11.2:zy)])) (.b (.w [] (.j 0 (.b 0 λzcD=>.m [true] (.v (λq35:zy=>[]) λq35=>[zj zcD (q35:zy)])) .a (.b (.o 0 66 .a .a) (.o 1 85 .a (.b .a (.o 2 84 .a .a))))) .a) .a))) .a) .a) Tryz.func112 e
theorem zfv:∀ n,(∀ a_w_ a_a1 a_a2 a_a3,zd Tryz.prog 156 (zY n a_w_ a_a1 a_a2 a_a3) (zbt a_w_ a_a1 a_a2 a_a3))/\(∀ a_c a_i a_v za,zd Tryz.prog 54 (zW n a_c a_i a_v za) (zbH a_c a_i a_v za))/\(∀ a_c a_x a_v za,zd Tryz.prog 111 (zam n a_c a_x a_v za) (zcc a_c a_x a_v za))/\(∀ a_s za9 zbd zbE,zd Tryz.prog 66 (zk n a_s za9 zbd zbE) (zaf a_s za9 zbd zbE))/\(∀ a_s za9 zbd zbE,zd Tryz.prog 122 (zo n a_s za9 zbd zbE) (zap a_s za9 zbd zbE))/\(∀ a_c a_i a_v za,zd Tryz.prog 112 (zac n a_c a_i a_v za) (zbD a_c a_i a_v za))
 | 0=>⟨λ_ _ _ _=>⟨λr h=>by cases h⟩,λ_ _ _ _=>⟨λr h=>by cases h⟩,λ_ _ _ _=>⟨λr h=>by cases h⟩,λ_ _ _ _=>⟨λr h=>by cases h⟩,λ_ _ _ _=>⟨λr h=>by cases h⟩,λ_ _ _ _=>⟨λr h=>by cases h⟩⟩
 | n + 1=>by
  obtain ⟨h0,h1,h2,h3,h4,h5⟩:=zfv n
  exact ⟨λa_w_ a_a1 a_a2 a_a3=>zjb (zt:=zY n) (zC:=zW n) (zF:=zam n) (ze:=zk n) (zf:=zo n) (zu:=zac n) a_w_ a_a1 a_a2 a_a3,λa_c a_i a_v za=>zkt (zt:=zY n) (zC:=zW n) (zF:=zam n) (ze:=zk n) (zf:=zo n) (zu:=zac n) a_c a_i a_v za,λa_c a_x a_v za=>zky (zt:=zY n) (zC:=zW n) (zF:=zam n) (ze:=zk n) (zf:=zo n) (zu:=zac n) a_c a_x a_v za,λa_s za9 zbd zbE=>zeY (zt:=zY n) (zC:=zW n) (zF:=zam n) (ze:=zk n) (zf:=zo n) (zu:=zac n) a_s za9 zbd zbE,λa_s za9 zbd zbE=>zfn (zt:=zY n) (zC:=zW n) (zF:=zam n) (ze:=zk n) (zf:=zo n) (zu:=zac n) a_s za9 zbd zbE,λa_c a_i a_v za=>zjj (zt:=zY n) (zC:=zW n) (zF:=zam n) (ze:=zk n) (zf:=zo n) (zu:=zac n) a_c a_i a_v za⟩
instance value_checker_fits_g n a_c a_i a_v za:zd Tryz.prog 54 (zW n a_c a_i a_v za) (zbH a_c a_i a_v za):=(zfv n).2.1 a_c a_i a_v za
end
section
attribute [local irreducible] isv zbn zal zbK zbw zem zeI zgQ zf1 zdV zdI zcO zj zO zI cal br ck asr jp lp zq

abbrev zhF (a_v:Val):AC (Int):=.mk [isv a_v] [] λr=>.mk [isv r] []
theorem zox {zgY:Val->Option (Int)} [∀ a_v,zd Tryz.prog 55 (zgY a_v) (zhF a_v)] a_v:zd Tryz.prog 55 (zgl zgY a_v) (zhF a_v):=by
 unfold zgl
 exact W (.l [3,9] .a) Tryz.func55 e
theorem zi0:∀ n,(∀ a_v,zd Tryz.prog 55 (zgL n a_v) (zhF a_v))
 | 0=>λ_=>⟨λr h=>by cases h⟩
 | n + 1=>by
  have:=zi0 n
  exact λa_v=>zox (zgY:=zgL n) a_v
instance value_Count_g n a_v:zd Tryz.prog 55 (zgL n a_v) (zhF a_v):=(zi0 n) a_v

instance value_Fits_g a_t a_i a_v:zd Tryz.prog 21 (zea a_t a_i a_v) (.mk [isv a_t,isv a_i,isv a_v] [] λr=>.mk [isv r] []):=by
 unfold zea
 exact W (.q 0 (.q 0 (.q 0 (.q 0 (.q 1 (.o 1 20 .a .a)))))) Tryz.func21 e

abbrev zes (a_w_:Val):AC (Bool):=.mk [isv a_w_] [] λr=>.mk [isv r] []
abbrev ze4 (a_v:Val):AC (Bool):=.mk [isv a_v] [] λr=>.mk [isv r] []
abbrev zax (a_s:(List Val)):AC (Bool):=.mk [isv a_s,zdV 67 []] [] λr=>.mk [isv r] []
abbrev zaG (a_s:(List Val)):AC (Int):=.mk [isv a_s,zdV 67 []] [] λr=>.mk [isv r] []
theorem zmQ {zaQ:Val->Option (Bool)} {zbs:Val->Option (Bool)} {zi:(List Val)->Option (Bool)} {zm:(List Val)->Option (Int)} [∀ a_w_,zd Tryz.prog 67 (zaQ a_w_) (zes a_w_)] [∀ a_v,zd Tryz.prog 30 (zbs a_v) (ze4 a_v)] [∀ a_s,zd Tryz.prog 66 (zi a_s) (zax a_s)] [∀ a_s,zd Tryz.prog 122 (zm a_s) (zaG a_s)] a_w_:zd Tryz.prog 67 (zfc zaQ zbs zi zm a_w_) (zes a_w_):=by
 unfold zfc
 exact W .a Tryz.func67 e
theorem zoZ {zaQ:Val->Option (Bool)} {zbs:Val->Option (Bool)} {zi:(List Val)->Option (Bool)} {zm:(List Val)->Option (Int)} [∀ a_w_,zd Tryz.prog 67 (zaQ a_w_) (zes a_w_)] [∀ a_v,zd Tryz.prog 30 (zbs a_v) (ze4 a_v)] [∀ a_s,zd Tryz.prog 66 (zi a_s) (zax a_s)] [∀ a_s,zd Tryz.prog 122 (zm a_s) (zaG a_s)] a_v:zd Tryz.prog 30 (zgZ zaQ zbs zi zm a_v) (ze4 a_v):=by
 unfold zgZ
 exact W (.o 7 11 (.o 1 17 .a .a) .a) Tryz.func30 e
theorem zeH {zaQ:Val->Option (Bool)} {zbs:Val->Option (Bool)} {zi:(List Val)->Option (Bool)} {zm:(List Val)->Option (Int)} [∀ a_w_,zd Tryz.prog 67 (zaQ a_w_) (zes a_w_)] [∀ a_v,zd Tryz.prog 30 (zbs a_v) (ze4 a_v)] [∀ a_s,zd Tryz.prog 66 (zi a_s) (zax a_s)] [∀ a_s,zd Tryz.prog 122 (zm a_s) (zaG a_s)] a_s:zd Tryz.prog 66 (zaR zaQ zbs zi zm a_s) (zax a_s):=by
 unfold zaR
 exact W .a Tryz.func66 e
theorem ze6 {zaQ:Val->Option (Bool)} {zbs:Val->Option (Bool)} {zi:(List Val)->Option (Bool)} {zm:(List Val)->Option (Int)} [∀ a_w_,zd Tryz.prog 67 (zaQ a_w_) (zes a_w_)] [∀ a_v,zd Tryz.prog 30 (zbs a_v) (ze4 a_v)] [∀ a_s,zd Tryz.prog 66 (zi a_s) (zax a_s)] [∀ a_s,zd Tryz.prog 122 (zm a_s) (zaG a_s)] a_s:zd Tryz.prog 122 (za3 zaQ zbs zi zm a_s) (zaG a_s):=by
 unfold za3
 exact W (.l [8] .a) Tryz.func122 e
theorem zhY:∀ n,(∀ a_w_,zd Tryz.prog 67 (zdu n a_w_) (zes a_w_))/\(∀ a_v,zd Tryz.prog 30 (zdS n a_v) (ze4 a_v))/\(∀ a_s,zd Tryz.prog 66 (zT n a_s) (zax a_s))/\(∀ a_s,zd Tryz.prog 122 (zad n a_s) (zaG a_s))
 | 0=>⟨λ_=>⟨λr h=>by cases h⟩,λ_=>⟨λr h=>by cases h⟩,λ_=>⟨λr h=>by cases h⟩,λ_=>⟨λr h=>by cases h⟩⟩
 | n + 1=>by
  obtain ⟨h0,h1,h2,h3⟩:=zhY n
  exact ⟨λa_w_=>zmQ (zaQ:=zdu n) (zbs:=zdS n) (zi:=zT n) (zm:=zad n) a_w_,λa_v=>zoZ (zaQ:=zdu n) (zbs:=zdS n) (zi:=zT n) (zm:=zad n) a_v,λa_s=>zeH (zaQ:=zdu n) (zbs:=zdS n) (zi:=zT n) (zm:=zad n) a_s,λa_s=>ze6 (zaQ:=zdu n) (zbs:=zdS n) (zi:=zT n) (zm:=zad n) a_s⟩
instance value_Bare_g n a_v:zd Tryz.prog 30 (zdS n a_v) (ze4 a_v):=(zhY n).2.1 a_v
end
end Go.Proofs.Q
