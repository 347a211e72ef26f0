/- Walks, printed by mill.py and grow.py. -/
import Derived.Test.YthafpblconbjkaaGreatDoorNbM
set_option linter.unusedVariables false
set_option linter.unusedSimpArgs false
set_option maxRecDepth 4000
set_option maxHeartbeats 4000000
namespace Go.Proofs.Q
open Go.Sy
section
attribute [local irreducible] isv zbl zar zbI zbs zef zez zgw zgg zdV zdE zcO zj zO zM cal br ck asr jp lp zs

abbrev zbq (a_w_:Val) (a_a1:zt) (a_a2:zg) (a_a3:Int):AC (Bool × zt):=.b λzgd=>.mk [isv a_w_,zbl (zfM.mk zgd),zbl (a_a2),zbl (a_a3)] [zj zgd (a_a1:zt)] λr=>.mk [isv r.1] [zj zgd (r.2)]
abbrev zbH (a_c:zt) (a_i:Int) (a_v:Val) (za:Int):AC (Bool × zt):=.b λzcw=>.mk [zar zcw (Fld.id zt),isv a_i,isv a_v,isv za] [zj zcw (a_c:zt)] λr=>.mk [isv r.1] [zj zcw (r.2)]
abbrev zb4 (a_c:zt) (a_x:zg) (a_v:Val) (za:Int):AC (Bool × zt):=.b λzcw=>.mk [zar zcw (Fld.id zt),isv a_x,isv a_v,isv za] [zj zcw (a_c:zt)] λr=>.mk [isv r.1] [zj zcw (r.2)]
abbrev zaf (a_s:(List Val)) (za9:zt) (zbe:zg) (zbE:Int):AC (Bool × zt):=.b λzdU=>.mk [isv a_s,zdV 156 [zbl (zfM.mk zdU),zbl (zbe),zbl (zbE)]] [zj zdU (za9:zt)] λr=>.mk [isv r.1] [zj zdU (r.2)]
abbrev zao (a_s:(List Val)) (za9:zt) (zbe:zg) (zbE:Int):AC (Int × zt):=.b λzdU=>.mk [isv a_s,zdV 156 [zbl (zfM.mk zdU),zbl (zbe),zbl (zbE)]] [zj zdU (za9:zt)] λr=>.mk [isv r.1] [zj zdU (r.2)]
abbrev zby (a_c:zt) (a_i:Int) (a_v:Val) (za:Int):AC (Bool × zt):=.b λzcw=>.mk [zar zcw (Fld.id zt),isv a_i,isv a_v,isv za] [zj zcw (a_c:zt)] λr=>.mk [isv r.1] [zj zcw (r.2)]
theorem zi0 {zq:Val->zt->zg->Int->Option (Bool × zt)} {zB:zt->Int->Val->Int->Option (Bool × zt)} {zG:zt->zg->Val->Int->Option (Bool × zt)} {ze:(List Val)->zt->zg->Int->Option (Bool × zt)} {zf:(List Val)->zt->zg->Int->Option (Int × zt)} {zw:zt->Int->Val->Int->Option (Bool × zt)} [∀ a_w_ a_a1 a_a2 a_a3,zd Tryz.prog 156 (zq a_w_ a_a1 a_a2 a_a3) (zbq a_w_ a_a1 a_a2 a_a3)] [∀ a_c a_i a_v za,zd Tryz.prog 54 (zB a_c a_i a_v za) (zbH a_c a_i a_v za)] [∀ a_c a_x a_v za,zd Tryz.prog 111 (zG a_c a_x a_v za) (zb4 a_c a_x a_v za)] [∀ a_s za9 zbe zbE,zd Tryz.prog 66 (ze a_s za9 zbe zbE) (zaf a_s za9 zbe zbE)] [∀ a_s za9 zbe zbE,zd Tryz.prog 122 (zf a_s za9 zbe zbE) (zao a_s za9 zbe zbE)] [∀ a_c a_i a_v za,zd Tryz.prog 112 (zw a_c a_i a_v za) (zby a_c a_i a_v za)] a_w_ a_a1 a_a2 a_a3:zd Tryz.prog 156 (zbR zq zB zG ze zf zw a_w_ a_a1 a_a2 a_a3) (zbq a_w_ a_a1 a_a2 a_a3):=by
 unfold zbR
 exact W .a Tryz.func156 e
theorem zkm {zq:Val->zt->zg->Int->Option (Bool × zt)} {zB:zt->Int->Val->Int->Option (Bool × zt)} {zG:zt->zg->Val->Int->Option (Bool × zt)} {ze:(List Val)->zt->zg->Int->Option (Bool × zt)} {zf:(List Val)->zt->zg->Int->Option (Int × zt)} {zw:zt->Int->Val->Int->Option (Bool × zt)} [∀ a_w_ a_a1 a_a2 a_a3,zd Tryz.prog 156 (zq a_w_ a_a1 a_a2 a_a3) (zbq a_w_ a_a1 a_a2 a_a3)] [∀ a_c a_i a_v za,zd Tryz.prog 54 (zB a_c a_i a_v za) (zbH a_c a_i a_v za)] [∀ a_c a_x a_v za,zd Tryz.prog 111 (zG a_c a_x a_v za) (zb4 a_c a_x a_v za)] [∀ a_s za9 zbe zbE,zd Tryz.prog 66 (ze a_s za9 zbe zbE) (zaf a_s za9 zbe zbE)] [∀ a_s za9 zbe zbE,zd Tryz.prog 122 (zf a_s za9 zbe zbE) (zao a_s za9 zbe zbE)] [∀ a_c a_i a_v za,zd Tryz.prog 112 (zw a_c a_i a_v za) (zby a_c a_i a_v za)] a_c a_i a_v za:zd Tryz.prog 54 (zbG zq zB zG ze zf zw a_c a_i a_v za) (zbH a_c a_i a_v za):=by
 unfold zbG
 exact W (.o 4 22 (.o 0 26 (.b .a (.b .a (.b .a (.b (.o 1 63 .a (.b (.o 2 62 .a .a) .a)) (.b (.o 1 79 .a (.b (.o 2 78 .a .a) .a)) (.b (.o 1 90 .a .a) (.b .a (.w [95] (.b .a (.b .a (.b (.d 68719476738 (.o 32 117 (.o 24 125 (.o 18 131 (.j 1 (.b 0 λzcw=>.m [true] (.v (λq45:Bool × zt=>[(148,isv q45.1)]) λq45=>[zj zcw (q45.2:zt)])) .a .a) .a) .a) .a)) (.w [149] .a .a)))) .a)))))))) .a) .a) Tryz.func54 e
theorem zkq {zq:Val->zt->zg->Int->Option (Bool × zt)} {zB:zt->Int->Val->Int->Option (Bool × zt)} {zG:zt->zg->Val->Int->Option (Bool × zt)} {ze:(List Val)->zt->zg->Int->Option (Bool × zt)} {zf:(List Val)->zt->zg->Int->Option (Int × zt)} {zw:zt->Int->Val->Int->Option (Bool × zt)} [∀ a_w_ a_a1 a_a2 a_a3,zd Tryz.prog 156 (zq a_w_ a_a1 a_a2 a_a3) (zbq a_w_ a_a1 a_a2 a_a3)] [∀ a_c a_i a_v za,zd Tryz.prog 54 (zB a_c a_i a_v za) (zbH a_c a_i a_v za)] [∀ a_c a_x a_v za,zd Tryz.prog 111 (zG a_c a_x a_v za) (zb4 a_c a_x a_v za)] [∀ a_s za9 zbe zbE,zd Tryz.prog 66 (ze a_s za9 zbe zbE) (zaf a_s za9 zbe zbE)] [∀ a_s za9 zbe zbE,zd Tryz.prog 122 (zf a_s za9 zbe zbE) (zao a_s za9 zbe zbE)] [∀ a_c a_i a_v za,zd Tryz.prog 112 (zw a_c a_i a_v za) (zby a_c a_i a_v za)] a_c a_x a_v za:zd Tryz.prog 111 (zcr zq zB zG ze zf zw a_c a_x a_v za) (zb4 a_c a_x a_v za):=by
 unfold zcr
 exact W (.o 8 23 (.j 1 (.b 0 λzcw=>.m [true] (.v (λq9:Bool × zt=>[(30,isv q9.1)]) λq9=>[zj zcw (q9.2:zt)])) .a .a) (.b (.o 9 22 .a .a) .a)) Tryz.func111 e
theorem zeP {zq:Val->zt->zg->Int->Option (Bool × zt)} {zB:zt->Int->Val->Int->Option (Bool × zt)} {zG:zt->zg->Val->Int->Option (Bool × zt)} {ze:(List Val)->zt->zg->Int->Option (Bool × zt)} {zf:(List Val)->zt->zg->Int->Option (Int × zt)} {zw:zt->Int->Val->Int->Option (Bool × zt)} [∀ a_w_ a_a1 a_a2 a_a3,zd Tryz.prog 156 (zq a_w_ a_a1 a_a2 a_a3) (zbq a_w_ a_a1 a_a2 a_a3)] [∀ a_c a_i a_v za,zd Tryz.prog 54 (zB a_c a_i a_v za) (zbH a_c a_i a_v za)] [∀ a_c a_x a_v za,zd Tryz.prog 111 (zG a_c a_x a_v za) (zb4 a_c a_x a_v za)] [∀ a_s za9 zbe zbE,zd Tryz.prog 66 (ze a_s za9 zbe zbE) (zaf a_s za9 zbe zbE)] [∀ a_s za9 zbe zbE,zd Tryz.prog 122 (zf a_s za9 zbe zbE) (zao a_s za9 zbe zbE)] [∀ a_c a_i a_v za,zd Tryz.prog 112 (zw a_c a_i a_v za) (zby a_c a_i a_v za)] a_s za9 zbe zbE:zd Tryz.prog 66 (zas zq zB zG ze zf zw a_s za9 zbe zbE) (zaf a_s za9 zbe zbE):=by
 unfold zas
 exact W .a Tryz.func66 e
theorem ze8 {zq:Val->zt->zg->Int->Option (Bool × zt)} {zB:zt->Int->Val->Int->Option (Bool × zt)} {zG:zt->zg->Val->Int->Option (Bool × zt)} {ze:(List Val)->zt->zg->Int->Option (Bool × zt)} {zf:(List Val)->zt->zg->Int->Option (Int × zt)} {zw:zt->Int->Val->Int->Option (Bool × zt)} [∀ a_w_ a_a1 a_a2 a_a3,zd Tryz.prog 156 (zq a_w_ a_a1 a_a2 a_a3) (zbq a_w_ a_a1 a_a2 a_a3)] [∀ a_c a_i a_v za,zd Tryz.prog 54 (zB a_c a_i a_v za) (zbH a_c a_i a_v za)] [∀ a_c a_x a_v za,zd Tryz.prog 111 (zG a_c a_x a_v za) (zb4 a_c a_x a_v za)] [∀ a_s za9 zbe zbE,zd Tryz.prog 66 (ze a_s za9 zbe zbE) (zaf a_s za9 zbe zbE)] [∀ a_s za9 zbe zbE,zd Tryz.prog 122 (zf a_s za9 zbe zbE) (zao a_s za9 zbe zbE)] [∀ a_c a_i a_v za,zd Tryz.prog 112 (zw a_c a_i a_v za) (zby a_c a_i a_v za)] a_s za9 zbe zbE:zd Tryz.prog 122 (zaw zq zB zG ze zf zw a_s za9 zbe zbE) (zao a_s za9 zbe zbE):=by
 unfold zaw
 exact W (.k (.b 0 λzdU=>.m [true] (.v (λq1:Int × zt=>[(8,isv q1.1)]) λq1=>[zj zdU (q1.2:zt)])) .a) Tryz.func122 e
theorem zja {zq:Val->zt->zg->Int->Option (Bool × zt)} {zB:zt->Int->Val->Int->Option (Bool × zt)} {zG:zt->zg->Val->Int->Option (Bool × zt)} {ze:(List Val)->zt->zg->Int->Option (Bool × zt)} {zf:(List Val)->zt->zg->Int->Option (Int × zt)} {zw:zt->Int->Val->Int->Option (Bool × zt)} [∀ a_w_ a_a1 a_a2 a_a3,zd Tryz.prog 156 (zq a_w_ a_a1 a_a2 a_a3) (zbq a_w_ a_a1 a_a2 a_a3)] [∀ a_c a_i a_v za,zd Tryz.prog 54 (zB a_c a_i a_v za) (zbH a_c a_i a_v za)] [∀ a_c a_x a_v za,zd Tryz.prog 111 (zG a_c a_x a_v za) (zb4 a_c a_x a_v za)] [∀ a_s za9 zbe zbE,zd Tryz.prog 66 (ze a_s za9 zbe zbE) (zaf a_s za9 zbe zbE)] [∀ a_s za9 zbe zbE,zd Tryz.prog 122 (zf a_s za9 zbe zbE) (zao a_s za9 zbe zbE)] [∀ a_c a_i a_v za,zd Tryz.prog 112 (zw a_c a_i a_v za) (zby a_c a_i a_v za)] a_c a_i a_v za:zd Tryz.prog 112 (zcb zq zB zG ze zf zw a_c a_i a_v za) (zby a_c a_i a_v za):=by
 unfold zcb
 exact W (.o 7 33 (.j 0 (.b 0 λzcw=>.m [true] (.v (λq7:Bool × zt=>[(40,isv q7.1)]) λq7=>[zj zcw (q7.2:zt)])) (.b .a (.k (.b 0 λzcw=>.m [true] (.v (λq11:Int × zt=>[(44,isv q11.1)]) λq11=>[zj zcw (q11.2:zt)])) (.b (.w [] (.j 0 (.b 0 λzcw=>.m [true] (.v (λq35:zt=>[]) λq35=>[zj zcw (q35:zt)])) .a (.b (.o 0 66 .a .a) (.o 1 85 .a (.b .a (.o 2 84 .a .a))))) .a) .a))) .a) .a) Tryz.func112 e
theorem zfb:∀ n,(∀ a_w_ a_a1 a_a2 a_a3,zd Tryz.prog 156 (zY n a_w_ a_a1 a_a2 a_a3) (zbq a_w_ a_a1 a_a2 a_a3))/\(∀ a_c a_i a_v za,zd Tryz.prog 54 (zX n a_c a_i a_v za) (zbH a_c a_i a_v za))/\(∀ a_c a_x a_v za,zd Tryz.prog 111 (zal n a_c a_x a_v za) (zb4 a_c a_x a_v za))/\(∀ a_s za9 zbe zbE,zd Tryz.prog 66 (zm n a_s za9 zbe zbE) (zaf a_s za9 zbe zbE))/\(∀ a_s za9 zbe zbE,zd Tryz.prog 122 (zo n a_s za9 zbe zbE) (zao a_s za9 zbe zbE))/\(∀ a_c a_i a_v za,zd Tryz.prog 112 (zac n a_c a_i a_v za) (zby a_c a_i a_v za))
 | 0=>⟨λ_ _ _ _=>⟨λr h=>by cases h⟩,λ_ _ _ _=>⟨λr h=>by cases h⟩,λ_ _ _ _=>⟨λr h=>by cases h⟩,λ_ _ _ _=>⟨λr h=>by cases h⟩,λ_ _ _ _=>⟨λr h=>by cases h⟩,λ_ _ _ _=>⟨λr h=>by cases h⟩⟩
 | n + 1=>by
  obtain ⟨h0,h1,h2,h3,h4,h5⟩:=zfb n
  exact ⟨λa_w_ a_a1 a_a2 a_a3=>zi0 (zq:=zY n) (zB:=zX n) (zG:=zal n) (ze:=zm n) (zf:=zo n) (zw:=zac n) a_w_ a_a1 a_a2 a_a3,λa_c a_i a_v za=>zkm (zq:=zY n) (zB:=zX n) (zG:=zal n) (ze:=zm n) (zf:=zo n) (zw:=zac n) a_c a_i a_v za,λa_c a_x a_v za=>zkq (zq:=zY n) (zB:=zX n) (zG:=zal n) (ze:=zm n) (zf:=zo n) (zw:=zac n) a_c a_x a_v za,λa_s za9 zbe zbE=>zeP (zq:=zY n) (zB:=zX n) (zG:=zal n) (ze:=zm n) (zf:=zo n) (zw:=zac n) a_s za9 zbe zbE,λa_s za9 zbe zbE=>ze8 (zq:=zY n) (zB:=zX n) (zG:=zal n) (ze:=zm n) (zf:=zo n) (zw:=zac n) a_s za9 zbe zbE,λa_c a_i a_v za=>zja (zq:=zY n) (zB:=zX n) (zG:=zal n) (ze:=zm n) (zf:=zo n) (zw:=zac n) a_c a_i a_v za⟩
instance value_checker_fits_g n a_c a_i a_v za:zd Tryz.prog 54 (zX n a_c a_i a_v za) (zbH a_c a_i a_v za):=(zfb n).2.1 a_c a_i a_v za
end
section
attribute [local irreducible] isv zbl zar zbI zbs zef zez zgw zgg zdV zdE zcO zj zO zM cal br ck asr jp lp zs

abbrev zhg (a_v:Val):AC (Int):=.mk [isv a_v] [] λr=>.mk [isv r] []
theorem zo6 {zgF:Val->Option (Int)} [∀ a_v,zd Tryz.prog 55 (zgF a_v) (zhg a_v)] a_v:zd Tryz.prog 55 (zfY zgF a_v) (zhg a_v):=by
 unfold zfY
 exact W (.l [3,9] .a) Tryz.func55 e
theorem ziP:∀ n,(∀ a_v,zd Tryz.prog 55 (zgv n a_v) (zhg a_v))
 | 0=>λ_=>⟨λr h=>by cases h⟩
 | n + 1=>by
  have:=ziP n
  exact λa_v=>zo6 (zgF:=zgv n) a_v
instance value_Count_g n a_v:zd Tryz.prog 55 (zgv n a_v) (zhg a_v):=(ziP n) a_v

instance value_Fits_g a_t a_i a_v:zd Tryz.prog 21 (zeZ a_t a_i a_v) (.mk [isv a_t,isv a_i,isv a_v] [] λr=>.mk [isv r] []):=by
 unfold zeZ
 exact W (.q 0 (.q 0 (.q 0 (.q 0 (.q 1 (.o 1 20 .a .a)))))) Tryz.func21 e

abbrev zej (a_w_:Val):AC (Bool):=.mk [isv a_w_] [] λr=>.mk [isv r] []
abbrev zeX (a_v:Val):AC (Bool):=.mk [isv a_v] [] λr=>.mk [isv r] []
abbrev zax (a_s:(List Val)):AC (Bool):=.mk [isv a_s,zdV 67 []] [] λr=>.mk [isv r] []
abbrev zaH (a_s:(List Val)):AC (Int):=.mk [isv a_s,zdV 67 []] [] λr=>.mk [isv r] []
theorem zmS {zaS:Val->Option (Bool)} {zbp:Val->Option (Bool)} {zi:(List Val)->Option (Bool)} {zk:(List Val)->Option (Int)} [∀ a_w_,zd Tryz.prog 67 (zaS a_w_) (zej a_w_)] [∀ a_v,zd Tryz.prog 30 (zbp a_v) (zeX a_v)] [∀ a_s,zd Tryz.prog 66 (zi a_s) (zax a_s)] [∀ a_s,zd Tryz.prog 122 (zk a_s) (zaH a_s)] a_w_:zd Tryz.prog 67 (ze2 zaS zbp zi zk a_w_) (zej a_w_):=by
 unfold ze2
 exact W .a Tryz.func67 e
theorem zpo {zaS:Val->Option (Bool)} {zbp:Val->Option (Bool)} {zi:(List Val)->Option (Bool)} {zk:(List Val)->Option (Int)} [∀ a_w_,zd Tryz.prog 67 (zaS a_w_) (zej a_w_)] [∀ a_v,zd Tryz.prog 30 (zbp a_v) (zeX a_v)] [∀ a_s,zd Tryz.prog 66 (zi a_s) (zax a_s)] [∀ a_s,zd Tryz.prog 122 (zk a_s) (zaH a_s)] a_v:zd Tryz.prog 30 (zgY zaS zbp zi zk a_v) (zeX a_v):=by
 unfold zgY
 exact W (.o 7 11 (.o 1 17 .a .a) .a) Tryz.func30 e
theorem zey {zaS:Val->Option (Bool)} {zbp:Val->Option (Bool)} {zi:(List Val)->Option (Bool)} {zk:(List Val)->Option (Int)} [∀ a_w_,zd Tryz.prog 67 (zaS a_w_) (zej a_w_)] [∀ a_v,zd Tryz.prog 30 (zbp a_v) (zeX a_v)] [∀ a_s,zd Tryz.prog 66 (zi a_s) (zax a_s)] [∀ a_s,zd Tryz.prog 122 (zk a_s) (zaH a_s)] a_s:zd Tryz.prog 66 (zaT zaS zbp zi zk a_s) (zax a_s):=by
 unfold zaT
 exact W .a Tryz.func66 e
theorem zeW {zaS:Val->Option (Bool)} {zbp:Val->Option (Bool)} {zi:(List Val)->Option (Bool)} {zk:(List Val)->Option (Int)} [∀ a_w_,zd Tryz.prog 67 (zaS a_w_) (zej a_w_)] [∀ a_v,zd Tryz.prog 30 (zbp a_v) (zeX a_v)] [∀ a_s,zd Tryz.prog 66 (zi a_s) (zax a_s)] [∀ a_s,zd Tryz.prog 122 (zk a_s) (zaH a_s)] a_s:zd Tryz.prog 122 (za6 zaS zbp zi zk a_s) (zaH a_s):=by
 unfold za6
 exact W (.l [8] .a) Tryz.func122 e
theorem zhx:∀ n,(∀ a_w_,zd Tryz.prog 67 (zdt n a_w_) (zej a_w_))/\(∀ a_v,zd Tryz.prog 30 (zdP n a_v) (zeX a_v))/\(∀ a_s,zd Tryz.prog 66 (zS n a_s) (zax a_s))/\(∀ a_s,zd Tryz.prog 122 (zad n a_s) (zaH a_s))
 | 0=>⟨λ_=>⟨λr h=>by cases h⟩,λ_=>⟨λr h=>by cases h⟩,λ_=>⟨λr h=>by cases h⟩,λ_=>⟨λr h=>by cases h⟩⟩
 | n + 1=>by
  obtain ⟨h0,h1,h2,h3⟩:=zhx n
  exact ⟨λa_w_=>zmS (zaS:=zdt n) (zbp:=zdP n) (zi:=zS n) (zk:=zad n) a_w_,λa_v=>zpo (zaS:=zdt n) (zbp:=zdP n) (zi:=zS n) (zk:=zad n) a_v,λa_s=>zey (zaS:=zdt n) (zbp:=zdP n) (zi:=zS n) (zk:=zad n) a_s,λa_s=>zeW (zaS:=zdt n) (zbp:=zdP n) (zi:=zS n) (zk:=zad n) a_s⟩
instance value_Bare_g n a_v:zd Tryz.prog 30 (zdP n a_v) (zeX a_v):=(zhx n).2.1 a_v
abbrev zkb (a_v:Val):AC (Bool):=.mk [isv a_v] [] λr=>.mk [isv r] []
theorem zsC {zjl:Val->Option (Bool)} [∀ a_v,zd Tryz.prog 14 (zjl a_v) (zkb a_v)] a_v:zd Tryz.prog 14 (zh2 zjl a_v) (zkb a_v):=by
 unfold zh2
 exact W (.o 0 12 (.b .a (.l [3] .a)) .a) Tryz.func14 e
theorem zkC:∀ n,(∀ a_v,zd Tryz.prog 14 (zh7 n a_v) (zkb a_v))
 | 0=>λ_=>⟨λr h=>by cases h⟩
 | n + 1=>by
  have:=zkC n
  exact λa_v=>zsC (zjl:=zh7 n) a_v
instance r12_Bare_g n a_v:zd Tryz.prog 14 (zh7 n a_v) (zkb a_v):=(zkC n) a_v

end
end Go.Proofs.Q
