/- Walks, printed by mill.py and grow.py. -/
import Derived.Test.YthafpblconbjkaaGreatDoorNbM
set_option linter.unusedVariables false
set_option linter.unusedSimpArgs false
set_option maxRecDepth 4000
set_option maxHeartbeats 4000000
namespace Go.Proofs.Q
open Go.Sy
section
attribute [local irreducible] isv zbn zar zbK zbu zeh zeA zgz zgk zdX zdG zcP zj zO zN cal br ck asr jp lp zs

abbrev zbt (a_w_:Val) (a_a1:zt) (a_a2:zg) (a_a3:Int):AC (Bool × zt):=.b λzgb=>.mk [isv a_w_,zbn (zfO.mk zgb),zbn (a_a2),zbn (a_a3)] [zj zgb (a_a1:zt)] λr=>.mk [isv r.1] [zj zgb (r.2)]
abbrev zbA (a_c:zt) (a_i:Int) (a_v:Val) (za:Int):AC (Bool × zt):=.b λzcy=>.mk [zar zcy (Fld.id zt),isv a_i,isv a_v,isv za] [zj zcy (a_c:zt)] λr=>.mk [isv r.1] [zj zcy (r.2)]
abbrev zb6 (a_c:zt) (a_x:zg) (a_v:Val) (za:Int):AC (Bool × zt):=.b λzcy=>.mk [zar zcy (Fld.id zt),isv a_x,isv a_v,isv za] [zj zcy (a_c:zt)] λr=>.mk [isv r.1] [zj zcy (r.2)]
abbrev zah (a_s:(List Val)) (zba:zt) (zbf:zg) (zbB:Int):AC (Bool × zt):=.b λzdW=>.mk [isv a_s,zdX 156 [zbn (zfO.mk zdW),zbn (zbf),zbn (zbB)]] [zj zdW (zba:zt)] λr=>.mk [isv r.1] [zj zdW (r.2)]
abbrev zao (a_s:(List Val)) (zba:zt) (zbf:zg) (zbB:Int):AC (Int × zt):=.b λzdW=>.mk [isv a_s,zdX 156 [zbn (zfO.mk zdW),zbn (zbf),zbn (zbB)]] [zj zdW (zba:zt)] λr=>.mk [isv r.1] [zj zdW (r.2)]
abbrev zbH (a_c:zt) (a_i:Int) (a_v:Val) (za:Int):AC (Bool × zt):=.b λzcy=>.mk [zar zcy (Fld.id zt),isv a_i,isv a_v,isv za] [zj zcy (a_c:zt)] λr=>.mk [isv r.1] [zj zcy (r.2)]
theorem zi2 {zr:Val->zt->zg->Int->Option (Bool × zt)} {zB:zt->Int->Val->Int->Option (Bool × zt)} {zG:zt->zg->Val->Int->Option (Bool × zt)} {ze:(List Val)->zt->zg->Int->Option (Bool × zt)} {zf:(List Val)->zt->zg->Int->Option (Int × zt)} {zx:zt->Int->Val->Int->Option (Bool × zt)} [∀ a_w_ a_a1 a_a2 a_a3,zd Tryz.prog 156 (zr a_w_ a_a1 a_a2 a_a3) (zbt a_w_ a_a1 a_a2 a_a3)] [∀ a_c a_i a_v za,zd Tryz.prog 54 (zB a_c a_i a_v za) (zbA a_c a_i a_v za)] [∀ a_c a_x a_v za,zd Tryz.prog 111 (zG a_c a_x a_v za) (zb6 a_c a_x a_v za)] [∀ a_s zba zbf zbB,zd Tryz.prog 66 (ze a_s zba zbf zbB) (zah a_s zba zbf zbB)] [∀ a_s zba zbf zbB,zd Tryz.prog 122 (zf a_s zba zbf zbB) (zao a_s zba zbf zbB)] [∀ a_c a_i a_v za,zd Tryz.prog 112 (zx a_c a_i a_v za) (zbH a_c a_i a_v za)] a_w_ a_a1 a_a2 a_a3:zd Tryz.prog 156 (zb0 zr zB zG ze zf zx a_w_ a_a1 a_a2 a_a3) (zbt a_w_ a_a1 a_a2 a_a3):=by
 unfold zb0
 exact W .a Tryz.func156 e
theorem zkt {zr:Val->zt->zg->Int->Option (Bool × zt)} {zB:zt->Int->Val->Int->Option (Bool × zt)} {zG:zt->zg->Val->Int->Option (Bool × zt)} {ze:(List Val)->zt->zg->Int->Option (Bool × zt)} {zf:(List Val)->zt->zg->Int->Option (Int × zt)} {zx:zt->Int->Val->Int->Option (Bool × zt)} [∀ a_w_ a_a1 a_a2 a_a3,zd Tryz.prog 156 (zr a_w_ a_a1 a_a2 a_a3) (zbt a_w_ a_a1 a_a2 a_a3)] [∀ a_c a_i a_v za,zd Tryz.prog 54 (zB a_c a_i a_v za) (zbA a_c a_i a_v za)] [∀ a_c a_x a_v za,zd Tryz.prog 111 (zG a_c a_x a_v za) (zb6 a_c a_x a_v za)] [∀ a_s zba zbf zbB,zd Tryz.prog 66 (ze a_s zba zbf zbB) (zah a_s zba zbf zbB)] [∀ a_s zba zbf zbB,zd Tryz.prog 122 (zf a_s zba zbf zbB) (zao a_s zba zbf zbB)] [∀ a_c a_i a_v za,zd Tryz.prog 112 (zx a_c a_i a_v za) (zbH a_c a_i a_v za)] a_c a_i a_v za:zd Tryz.prog 54 (zbE zr zB zG ze zf zx a_c a_i a_v za) (zbA a_c a_i a_v za):=by
 unfold zbE
 exact W (.o 4 22 (.o 0 26 (.b .a (.b .a (.b .a (.b (.o 1 63 .a (.b (.o 2 62 .a .a) .a)) (.b (.o 1 79 .a (.b (.o 2 78 .a .a) .a)) (.b (.o 1 90 .a .a) (.b .a (.w [95] (.b .a (.b .a (.b (.d 68719476738 (.o 32 117 (.o 24 125 (.o 18 131 (.j 1 (.b 0 λzcy=>.m [true] (.v (λq45:Bool × zt=>[(148,isv q45.1)]) λq45=>[zj zcy (q45.2:zt)])) .a .a) .a) .a) .a)) (.w [149] .a .a)))) .a)))))))) .a) .a) Tryz.func54 e
theorem zkx {zr:Val->zt->zg->Int->Option (Bool × zt)} {zB:zt->Int->Val->Int->Option (Bool × zt)} {zG:zt->zg->Val->Int->Option (Bool × zt)} {ze:(List Val)->zt->zg->Int->Option (Bool × zt)} {zf:(List Val)->zt->zg->Int->Option (Int × zt)} {zx:zt->Int->Val->Int->Option (Bool × zt)} [∀ a_w_ a_a1 a_a2 a_a3,zd Tryz.prog 156 (zr a_w_ a_a1 a_a2 a_a3) (zbt a_w_ a_a1 a_a2 a_a3)] [∀ a_c a_i a_v za,zd Tryz.prog 54 (zB a_c a_i a_v za) (zbA a_c a_i a_v za)] [∀ a_c a_x a_v za,zd Tryz.prog 111 (zG a_c a_x a_v za) (zb6 a_c a_x a_v za)] [∀ a_s zba zbf zbB,zd Tryz.prog 66 (ze a_s zba zbf zbB) (zah a_s zba zbf zbB)] [∀ a_s zba zbf zbB,zd Tryz.prog 122 (zf a_s zba zbf zbB) (zao a_s zba zbf zbB)] [∀ a_c a_i a_v za,zd Tryz.prog 112 (zx a_c a_i a_v za) (zbH a_c a_i a_v za)] a_c a_x a_v za:zd Tryz.prog 111 (zct zr zB zG ze zf zx a_c a_x a_v za) (zb6 a_c a_x a_v za):=by
 unfold zct
 exact W (.o 8 23 (.j 1 (.b 0 λzcy=>.m [true] (.v (λq9:Bool × zt=>[(30,isv q9.1)]) λq9=>[zj zcy (q9.2:zt)])) .a .a) (.b (.o 9 22 .a .a) .a)) Tryz.func111 e
theorem zeR {zr:Val->zt->zg->Int->Option (Bool × zt)} {zB:zt->Int->Val->Int->Option (Bool × zt)} {zG:zt->zg->Val->Int->Option (Bool × zt)} {ze:(List Val)->zt->zg->Int->Option (Bool × zt)} {zf:(List Val)->zt->zg->Int->Option (Int × zt)} {zx:zt->Int->Val->Int->Option (Bool × zt)} [∀ a_w_ a_a1 a_a2 a_a3,zd Tryz.prog 156 (zr a_w_ a_a1 a_a2 a_a3) (zbt a_w_ a_a1 a_a2 a_a3)] [∀ a_c a_i a_v za,zd Tryz.prog 54 (zB a_c a_i a_v za) (zbA a_c a_i a_v za)] [∀ a_c a_x a_v za,zd Tryz.prog 111 (zG a_c a_x a_v za) (zb6 a_c a_x a_v za)] [∀ a_s zba zbf zbB,zd Tryz.prog 66 (ze a_s zba zbf zbB) (zah a_s zba zbf zbB)] [∀ a_s zba zbf zbB,zd Tryz.prog 122 (zf a_s zba zbf zbB) (zao a_s zba zbf zbB)] [∀ a_c a_i a_v za,zd Tryz.prog 112 (zx a_c a_i a_v za) (zbH a_c a_i a_v za)] a_s zba zbf zbB:zd Tryz.prog 66 (zas zr zB zG ze zf zx a_s zba zbf zbB) (zah a_s zba zbf zbB):=by
 unfold zas
 exact W .a Tryz.func66 e
theorem zfa {zr:Val->zt->zg->Int->Option (Bool × zt)} {zB:zt->Int->Val->Int->Option (Bool × zt)} {zG:zt->zg->Val->Int->Option (Bool × zt)} {ze:(List Val)->zt->zg->Int->Option (Bool × zt)} {zf:(List Val)->zt->zg->Int->Option (Int × zt)} {zx:zt->Int->Val->Int->Option (Bool × zt)} [∀ a_w_ a_a1 a_a2 a_a3,zd Tryz.prog 156 (zr a_w_ a_a1 a_a2 a_a3) (zbt a_w_ a_a1 a_a2 a_a3)] [∀ a_c a_i a_v za,zd Tryz.prog 54 (zB a_c a_i a_v za) (zbA a_c a_i a_v za)] [∀ a_c a_x a_v za,zd Tryz.prog 111 (zG a_c a_x a_v za) (zb6 a_c a_x a_v za)] [∀ a_s zba zbf zbB,zd Tryz.prog 66 (ze a_s zba zbf zbB) (zah a_s zba zbf zbB)] [∀ a_s zba zbf zbB,zd Tryz.prog 122 (zf a_s zba zbf zbB) (zao a_s zba zbf zbB)] [∀ a_c a_i a_v za,zd Tryz.prog 112 (zx a_c a_i a_v za) (zbH a_c a_i a_v za)] a_s zba zbf zbB:zd Tryz.prog 122 (zaw zr zB zG ze zf zx a_s zba zbf zbB) (zao a_s zba zbf zbB):=by
 unfold zaw
 exact W (.k (.b 0 λzdW=>.m [true] (.v (λq1:Int × zt=>[(8,isv q1.1)]) λq1=>[zj zdW (q1.2:zt)])) .a) Tryz.func122 e
theorem zji {zr:Val->zt->zg->Int->Option (Bool × zt)} {zB:zt->Int->Val->Int->Option (Bool × zt)} {zG:zt->zg->Val->Int->Option (Bool × zt)} {ze:(List Val)->zt->zg->Int->Option (Bool × zt)} {zf:(List Val)->zt->zg->Int->Option (Int × zt)} {zx:zt->Int->Val->Int->Option (Bool × zt)} [∀ a_w_ a_a1 a_a2 a_a3,zd Tryz.prog 156 (zr a_w_ a_a1 a_a2 a_a3) (zbt a_w_ a_a1 a_a2 a_a3)] [∀ a_c a_i a_v za,zd Tryz.prog 54 (zB a_c a_i a_v za) (zbA a_c a_i a_v za)] [∀ a_c a_x a_v za,zd Tryz.prog 111 (zG a_c a_x a_v za) (zb6 a_c a_x a_v za)] [∀ a_s zba zbf zbB,zd Tryz.prog 66 (ze a_s zba zbf zbB) (zah a_s zba zbf zbB)] [∀ a_s zba zbf zbB,zd Tryz.prog 122 (zf a_s zba zbf zbB) (zao a_s zba zbf zbB)] [∀ a_c a_i a_v za,zd Tryz.prog 112 (zx a_c a_i a_v za) (zbH a_c a_i a_v za)] a_c a_i a_v za:zd Tryz.prog 112 (zch zr zB zG ze zf zx a_c a_i a_v za) (zbH a_c a_i a_v za):=by
 unfold zch
 exact W (.o 7 33 (.j 0 (.b 0 λzcy=>.m [true] (.v (λq7:Bool × zt=>[(40,isv q7.1)]) λq7=>[zj zcy (q7.2:zt)])) (.b .a (.k (.b 0 λzcy=>.m [true] (.v (λq11:Int × zt=>[(44,isv q11.1)]) λq11=>[zj zcy (q11.2:zt)])) (.b (.w [] (.j 0 (.b 0 λzcy=>.m [true] (.v (λq35:zt=>[]) λq35=>[zj zcy (q35:zt)])) .a (.b (.o 0 66 .a .a) (.o 1 85 .a (.b .a (.o 2 84 .a .a))))) .a) .a))) .a) .a) Tryz.func112 e
theorem zfe:∀ n,(∀ a_w_ a_a1 a_a2 a_a3,zd Tryz.prog 156 (zY n a_w_ a_a1 a_a2 a_a3) (zbt a_w_ a_a1 a_a2 a_a3))/\(∀ a_c a_i a_v za,zd Tryz.prog 54 (zW n a_c a_i a_v za) (zbA a_c a_i a_v za))/\(∀ a_c a_x a_v za,zd Tryz.prog 111 (zal n a_c a_x a_v za) (zb6 a_c a_x a_v za))/\(∀ a_s zba zbf zbB,zd Tryz.prog 66 (zm n a_s zba zbf zbB) (zah a_s zba zbf zbB))/\(∀ a_s zba zbf zbB,zd Tryz.prog 122 (zo n a_s zba zbf zbB) (zao a_s zba zbf zbB))/\(∀ a_c a_i a_v za,zd Tryz.prog 112 (zac n a_c a_i a_v za) (zbH a_c a_i a_v za))
 | 0=>⟨λ_ _ _ _=>⟨λr h=>by cases h⟩,λ_ _ _ _=>⟨λr h=>by cases h⟩,λ_ _ _ _=>⟨λr h=>by cases h⟩,λ_ _ _ _=>⟨λr h=>by cases h⟩,λ_ _ _ _=>⟨λr h=>by cases h⟩,λ_ _ _ _=>⟨λr h=>by cases h⟩⟩
 | n + 1=>by
  obtain ⟨h0,h1,h2,h3,h4,h5⟩:=zfe n
  exact ⟨λa_w_ a_a1 a_a2 a_a3=>zi2 (zr:=zY n) (zB:=zW n) (zG:=zal n) (ze:=zm n) (zf:=zo n) (zx:=zac n) a_w_ a_a1 a_a2 a_a3,λa_c a_i a_v za=>zkt (zr:=zY n) (zB:=zW n) (zG:=zal n) (ze:=zm n) (zf:=zo n) (zx:=zac n) a_c a_i a_v za,λa_c a_x a_v za=>zkx (zr:=zY n) (zB:=zW n) (zG:=zal n) (ze:=zm n) (zf:=zo n) (zx:=zac n) a_c a_x a_v za,λa_s zba zbf zbB=>zeR (zr:=zY n) (zB:=zW n) (zG:=zal n) (ze:=zm n) (zf:=zo n) (zx:=zac n) a_s zba zbf zbB,λa_s zba zbf zbB=>zfa (zr:=zY n) (zB:=zW n) (zG:=zal n) (ze:=zm n) (zf:=zo n) (zx:=zac n) a_s zba zbf zbB,λa_c a_i a_v za=>zji (zr:=zY n) (zB:=zW n) (zG:=zal n) (ze:=zm n) (zf:=zo n) (zx:=zac n) a_c a_i a_v za⟩
instance value_checker_fits_g n a_c a_i a_v za:zd Tryz.prog 54 (zW n a_c a_i a_v za) (zbA a_c a_i a_v za):=(zfe n).2.1 a_c a_i a_v za
end
section
attribute [local irreducible] isv zbn zar zbK zbu zeh zeA zgz zgk zdX zdG zcP zj zO zN cal br ck asr jp lp zs

abbrev zhj (a_v:Val):AC (Int):=.mk [isv a_v] [] λr=>.mk [isv r] []
theorem zpd {zgH:Val->Option (Int)} [∀ a_v,zd Tryz.prog 55 (zgH a_v) (zhj a_v)] a_v:zd Tryz.prog 55 (zfW zgH a_v) (zhj a_v):=by
 unfold zfW
 exact W (.l [3,9] .a) Tryz.func55 e
theorem ziR:∀ n,(∀ a_v,zd Tryz.prog 55 (zgn n a_v) (zhj a_v))
 | 0=>λ_=>⟨λr h=>by cases h⟩
 | n + 1=>by
  have:=ziR n
  exact λa_v=>zpd (zgH:=zgn n) a_v
instance value_Count_g n a_v:zd Tryz.prog 55 (zgn n a_v) (zhj a_v):=(ziR n) a_v

instance value_Fits_g a_t a_i a_v:zd Tryz.prog 21 (zeW a_t a_i a_v) (.mk [isv a_t,isv a_i,isv a_v] [] λr=>.mk [isv r] []):=by
 unfold zeW
 exact W (.q 0 (.q 0 (.q 0 (.q 0 (.q 1 (.o 1 20 .a .a)))))) Tryz.func21 e

abbrev zel (a_w_:Val):AC (Bool):=.mk [isv a_w_] [] λr=>.mk [isv r] []
abbrev zeX (a_v:Val):AC (Bool):=.mk [isv a_v] [] λr=>.mk [isv r] []
abbrev zax (a_s:(List Val)):AC (Bool):=.mk [isv a_s,zdX 67 []] [] λr=>.mk [isv r] []
abbrev zaI (a_s:(List Val)):AC (Int):=.mk [isv a_s,zdX 67 []] [] λr=>.mk [isv r] []
theorem zmR {zaU:Val->Option (Bool)} {zbs:Val->Option (Bool)} {zi:(List Val)->Option (Bool)} {zk:(List Val)->Option (Int)} [∀ a_w_,zd Tryz.prog 67 (zaU a_w_) (zel a_w_)] [∀ a_v,zd Tryz.prog 30 (zbs a_v) (zeX a_v)] [∀ a_s,zd Tryz.prog 66 (zi a_s) (zax a_s)] [∀ a_s,zd Tryz.prog 122 (zk a_s) (zaI a_s)] a_w_:zd Tryz.prog 67 (ze9 zaU zbs zi zk a_w_) (zel a_w_):=by
 unfold ze9
 exact W .a Tryz.func67 e
theorem zpl {zaU:Val->Option (Bool)} {zbs:Val->Option (Bool)} {zi:(List Val)->Option (Bool)} {zk:(List Val)->Option (Int)} [∀ a_w_,zd Tryz.prog 67 (zaU a_w_) (zel a_w_)] [∀ a_v,zd Tryz.prog 30 (zbs a_v) (zeX a_v)] [∀ a_s,zd Tryz.prog 66 (zi a_s) (zax a_s)] [∀ a_s,zd Tryz.prog 122 (zk a_s) (zaI a_s)] a_v:zd Tryz.prog 30 (zgR zaU zbs zi zk a_v) (zeX a_v):=by
 unfold zgR
 exact W (.o 7 11 (.o 1 17 .a .a) .a) Tryz.func30 e
theorem zeB {zaU:Val->Option (Bool)} {zbs:Val->Option (Bool)} {zi:(List Val)->Option (Bool)} {zk:(List Val)->Option (Int)} [∀ a_w_,zd Tryz.prog 67 (zaU a_w_) (zel a_w_)] [∀ a_v,zd Tryz.prog 30 (zbs a_v) (zeX a_v)] [∀ a_s,zd Tryz.prog 66 (zi a_s) (zax a_s)] [∀ a_s,zd Tryz.prog 122 (zk a_s) (zaI a_s)] a_s:zd Tryz.prog 66 (zaV zaU zbs zi zk a_s) (zax a_s):=by
 unfold zaV
 exact W .a Tryz.func66 e
theorem ze2 {zaU:Val->Option (Bool)} {zbs:Val->Option (Bool)} {zi:(List Val)->Option (Bool)} {zk:(List Val)->Option (Int)} [∀ a_w_,zd Tryz.prog 67 (zaU a_w_) (zel a_w_)] [∀ a_v,zd Tryz.prog 30 (zbs a_v) (zeX a_v)] [∀ a_s,zd Tryz.prog 66 (zi a_s) (zax a_s)] [∀ a_s,zd Tryz.prog 122 (zk a_s) (zaI a_s)] a_s:zd Tryz.prog 122 (za8 zaU zbs zi zk a_s) (zaI a_s):=by
 unfold za8
 exact W (.l [8] .a) Tryz.func122 e
theorem zhA:∀ n,(∀ a_w_,zd Tryz.prog 67 (zdu n a_w_) (zel a_w_))/\(∀ a_v,zd Tryz.prog 30 (zdP n a_v) (zeX a_v))/\(∀ a_s,zd Tryz.prog 66 (zS n a_s) (zax a_s))/\(∀ a_s,zd Tryz.prog 122 (zad n a_s) (zaI a_s))
 | 0=>⟨λ_=>⟨λr h=>by cases h⟩,λ_=>⟨λr h=>by cases h⟩,λ_=>⟨λr h=>by cases h⟩,λ_=>⟨λr h=>by cases h⟩⟩
 | n + 1=>by
  obtain ⟨h0,h1,h2,h3⟩:=zhA n
  exact ⟨λa_w_=>zmR (zaU:=zdu n) (zbs:=zdP n) (zi:=zS n) (zk:=zad n) a_w_,λa_v=>zpl (zaU:=zdu n) (zbs:=zdP n) (zi:=zS n) (zk:=zad n) a_v,λa_s=>zeB (zaU:=zdu n) (zbs:=zdP n) (zi:=zS n) (zk:=zad n) a_s,λa_s=>ze2 (zaU:=zdu n) (zbs:=zdP n) (zi:=zS n) (zk:=zad n) a_s⟩
instance value_Bare_g n a_v:zd Tryz.prog 30 (zdP n a_v) (zeX a_v):=(zhA n).2.1 a_v
abbrev zkg (a_v:Val):AC (Bool):=.mk [isv a_v] [] λr=>.mk [isv r] []
theorem zsG {zjn:Val->Option (Bool)} [∀ a_v,zd Tryz.prog 14 (zjn a_v) (zkg a_v)] a_v:zd Tryz.prog 14 (zis zjn a_v) (zkg a_v):=by
 unfold zis
 exact W (.o 0 12 (.b .a (.l [3] .a)) .a) Tryz.func14 e
theorem zkX:∀ n,(∀ a_v,zd Tryz.prog 14 (ziu n a_v) (zkg a_v))
 | 0=>λ_=>⟨λr h=>by cases h⟩
 | n + 1=>by
  have:=zkX n
  exact λa_v=>zsG (zjn:=ziu n) a_v
instance r12_Bare_g n a_v:zd Tryz.prog 14 (ziu n a_v) (zkg a_v):=(zkX n) a_v

end
end Go.Proofs.Q
