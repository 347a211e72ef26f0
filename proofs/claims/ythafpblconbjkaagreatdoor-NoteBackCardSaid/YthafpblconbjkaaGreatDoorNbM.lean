/- Walks, printed by mill.py and grow.py. -/
import Derived.Test.YthafpblconbjkaaGreatDoorNbL
set_option linter.unusedVariables false
set_option linter.unusedSimpArgs false
set_option maxRecDepth 4000
set_option maxHeartbeats 4000000
namespace Go.Proofs.Q
open Go.Sy
section
attribute [local irreducible] isv zbn zar zbK zbu zeh zeA zgz zgk zdX zdG zcP zj zO zN cal br ck asr jp lp zs

instance value_checker_foreign_g a_c a_i a_b:zd Tryz.prog 154 (zcK a_c a_i a_b) (.b λzcy=>.mk [zar zcy (Fld.id zt),isv a_i,isv a_b] [zj zcy (a_c:zt)] λr=>.mk [isv r.1,isv r.2.1] [zj zcy (r.2.2)]):=by
 unfold zcK
 exact W (.q 0 (.q 1 (.o 0 31 (.b .a (.w [14] .a .a)) .a))) Tryz.func154 e

instance value_Item_c1_g a_y a_a1:zd Tryz.prog 124 (zfT a_y a_a1) (.mk [isv a_y,zbn (a_a1)] [] λr=>.mk [isv r] []):=by
 unfold zfT
 exact W .a Tryz.func124 e

instance slices_IndexFunc_Lapi_Item_api_Item_g a_s zba:zd Tryz.prog 123 (zaO a_s zba) (.mk [isv a_s,zdX 124 [zbn (zba)]] [] λr=>.mk [isv r] []):=by
 unfold zaO
 exact W (.l [8] .a) Tryz.func123 e

instance value_Item_g a_x a_n_:zd Tryz.prog 69 (zdm a_x a_n_) (.mk [isv a_x,isv a_n_] [] λr=>.mk [isv r] []):=by
 unfold zdm
 exact W .a Tryz.func69 e

instance value_open_g a_b:zd Tryz.prog 155 (zg9 a_b) (.mk [isv a_b] [] λr=>.mk [isv r] []):=by
 unfold zg9
 exact W (.o 1 10 .a .a) Tryz.func155 e

instance value_checker_unknown_g a_c a_i a_v:zd Tryz.prog 107 (zcJ a_c a_i a_v) (.b λzcy=>.mk [zar zcy (Fld.id zt),isv a_i,isv a_v] [zj zcy (a_c:zt)] λr=>.mk [isv r.1] [zj zcy (r.2)]):=by
 unfold zcJ
 exact W (.o 10 35 (.o 0 45 (.b .a (.b (.o 6 58 (.o 1 63 .a .a) .a) (.o 1 80 (.b (.o 1 94 .a .a) (.b (.o 1 109 .a .a) (.o 6 119 (.o 1 124 .a .a) .a))) .a))) .a) (.b .a (.o 11 34 .a .a))) Tryz.func107 e

instance value_plain_g a_v zh6:zd Tryz.prog 108 (zc0 a_v zh6) (.mk [isv a_v,isv zh6] [] λr=>.mk [isv r] []):=by
 unfold zc0
 exact W (.o 39 12 (.o 28 23 (.o 17 34 (.o 1 50 .a (.b (.o 2 49 .a (.b .a (.o 3 48 .a .a))) .a)) (.b (.o 18 33 .a .a) .a)) (.b (.o 29 22 .a .a) .a)) .a) Tryz.func108 e

instance bounds_Within_g a_c a_v:zd Tryz.prog 109 (zey a_c a_v) (.mk [isv a_c,isv a_v] [] λr=>.mk [isv r] []):=by
 unfold zey
 exact W (.o 1 29 .a (.b .a (.o 13 17 (.o 2 28 .a (.b (.o 3 27 .a .a) .a)) .a))) Tryz.func109 e

instance value_checker_string_g a_c a_x a_v:zd Tryz.prog 110 (zdE a_c a_x a_v) (.b λzcy=>.mk [zar zcy (Fld.id zt),isv a_x,isv a_v] [zj zcy (a_c:zt)] λr=>.mk [isv r.1] [zj zcy (r.2)]):=by
 unfold zdE
 exact W (.o 24 14 (.o 11 27 (.o 1 37 .a (.b (.o 2 36 .a .a) .a)) (.b (.o 12 26 .a .a) .a)) .a) Tryz.func110 e

instance order_there_g a_t a_i:zd Tryz.prog 210 (zhp a_t a_i) (.mk [isv a_t,isv a_i] [] λr=>.mk [isv r] []):=by
 unfold zhp
 exact W (.q 0 (.q 1 (.o 0 13 .a .a))) Tryz.func210 e

instance order_places_g zeo a_to:zd Tryz.prog 211 (zgZ zeo a_to) (.mk [isv zeo,isv a_to] [] λr=>.v λu1=>.mk [zbu u1 ((r).length)] [zN u1 r]):=by
 unfold zgZ
 exact W (.u 4 (.u 5 (.k (.m [] (.w λt0=>.v (λq3:(List Int) × Int=>[(5,zbu t0 (q3.1.length)),(6,isv q3.2)]) λq3=>[zN t0 q3.1])) .a))) Tryz.func211 e

end
theorem zpz {a_t a_i r} (h:zfz a_t a_i=some r):Ctr Tryz.prog 186 [isv a_t,isv a_i] [] (Pt [isv r] []):=by
 unfold zfz at h
 refine zer Tryz.func186 e λw0 S0 hT=>ws (oT (tB e (oa e (zbk (zef) (zbk (ziX (α:=NL Int)) (zbk (zbo 4 e zlF) (rn (ws (oV (zan zpg e) (om e (zau h λy3 hy3 h=>oT (tC (cw (P:=Tryz.prog) (f:=210) hy3) hT (s2 e e) k0 (oT (zhB _ zAc λb4=>oT (tS zv2 e e p0 y3 (zbk (znW 5 .here e) (rn (ss (oV (vI e zg.f0 ziT y3.kind) (oV (zan ty3 e) (oV (zk8 e e) (om e (jO 4 21 h (λq5 h=>?_) λJ6 h hJ6=>oI h (λg7 h=>?_) λg7 h=>oN g7 (oN g7 (oN g7 (oV (zb8 e g7 e) (hJ6 h 4)))))))))))))))))))))))))))
 ·refine om e (jO 4 26 h (λq8 h=>?_) λJ9 h hJ9=>oI h (λg10 h=>?_) λg10 h=>oN g10 (oN g10 (oN g10 (oV (zb8 e g10 e) (hJ9 h 4)))))
  ·refine rn (zcr h e (λ_ h=>?_) (λ_ h=>wk (ws (oa e (zbk (zef) (zbk (ziX (α:=NL Int)) (zbk (zbo 6 e zlF) (rn (ss (oV (vI e zg.f5 zqU y3.root) (oV (zan ty3 e) (oV (zzW e e) (oV (vI e zg.f4 zlh y3.fields) (oV (zan zpQ e) (oV (vN e zp5) (zau h λy15 hy15 h=>oT (tC1 (cw (P:=Tryz.prog) (f:=211) hy15) hT (s2 e e) k0 (λv16=>oV (zoR zvS e) (om e (rn (zed (lP h (Vt × Tok) (none,none) (λq17 g17=>[(6,zbu g17.1 (q17.1.length)),(35,isv q17.2)]) (λq17 g17=>[zN g17.1 (zfZ g17.2 (q17.1:List (List Int))),zO g17.2]) (zeq (j:=6) e (zix (by first | rfl | simp)) (zeq (j:=35) e hI zhE)) (a1 (a1 k0)) λL18 q17 g17 Q79 h hL18 eL18 rL18=>ws (oV (zmB e e) (rn (zeQ (zcr h e (λ_ h=>?_) (λ_ h=>xn (eL18 _ _ ?_))))))))))))))))))))))))))))
   ·exact ws (oa e (zbk (zef) (zbk (ziX (α:=NL Int)) (zbk (zbo 4 e zlF) (rn (zoL (zhk (zg1 (zhn 4 .here e (by first | rfl | simp)) (zg1 (zbo 4 e (zk3 (t:=none) (L:=(([]:(List (List Int))):List (List Int))))) (zdC (r1 e) k0 (iS h ▸ ⟨e,e⟩)))))))))))
   ·refine wk (zeQ (jw h (Vt × Tok) (λq49 g49=>[(6,zbu g49.1 (q49.length))]) (λq49 g49=>[zN g49.1 (zfZ g49.2 (q49:List (List Int))),zO g49.2]) k2 (λq49 g49 h=>?_) λJ50 h hJ50=>zed (ws (zce h λq51 h=>oV (zm9 (α:=Int) zvS e e q51.1 q51.2) (zau h λy52 hy52 h=>oT (znO ty3 e (.there (.there .here)) hy52 (an e (ws (om e (oV (zoR zmg e) (zfj h λq53 h=>oV (zqc e e q53) (an e (ss (oV (vI e zg.f4 zlh y3.fields) (oV (zan zpQ e) (om e (zau h λy54 hy54 h=>oV (vX e e zp5 hy54) (oV (vI e zaB.f5 znR y54.group) (oV (zan ty3 e) (an e (ws (oV (vI e zg.f0 ziT y3.kind) (oV (zan ty3 e) (oV (zk8 e e) (om e ?_)))))))))))))))))))))))))
    ·exact zdS (zfj h λq78 h=>oV (zpJ e e q78) (om e (zkK (hL18 h (g49.1,g49.2) 6))))
    refine jO 3 54 h (λq55 h=>?_) λJ56 h hJ56=>oI h (λg57 h=>?_) λg57 h=>oN g57 (oN g57 (oV (zb8 e g57 e) (hJ56 h 3)))
    ·refine om e (jO 3 58 h (λq58 h=>?_) λJ59 h hJ59=>oI h (λg60 h=>?_) λg60 h=>oN g60 (oN g60 (oV (zb8 e g60 e) (hJ59 h 3))))
     ·refine om e (jO 10 69 h (λq61 h=>?_) λJ62 h hJ62=>oI h (λg63 h=>?_) λg63 h=>oN g63 (oN g63 (oN g63 (oN g63 (oN g63 (oN g63 (oN g63 (oN g63 (oN g63 (oV (zb8 e g63 e) (hJ62 h 10)))))))))))
      ·refine rn (zcr h e (λ_ h=>?_) (λ_ h=>wk (zdS (om e (om e (oT (zcf (l:=([y52]:(List Int))) zqC (.cons e hI .nil) e e (zbk (zef) (oT (zcf (l:=[NL.mk (([y52]:(List Int))) (some none)]) zAa (.cons e zra .nil) e e (zbF h λq77 h=>oT (zqs (m:=[NL.mk (([y52]:(List Int))) (some none)]) zpB e e zb9 (.there .here) (by first | rfl | simp) (by rw [zfE];exact q77) λv76=>zbk (zrH .here) (zbk (zbo (R':=zbu v76 (q17.1 ++ [([y52]:(List Int))]).length) 84 e (zix (by simp))) (oa e (rb (hJ50 h (v76,none) 30))))))))))))))))
       exact ws (om e (om e (om e (om e (zce h λq66 h=>oV (zm9 (α:=NL Int) zmg e e q66.1 q66.2) (zce h λq67 h=>zau h λy68 hy68 h=>oT (znO zmS e .here (zhZ q67 hy68) (zbk (zbo 75 e zwa) (om e (oT (zcf (l:=([y52]:(List Int))) zqC (.cons e hI .nil) e e (zbF h λq71 h=>oT (ziY (l:=y68) (m:=([y52]:(List Int))) ziN e hI e zb9 (.there .here) q71 λt70=>zce h λq72 h=>oV (zm9 (α:=NL Int) zmg e e q72.1 q72.2) (zce h λq73 h=>zau h λy74 hy74 h=>zbk (zbo 78 e zra) (oT (zoi zmS e e (.there .here) (zhZ q73 hy74) (zbk (zse .here (zmZ q73)) (zbk (zbo (R':=zbu g17.1 (q17.1.set ((((q17.1.length:Nat):Int) - (1:Int)).toNat) (y68 ++ ([y52]:(List Int)))).length) 6 e (zix (by simp))) (zbk (zbo (R':=zbu g17.1 (q17.1.set ((((q17.1.length:Nat):Int) - (1:Int)).toNat) (y68 ++ ([y52]:(List Int)))).length) 39 e (zix (by simp))) (zbk (zbo (R':=zbu g17.1 (q17.1.set ((((q17.1.length:Nat):Int) - (1:Int)).toNat) (y68 ++ ([y52]:(List Int)))).length) 70 e (zix (by simp))) (zbk (zbo (R':=zbu g17.1 (q17.1.set ((((q17.1.length:Nat):Int) - (1:Int)).toNat) (y68 ++ ([y52]:(List Int)))).length) 72 e (zix (by simp))) (rn (xn (zeK (hJ50 h (g17.1,t70) 39)))))))))))))))))))))))))
      exact oG g63 (vI e zg.f4 zlh y3.fields) (oG g63 (zan zpQ e) (oG g63 (zc2 e) (zfj h λq64 h=>oG g63 (zqc e e q64) (zau h λy65 hy65 h=>oG g63 (vX e e zp5 hy65) (oG g63 (vI e zaB.f5 znR y65.group) (oG g63 (zan ty3 e) (oG g63 (zc2 e) (oG g63 (zoD e e) (oV (zb7 e g63 e) (hJ62 h 10))))))))))
     exact oG g60 (zc2 e) (oG g60 (zz8 e e) (oV (zb7 e g60 e) (hJ59 h 3)))
    exact oG g57 (zc2 e) (oG g57 (zmb e e) (oV (zb7 e g57 e) (hJ56 h 3)))
   exact zeK (zc5 (ws (om e (ar e (zg1 (zhn 4 .here e (by first | rfl | simp)) (zg1 (zbo 4 e (zk3 (t:=g17.2) (L:=(q17.1:List (List Int))))) (zdC (r1 e) k0 (iS h ▸ ⟨e,e⟩))))))))
  exact oG g10 (vI e zg.f0 ziT y3.kind) (oG g10 (zan ty3 e) (oG g10 (zk8 e e) (oV (zb7 e g10 e) (hJ9 h 4))))
 exact oG g7 (vI e zg.f0 ziT y3.kind) (oG g7 (zan ty3 e) (oG g7 (zk8 e e) (oV (zb7 e g7 e) (hJ6 h 4))))


instance order_Slots_g a_t a_i:zd Tryz.prog 186 (zfz a_t a_i) (.mk [isv a_t,isv a_i] [] λr=>.mk [isv r] []):=⟨λr h=>by
 exact zpz h⟩

section
attribute [local irreducible] isv zbn zar zbK zbu zeh zeA zgz zgk zdX zdG zcP zj zO zN cal br ck asr jp lp zs
instance tags_Less_g a_a a_b:zd Tryz.prog 187 (zjB a_a a_b) (.mk [isv a_a,isv a_b] [] λr=>.mk [isv r] []):=by
 unfold zjB
 exact W .a Tryz.func187 e

instance value_checker_raws_g a_c a_i a_v:zd Tryz.prog 157 (zcS a_c a_i a_v) (.b λzcy=>.mk [zar zcy (Fld.id zt),isv a_i,isv a_v] [zj zcy (a_c:zt)] λr=>.mk [isv r.1] [zj zcy (r.2)]):=by
 unfold zcS
 exact W (.b .a (.o 0 42 (.b .a (.q 1 (.k (.b 1 λzcy=>.b 0 λb10=>.m [true,true] (.v (λq11:Int × Int × Tag × zt=>[(8,isv q11.1),(54,isv q11.2.1)]) λq11=>[zj b10 (q11.2.2.1:Tag),zj zcy (q11.2.2.2:zt)])) (.b (.w [] (.j 0 (.b 1 λzcy=>.b 0 λb10=>.m [true,true] (.v (λq41:Int × Tag × zt=>[(8,isv q41.1)]) λq41=>[zj b10 (q41.2.1:Tag),zj zcy (q41.2.2:zt)])) .a (.b (.o 6 70 (.o 0 76 .a .a) .a) (.o 15 94 (.o 0 109 .a (.b .a (.o 7 102 (.o 1 108 .a .a) .a))) .a))) .a) .a)))) (.b .a (.o 1 41 .a .a)))) Tryz.func157 e

instance value_Absent_g a_v:zd Tryz.prog 73 (zeY a_v) (.mk [isv a_v] [] λr=>.mk [isv r] []):=by
 unfold zeY
 exact W (.o 1 9 .a .a) Tryz.func73 e

instance bytes_Equal_g a_a a_b:zd Tryz.prog 150 (ziH a_a a_b) (.mk [isv a_a,isv a_b] [] λr=>.mk [isv r] []):=by
 unfold ziH
 exact W .a Tryz.func150 e

end
section
attribute [local irreducible] isv zbn zar zbK zbu zeh zeA zgz zgk zdX zdG zcP zj zO zN cal br ck asr jp lp zs

instance value_sameRaw_g a_a a_b:zd Tryz.prog 153 (zfR a_a a_b) (.mk [isv a_a,isv a_b] [] λr=>.mk [isv r] []):=by
 unfold zfR
 exact W (.o 1 16 .a .a) Tryz.func153 e

instance slices_EqualFunc_Lapi_Raw_Lapi_Raw_api_Raw_api_Raw_g a_s1 a_s2:zd Tryz.prog 152 (za3 a_s1 a_s2) (.mk [isv a_s1,isv a_s2,zdX 153 []] [] λr=>.mk [isv r] []):=by
 unfold za3
 exact W (.b .a (.l [17] .a)) Tryz.func152 e

abbrev zgN (a_a:Val) (a_b:Val):AC (Bool):=.mk [isv a_a,isv a_b] [] λr=>.mk [isv r] []
abbrev zaC (a_s1:(List Val)) (a_s2:(List Val)):AC (Bool):=.mk [isv a_s1,isv a_s2,zdX 106 []] [] λr=>.mk [isv r] []
theorem zpv {zd1:Val->Val->Option (Bool)} {zp:(List Val)->(List Val)->Option (Bool)} [∀ a_a a_b,zd Tryz.prog 106 (zd1 a_a a_b) (zgN a_a a_b)] [∀ a_s1 a_s2,zd Tryz.prog 151 (zp a_s1 a_s2) (zaC a_s1 a_s2)] a_a a_b:zd Tryz.prog 106 (zgQ zd1 zp a_a a_b) (zgN a_a a_b):=by
 unfold zgQ
 exact W (.o 29 16 (.o 22 23 (.o 15 30 (.o 8 37 (.o 1 44 .a .a) .a) .a) .a) .a) Tryz.func106 e
theorem zde {zd1:Val->Val->Option (Bool)} {zp:(List Val)->(List Val)->Option (Bool)} [∀ a_a a_b,zd Tryz.prog 106 (zd1 a_a a_b) (zgN a_a a_b)] [∀ a_s1 a_s2,zd Tryz.prog 151 (zp a_s1 a_s2) (zaC a_s1 a_s2)] a_s1 a_s2:zd Tryz.prog 151 (zak zd1 zp a_s1 a_s2) (zaC a_s1 a_s2):=by
 unfold zak
 exact W (.b .a (.l [17] .a)) Tryz.func151 e
theorem zjJ:∀ n,(∀ a_a a_b,zd Tryz.prog 106 (ze1 n a_a a_b) (zgN a_a a_b))/\(∀ a_s1 a_s2,zd Tryz.prog 151 (zam n a_s1 a_s2) (zaC a_s1 a_s2))
 | 0=>⟨λ_ _=>⟨λr h=>by cases h⟩,λ_ _=>⟨λr h=>by cases h⟩⟩
 | n + 1=>by
  obtain ⟨h0,h1⟩:=zjJ n
  exact ⟨λa_a a_b=>zpv (zd1:=ze1 n) (zp:=zam n) a_a a_b,λa_s1 a_s2=>zde (zd1:=ze1 n) (zp:=zam n) a_s1 a_s2⟩
instance value_Same_g n a_a a_b:zd Tryz.prog 106 (ze1 n a_a a_b) (zgN a_a a_b):=(zjJ n).1 a_a a_b
instance value_checker_groups_g a_c a_i a_v:zd Tryz.prog 159 (zcv a_c a_i a_v) (.b λzcy=>.mk [zar zcy (Fld.id zt),isv a_i,isv a_v] [zj zcy (a_c:zt)] λr=>.mk [isv r.1] [zj zcy (r.2)]):=by
 unfold zcv
 exact W (.l [32] (.b (.w [] (.j 0 (.m [] (.v (λq48:Unit=>[]) λq48=>[])) .a (.d 0 (.b .a (.l [10,11,47] (.b (.o 1 61 (.o 1 84 .a (.b .a (.o 11 74 (.o 2 83 .a .a) .a))) .a) (.o 0 89 .a .a)))))) .a) .a)) Tryz.func159 e

end
end Go.Proofs.Q
