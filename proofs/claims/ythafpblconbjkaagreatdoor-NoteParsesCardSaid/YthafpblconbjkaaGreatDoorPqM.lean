/- Walks, printed by mill.py and grow.py. -/
import Derived.Test.YthafpblconbjkaaGreatDoorPqL
set_option linter.unusedVariables false
set_option linter.unusedSimpArgs false
set_option maxRecDepth 4000
set_option maxHeartbeats 4000000
namespace Go.Proofs.Q
open Go.Sy
section
attribute [local irreducible] isv zbn zal zbK zbw zem zeI zgQ zf1 zdV zdI zcO zj zO zI cal br ck asr jp lp zq

instance value_checker_foreign_g a_c a_i a_b:zd Tryz.prog 154 (zek a_c a_i a_b) (.b λzcD=>.mk [zal zcD (Fld.id zy),isv a_i,isv a_b] [zj zcD (a_c:zy)] λr=>.mk [isv r.1,isv r.2.1] [zj zcD (r.2.2)]):=by
 unfold zek
 exact W (.q 0 (.q 1 (.o 0 31 (.b .a (.w [14] .a .a)) .a))) Tryz.func154 e

instance value_Item_c1_g a_y a_a1:zd Tryz.prog 124 (zgk a_y a_a1) (.mk [isv a_y,zbn (a_a1)] [] λr=>.mk [isv r] []):=by
 unfold zgk
 exact W .a Tryz.func124 e

instance slices_IndexFunc_Lapi_Item_api_Item_g a_s za9:zd Tryz.prog 123 (za7 a_s za9) (.mk [isv a_s,zdV 124 [zbn (za9)]] [] λr=>.mk [isv r] []):=by
 unfold za7
 exact W (.l [8] .a) Tryz.func123 e

instance value_Item_g a_x a_n_:zd Tryz.prog 69 (zeb a_x a_n_) (.mk [isv a_x,isv a_n_] [] λr=>.mk [isv r] []):=by
 unfold zeb
 exact W .a Tryz.func69 e

instance value_open_g a_b:zd Tryz.prog 155 (zjZ a_b) (.mk [isv a_b] [] λr=>.mk [isv r] []):=by
 unfold zjZ
 exact W (.o 1 10 .a .a) Tryz.func155 e

instance value_checker_unknown_g a_c a_i a_v:zd Tryz.prog 107 (zei a_c a_i a_v) (.b λzcD=>.mk [zal zcD (Fld.id zy),isv a_i,isv a_v] [zj zcD (a_c:zy)] λr=>.mk [isv r.1] [zj zcD (r.2)]):=by
 unfold zei
 exact W (.o 10 35 (.o 0 45 (.b .a (.b (.o 6 58 (.o 1 63 .a .a) .a) (.o 1 80 (.b (.o 1 94 .a .a) (.b (.o 1 109 .a .a) (.o 6 119 (.o 1 124 .a .a) .a))) .a))) .a) (.b .a (.o 11 34 .a .a))) Tryz.func107 e

instance value_plain_g a_v zit:zd Tryz.prog 108 (zcZ a_v zit) (.mk [isv a_v,isv zit] [] λr=>.mk [isv r] []):=by
 unfold zcZ
 exact W (.o 39 12 (.o 28 23 (.o 17 34 (.o 1 50 .a (.b (.o 2 49 .a (.b .a (.o 3 48 .a .a))) .a)) (.b (.o 18 33 .a .a) .a)) (.b (.o 29 22 .a .a) .a)) .a) Tryz.func108 e

instance bounds_Within_g a_c a_v:zd Tryz.prog 109 (zeD a_c a_v) (.mk [isv a_c,isv a_v] [] λr=>.mk [isv r] []):=by
 unfold zeD
 exact W (.o 1 29 .a (.b .a (.o 13 17 (.o 2 28 .a (.b (.o 3 27 .a .a) .a)) .a))) Tryz.func109 e

instance value_checker_string_g a_c a_x a_v:zd Tryz.prog 110 (zdD a_c a_x a_v) (.b λzcD=>.mk [zal zcD (Fld.id zy),isv a_x,isv a_v] [zj zcD (a_c:zy)] λr=>.mk [isv r.1] [zj zcD (r.2)]):=by
 unfold zdD
 exact W (.o 24 14 (.o 11 27 (.o 1 37 .a (.b (.o 2 36 .a .a) .a)) (.b (.o 12 26 .a .a) .a)) .a) Tryz.func110 e

instance order_there_g a_t a_i:zd Tryz.prog 210 (zhN a_t a_i) (.mk [isv a_t,isv a_i] [] λr=>.mk [isv r] []):=by
 unfold zhN
 exact W (.q 0 (.q 1 (.o 0 13 .a .a))) Tryz.func210 e

instance order_places_g zdh a_to:zd Tryz.prog 211 (zhk zdh a_to) (.mk [isv zdh,isv a_to] [] λr=>.v λu1=>.mk [zbw u1 ((r).length)] [zI u1 r]):=by
 unfold zhk
 exact W (.u 4 (.u 5 (.k (.m [] (.w λt0=>.v (λq3:(List Int) × Int=>[(5,zbw t0 (q3.1.length)),(6,isv q3.2)]) λq3=>[zI t0 q3.1])) .a))) Tryz.func211 e

end
theorem zoN {a_t a_i r} (h:zfD a_t a_i=some r):Ctr Tryz.prog 186 [isv a_t,isv a_i] [] (Pt [isv r] []):=by
 unfold zfD at h
 refine zeu Tryz.func186 e λw0 S0 hT=>ws (oT (tB e (oa e (zbj (zel) (zbj (ziX (α:=NL Int)) (zbj (zbp 4 e zlv) (rn (ws (oV (zao zoz e) (om e (zat h λy3 hy3 h=>oT (tC (cw (P:=Tryz.prog) (f:=210) hy3) hT (s2 e e) k0 (oT (zhZ _ zyB λb4=>oT (tS zvL e e p0 y3 (zbj (zns 5 .here e) (rn (ss (oV (vI e zg.f0 ziT y3.kind) (oV (zao ty3 e) (oV (zkK e e) (om e (jO 4 21 h (λq5 h=>?_) λJ6 h hJ6=>oI h (λg7 h=>?_) λg7 h=>oN g7 (oN g7 (oN g7 (oV (zcb e g7 e) (hJ6 h 4)))))))))))))))))))))))))))
 ·refine om e (jO 4 26 h (λq8 h=>?_) λJ9 h hJ9=>oI h (λg10 h=>?_) λg10 h=>oN g10 (oN g10 (oN g10 (oV (zcb e g10 e) (hJ9 h 4)))))
  ·refine rn (zcu h e (λ_ h=>?_) (λ_ h=>wk (ws (oa e (zbj (zel) (zbj (ziX (α:=NL Int)) (zbj (zbp 6 e zlv) (rn (ss (oV (vI e zg.f5 zqs y3.root) (oV (zao ty3 e) (oV (zyF e e) (oV (vI e zg.f4 zlk y3.fields) (oV (zao zo4 e) (oV (vN e zpy) (zat h λy15 hy15 h=>oT (tC1 (cw (P:=Tryz.prog) (f:=211) hy15) hT (s2 e e) k0 (λv16=>oV (zoK zuR e) (om e (rn (zej (lP h (Vt × Tok) (none,none) (λq17 g17=>[(6,zbw g17.1 (q17.1.length)),(35,isv q17.2)]) (λq17 g17=>[zI g17.1 (zgf g17.2 (q17.1:List (List Int))),zO g17.2]) (zev (j:=6) e (ziH (by first | rfl | simp)) (zev (j:=35) e hI zh4)) (a1 (a1 k0)) λL18 q17 g17 Q79 h hL18 eL18 rL18=>ws (oV (zmh e e) (rn (zeT (zcu h e (λ_ h=>?_) (λ_ h=>xn (eL18 _ _ ?_))))))))))))))))))))))))))))
   ·exact ws (oa e (zbj (zel) (zbj (ziX (α:=NL Int)) (zbj (zbp 4 e zlv) (rn (znZ (zhD (zg1 (zhK 4 .here e (by first | rfl | simp)) (zg1 (zbp 4 e (zk8 (t:=none) (L:=(([]:(List (List Int))):List (List Int))))) (zdy (r1 e) k0 (iS h ▸ ⟨e,e⟩)))))))))))
   ·refine wk (zeT (jw h (Vt × Tok) (λq49 g49=>[(6,zbw g49.1 (q49.length))]) (λq49 g49=>[zI g49.1 (zgf g49.2 (q49:List (List Int))),zO g49.2]) k2 (λq49 g49 h=>?_) λJ50 h hJ50=>zej (ws (zcf h λq51 h=>oV (zmV (α:=Int) zuR e e q51.1 q51.2) (zat h λy52 hy52 h=>oT (znt ty3 e (.there (.there .here)) hy52 (an e (ws (om e (oV (zoK zmg e) (zfx h λq53 h=>oV (zpH e e q53) (an e (ss (oV (vI e zg.f4 zlk y3.fields) (oV (zao zo4 e) (om e (zat h λy54 hy54 h=>oV (vX e e zpy hy54) (oV (vI e zaF.f5 znA y54.group) (oV (zao ty3 e) (an e (ws (oV (vI e zg.f0 ziT y3.kind) (oV (zao ty3 e) (oV (zkK e e) (om e ?_)))))))))))))))))))))))))
    ·exact zdU (zfx h λq78 h=>oV (zpl e e q78) (om e (zkU (hL18 h (g49.1,g49.2) 6))))
    refine jO 3 54 h (λq55 h=>?_) λJ56 h hJ56=>oI h (λg57 h=>?_) λg57 h=>oN g57 (oN g57 (oV (zcb e g57 e) (hJ56 h 3)))
    ·refine om e (jO 3 58 h (λq58 h=>?_) λJ59 h hJ59=>oI h (λg60 h=>?_) λg60 h=>oN g60 (oN g60 (oV (zcb e g60 e) (hJ59 h 3))))
     ·refine om e (jO 10 69 h (λq61 h=>?_) λJ62 h hJ62=>oI h (λg63 h=>?_) λg63 h=>oN g63 (oN g63 (oN g63 (oN g63 (oN g63 (oN g63 (oN g63 (oN g63 (oN g63 (oV (zcb e g63 e) (hJ62 h 10)))))))))))
      ·refine rn (zcu h e (λ_ h=>?_) (λ_ h=>wk (zdU (om e (om e (oT (zcj (l:=([y52]:(List Int))) zp7 (.cons e hI .nil) e e (zbj (zel) (oT (zcj (l:=[NL.mk (([y52]:(List Int))) (some none)]) zyr (.cons e zql .nil) e e (zbC h λq77 h=>oT (zqy (m:=[NL.mk (([y52]:(List Int))) (some none)]) zpA e e zb7 (.there .here) (by first | rfl | simp) (by rw [zfT];exact q77) λv76=>zbj (zqN .here) (zbj (zbp (R':=zbw v76 (q17.1 ++ [([y52]:(List Int))]).length) 84 e (ziH (by simp))) (oa e (rb (hJ50 h (v76,none) 30))))))))))))))))
       exact ws (om e (om e (om e (om e (zcf h λq66 h=>oV (zmV (α:=NL Int) zmg e e q66.1 q66.2) (zcf h λq67 h=>zat h λy68 hy68 h=>oT (znt zmU e .here (zip q67 hy68) (zbj (zbp 75 e zv5) (om e (oT (zcj (l:=([y52]:(List Int))) zp7 (.cons e hI .nil) e e (zbC h λq71 h=>oT (zjf (l:=y68) (m:=([y52]:(List Int))) ziS e hI e zb7 (.there .here) q71 λt70=>zcf h λq72 h=>oV (zmV (α:=NL Int) zmg e e q72.1 q72.2) (zcf h λq73 h=>zat h λy74 hy74 h=>zbj (zbp 78 e zql) (oT (zoJ zmU e e (.there .here) (zip q73 hy74) (zbj (zrV .here (zmH q73)) (zbj (zbp (R':=zbw g17.1 (q17.1.set ((((q17.1.length:Nat):Int) - (1:Int)).toNat) (y68 ++ ([y52]:(List Int)))).length) 6 e (ziH (by simp))) (zbj (zbp (R':=zbw g17.1 (q17.1.set ((((q17.1.length:Nat):Int) - (1:Int)).toNat) (y68 ++ ([y52]:(List Int)))).length) 39 e (ziH (by simp))) (zbj (zbp (R':=zbw g17.1 (q17.1.set ((((q17.1.length:Nat):Int) - (1:Int)).toNat) (y68 ++ ([y52]:(List Int)))).length) 70 e (ziH (by simp))) (zbj (zbp (R':=zbw g17.1 (q17.1.set ((((q17.1.length:Nat):Int) - (1:Int)).toNat) (y68 ++ ([y52]:(List Int)))).length) 72 e (ziH (by simp))) (rn (xn (zeR (hJ50 h (g17.1,t70) 39)))))))))))))))))))))))))
      exact oG g63 (vI e zg.f4 zlk y3.fields) (oG g63 (zao zo4 e) (oG g63 (zc0 e) (zfx h λq64 h=>oG g63 (zpH e e q64) (zat h λy65 hy65 h=>oG g63 (vX e e zpy hy65) (oG g63 (vI e zaF.f5 znA y65.group) (oG g63 (zao ty3 e) (oG g63 (zc0 e) (oG g63 (zou e e) (oV (zb8 e g63 e) (hJ62 h 10))))))))))
     exact oG g60 (zc0 e) (oG g60 (zyp e e) (oV (zb8 e g60 e) (hJ59 h 3)))
    exact oG g57 (zc0 e) (oG g57 (zl6 e e) (oV (zb8 e g57 e) (hJ56 h 3)))
   exact zeR (zc7 (ws (om e (ar e (zg1 (zhK 4 .here e (by first | rfl | simp)) (zg1 (zbp 4 e (zk8 (t:=g17.2) (L:=(q17.1:List (List Int))))) (zdy (r1 e) k0 (iS h ▸ ⟨e,e⟩))))))))
  exact oG g10 (vI e zg.f0 ziT y3.kind) (oG g10 (zao ty3 e) (oG g10 (zkK e e) (oV (zb8 e g10 e) (hJ9 h 4))))
 exact oG g7 (vI e zg.f0 ziT y3.kind) (oG g7 (zao ty3 e) (oG g7 (zkK e e) (oV (zb8 e g7 e) (hJ6 h 4))))


instance order_Slots_g a_t a_i:zd Tryz.prog 186 (zfD a_t a_i) (.mk [isv a_t,isv a_i] [] λr=>.mk [isv r] []):=⟨λr h=>by
 exact zoN h⟩

section
attribute [local irreducible] isv zbn zal zbK zbw zem zeI zgQ zf1 zdV zdI zcO zj zO zI cal br ck asr jp lp zq
instance tags_Less_g a_a a_b:zd Tryz.prog 187 (zmM a_a a_b) (.mk [isv a_a,isv a_b] [] λr=>.mk [isv r] []):=by
 unfold zmM
 exact W .a Tryz.func187 e

instance value_checker_raws_g a_c a_i a_v:zd Tryz.prog 157 (zdo a_c a_i a_v) (.b λzcD=>.mk [zal zcD (Fld.id zy),isv a_i,isv a_v] [zj zcD (a_c:zy)] λr=>.mk [isv r.1] [zj zcD (r.2)]):=by
 unfold zdo
 exact W (.b .a (.o 0 42 (.b .a (.q 1 (.k (.b 1 λzcD=>.b 0 λb10=>.m [true,true] (.v (λq11:Int × Int × Tag × zy=>[(8,isv q11.1),(54,isv q11.2.1)]) λq11=>[zj b10 (q11.2.2.1:Tag),zj zcD (q11.2.2.2:zy)])) (.b (.w [] (.j 0 (.b 1 λzcD=>.b 0 λb10=>.m [true,true] (.v (λq41:Int × Tag × zy=>[(8,isv q41.1)]) λq41=>[zj b10 (q41.2.1:Tag),zj zcD (q41.2.2:zy)])) .a (.b (.o 6 70 (.o 0 76 .a .a) .a) (.o 15 94 (.o 0 109 .a (.b .a (.o 7 102 (.o 1 108 .a .a) .a))) .a))) .a) .a)))) (.b .a (.o 1 41 .a .a)))) Tryz.func157 e

instance value_Absent_g a_v:zd Tryz.prog 73 (ze5 a_v) (.mk [isv a_v] [] λr=>.mk [isv r] []):=by
 unfold ze5
 exact W (.o 1 9 .a .a) Tryz.func73 e

instance bytes_Equal_g a_a a_b:zd Tryz.prog 150 (ziZ a_a a_b) (.mk [isv a_a,isv a_b] [] λr=>.mk [isv r] []):=by
 unfold ziZ
 exact W .a Tryz.func150 e

end
section
attribute [local irreducible] isv zbn zal zbK zbw zem zeI zgQ zf1 zdV zdI zcO zj zO zI cal br ck asr jp lp zq

instance value_sameRaw_g a_a a_b:zd Tryz.prog 153 (zf4 a_a a_b) (.mk [isv a_a,isv a_b] [] λr=>.mk [isv r] []):=by
 unfold zf4
 exact W (.o 1 16 .a .a) Tryz.func153 e

instance slices_EqualFunc_Lapi_Raw_Lapi_Raw_api_Raw_api_Raw_g a_s1 a_s2:zd Tryz.prog 152 (za1 a_s1 a_s2) (.mk [isv a_s1,isv a_s2,zdV 153 []] [] λr=>.mk [isv r] []):=by
 unfold za1
 exact W (.b .a (.l [17] .a)) Tryz.func152 e

abbrev zg7 (a_a:Val) (a_b:Val):AC (Bool):=.mk [isv a_a,isv a_b] [] λr=>.mk [isv r] []
abbrev zaz (a_s1:(List Val)) (a_s2:(List Val)):AC (Bool):=.mk [isv a_s1,isv a_s2,zdV 106 []] [] λr=>.mk [isv r] []
theorem zoV {zdZ:Val->Val->Option (Bool)} {zr:(List Val)->(List Val)->Option (Bool)} [∀ a_a a_b,zd Tryz.prog 106 (zdZ a_a a_b) (zg7 a_a a_b)] [∀ a_s1 a_s2,zd Tryz.prog 151 (zr a_s1 a_s2) (zaz a_s1 a_s2)] a_a a_b:zd Tryz.prog 106 (zgT zdZ zr a_a a_b) (zg7 a_a a_b):=by
 unfold zgT
 exact W (.o 29 16 (.o 22 23 (.o 15 30 (.o 8 37 (.o 1 44 .a .a) .a) .a) .a) .a) Tryz.func106 e
theorem zdg {zdZ:Val->Val->Option (Bool)} {zr:(List Val)->(List Val)->Option (Bool)} [∀ a_a a_b,zd Tryz.prog 106 (zdZ a_a a_b) (zg7 a_a a_b)] [∀ a_s1 a_s2,zd Tryz.prog 151 (zr a_s1 a_s2) (zaz a_s1 a_s2)] a_s1 a_s2:zd Tryz.prog 151 (zak zdZ zr a_s1 a_s2) (zaz a_s1 a_s2):=by
 unfold zak
 exact W (.b .a (.l [17] .a)) Tryz.func151 e
theorem zjJ:∀ n,(∀ a_a a_b,zd Tryz.prog 106 (ze1 n a_a a_b) (zg7 a_a a_b))/\(∀ a_s1 a_s2,zd Tryz.prog 151 (zan n a_s1 a_s2) (zaz a_s1 a_s2))
 | 0=>⟨λ_ _=>⟨λr h=>by cases h⟩,λ_ _=>⟨λr h=>by cases h⟩⟩
 | n + 1=>by
  obtain ⟨h0,h1⟩:=zjJ n
  exact ⟨λa_a a_b=>zoV (zdZ:=ze1 n) (zr:=zan n) a_a a_b,λa_s1 a_s2=>zdg (zdZ:=ze1 n) (zr:=zan n) a_s1 a_s2⟩
instance value_Same_g n a_a a_b:zd Tryz.prog 106 (ze1 n a_a a_b) (zg7 a_a a_b):=(zjJ n).1 a_a a_b
instance value_checker_groups_g a_c a_i a_v:zd Tryz.prog 159 (zcv a_c a_i a_v) (.b λzcD=>.mk [zal zcD (Fld.id zy),isv a_i,isv a_v] [zj zcD (a_c:zy)] λr=>.mk [isv r.1] [zj zcD (r.2)]):=by
 unfold zcv
 exact W (.l [32] (.b (.w [] (.j 0 (.m [] (.v (λq48:Unit=>[]) λq48=>[])) .a (.d 0 (.b .a (.l [10,11,47] (.b (.o 1 61 (.o 1 84 .a (.b .a (.o 11 74 (.o 2 83 .a .a) .a))) .a) (.o 0 89 .a .a)))))) .a) .a)) Tryz.func159 e

end
end Go.Proofs.Q
