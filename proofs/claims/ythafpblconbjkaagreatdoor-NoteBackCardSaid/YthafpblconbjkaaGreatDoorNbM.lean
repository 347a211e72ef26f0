/- Walks, printed by mill.py and grow.py. -/
import Derived.Test.YthafpblconbjkaaGreatDoorNbL
set_option linter.unusedVariables false
set_option linter.unusedSimpArgs false
set_option maxRecDepth 4000
set_option maxHeartbeats 4000000
namespace Go.Proofs.Q
open Go.Sy
section
attribute [local irreducible] isv zbl zar zbI zbs zef zez zgw zgg zdV zdE zcO zj zO zM cal br ck asr jp lp zs

instance value_checker_foreign_g a_c a_i a_b:zd Tryz.prog 154 (zcG a_c a_i a_b) (.b λzcw=>.mk [zar zcw (Fld.id zt),isv a_i,isv a_b] [zj zcw (a_c:zt)] λr=>.mk [isv r.1,isv r.2.1] [zj zcw (r.2.2)]):=by
 unfold zcG
 exact W (.q 0 (.q 1 (.o 0 31 (.b .a (.w [14] .a .a)) .a))) Tryz.func154 e

instance value_Item_c1_g a_y a_a1:zd Tryz.prog 124 (zfV a_y a_a1) (.mk [isv a_y,zbl (a_a1)] [] λr=>.mk [isv r] []):=by
 unfold zfV
 exact W .a Tryz.func124 e

instance slices_IndexFunc_Lapi_Item_api_Item_g a_s za9:zd Tryz.prog 123 (zaM a_s za9) (.mk [isv a_s,zdV 124 [zbl (za9)]] [] λr=>.mk [isv r] []):=by
 unfold zaM
 exact W (.l [8] .a) Tryz.func123 e

instance value_Item_g a_x a_n_:zd Tryz.prog 69 (zdk a_x a_n_) (.mk [isv a_x,isv a_n_] [] λr=>.mk [isv r] []):=by
 unfold zdk
 exact W .a Tryz.func69 e

instance value_open_g a_b:zd Tryz.prog 155 (zhc a_b) (.mk [isv a_b] [] λr=>.mk [isv r] []):=by
 unfold zhc
 exact W (.o 1 10 .a .a) Tryz.func155 e

instance value_checker_unknown_g a_c a_i a_v:zd Tryz.prog 107 (zcI a_c a_i a_v) (.b λzcw=>.mk [zar zcw (Fld.id zt),isv a_i,isv a_v] [zj zcw (a_c:zt)] λr=>.mk [isv r.1] [zj zcw (r.2)]):=by
 unfold zcI
 exact W (.o 10 35 (.o 0 45 (.b .a (.b (.o 6 58 (.o 1 63 .a .a) .a) (.o 1 80 (.b (.o 1 94 .a .a) (.b (.o 1 109 .a .a) (.o 6 119 (.o 1 124 .a .a) .a))) .a))) .a) (.b .a (.o 11 34 .a .a))) Tryz.func107 e

instance value_plain_g a_v zik:zd Tryz.prog 108 (zcZ a_v zik) (.mk [isv a_v,isv zik] [] λr=>.mk [isv r] []):=by
 unfold zcZ
 exact W (.o 39 12 (.o 28 23 (.o 17 34 (.o 1 50 .a (.b (.o 2 49 .a (.b .a (.o 3 48 .a .a))) .a)) (.b (.o 18 33 .a .a) .a)) (.b (.o 29 22 .a .a) .a)) .a) Tryz.func108 e

instance bounds_Within_g a_c a_v:zd Tryz.prog 109 (zev a_c a_v) (.mk [isv a_c,isv a_v] [] λr=>.mk [isv r] []):=by
 unfold zev
 exact W (.o 1 29 .a (.b .a (.o 13 17 (.o 2 28 .a (.b (.o 3 27 .a .a) .a)) .a))) Tryz.func109 e

instance value_checker_string_g a_c a_x a_v:zd Tryz.prog 110 (zdz a_c a_x a_v) (.b λzcw=>.mk [zar zcw (Fld.id zt),isv a_x,isv a_v] [zj zcw (a_c:zt)] λr=>.mk [isv r.1] [zj zcw (r.2)]):=by
 unfold zdz
 exact W (.o 24 14 (.o 11 27 (.o 1 37 .a (.b (.o 2 36 .a .a) .a)) (.b (.o 12 26 .a .a) .a)) .a) Tryz.func110 e

instance order_there_g a_t a_i:zd Tryz.prog 210 (zhp a_t a_i) (.mk [isv a_t,isv a_i] [] λr=>.mk [isv r] []):=by
 unfold zhp
 exact W (.q 0 (.q 1 (.o 0 13 .a .a))) Tryz.func210 e

instance order_places_g zek a_to:zd Tryz.prog 211 (zgA zek a_to) (.mk [isv zek,isv a_to] [] λr=>.v λu1=>.mk [zbs u1 ((r).length)] [zM u1 r]):=by
 unfold zgA
 exact W (.u 4 (.u 5 (.k (.m [] (.w λt0=>.v (λq3:(List Int) × Int=>[(5,zbs t0 (q3.1.length)),(6,isv q3.2)]) λq3=>[zM t0 q3.1])) .a))) Tryz.func211 e

end
theorem zpv {a_t a_i r} (h:zfo a_t a_i=some r):Ctr Tryz.prog 186 [isv a_t,isv a_i] [] (Pt [isv r] []):=by
 unfold zfo at h
 refine zen Tryz.func186 e λw0 S0 hT=>ws (oT (tB e (oa e (zbi (zed) (zbi (ziF (α:=NL Int)) (zbi (zbm 4 e zlC) (rn (ws (oV (zan zn2 e) (om e (zav h λy3 hy3 h=>oT (tC (cw (P:=Tryz.prog) (f:=210) hy3) hT (s2 e e) k0 (oT (zhF _ zzR λb4=>oT (tS zwE e e p0 y3 (zbi (znO 5 .here e) (rn (ss (oV (vI e zg.f0 ziM y3.kind) (oV (zan ty3 e) (oV (zk2 e e) (om e (jO 4 21 h (λq5 h=>?_) λJ6 h hJ6=>oI h (λg7 h=>?_) λg7 h=>oN g7 (oN g7 (oN g7 (oV (zb5 e g7 e) (hJ6 h 4)))))))))))))))))))))))))))
 ·refine om e (jO 4 26 h (λq8 h=>?_) λJ9 h hJ9=>oI h (λg10 h=>?_) λg10 h=>oN g10 (oN g10 (oN g10 (oV (zb5 e g10 e) (hJ9 h 4)))))
  ·refine rn (zcp h e (λ_ h=>?_) (λ_ h=>wk (ws (oa e (zbi (zed) (zbi (ziF (α:=NL Int)) (zbi (zbm 6 e zlC) (rn (ss (oV (vI e zg.f5 zqC y3.root) (oV (zan ty3 e) (oV (zzY e e) (oV (vI e zg.f4 zld y3.fields) (oV (zan zpW e) (oV (vN e zpG) (zav h λy15 hy15 h=>oT (tC1 (cw (P:=Tryz.prog) (f:=211) hy15) hT (s2 e e) k0 (λv16=>oV (zo4 zu5 e) (om e (rn (zec (lP h (Vt × Tok) (none,none) (λq17 g17=>[(6,zbs g17.1 (q17.1.length)),(35,isv q17.2)]) (λq17 g17=>[zM g17.1 (zfP g17.2 (q17.1:List (List Int))),zO g17.2]) (zel (j:=6) e (zh6 (by first | rfl | simp)) (zel (j:=35) e hI zhG)) (a1 (a1 k0)) λL18 q17 g17 Q79 h hL18 eL18 rL18=>ws (oV (zl3 e e) (rn (zeL (zcp h e (λ_ h=>?_) (λ_ h=>xn (eL18 _ _ ?_))))))))))))))))))))))))))))
   ·exact ws (oa e (zbi (zed) (zbi (ziF (α:=NL Int)) (zbi (zbm 4 e zlC) (rn (zoy (zhi (zgW (zhn 4 .here e (by first | rfl | simp)) (zgW (zbm 4 e (zkG (t:=none) (L:=(([]:(List (List Int))):List (List Int))))) (zdB (r1 e) k0 (iS h ▸ ⟨e,e⟩)))))))))))
   ·refine wk (zeL (jw h (Vt × Tok) (λq49 g49=>[(6,zbs g49.1 (q49.length))]) (λq49 g49=>[zM g49.1 (zfP g49.2 (q49:List (List Int))),zO g49.2]) k2 (λq49 g49 h=>?_) λJ50 h hJ50=>zec (ws (zcd h λq51 h=>oV (zna (α:=Int) zu5 e e q51.1 q51.2) (zav h λy52 hy52 h=>oT (znK ty3 e (.there (.there .here)) hy52 (an e (ws (om e (oV (zo4 zmA e) (zfw h λq53 h=>oV (zpw e e q53) (an e (ss (oV (vI e zg.f4 zld y3.fields) (oV (zan zpW e) (om e (zav h λy54 hy54 h=>oV (vX e e zpG hy54) (oV (vI e zaC.f5 znN y54.group) (oV (zan ty3 e) (an e (ws (oV (vI e zg.f0 ziM y3.kind) (oV (zan ty3 e) (oV (zk2 e e) (om e ?_)))))))))))))))))))))))))
    ·exact zdQ (zfw h λq78 h=>oV (zpL e e q78) (om e (zkX (hL18 h (g49.1,g49.2) 6))))
    refine jO 3 54 h (λq55 h=>?_) λJ56 h hJ56=>oI h (λg57 h=>?_) λg57 h=>oN g57 (oN g57 (oV (zb5 e g57 e) (hJ56 h 3)))
    ·refine om e (jO 3 58 h (λq58 h=>?_) λJ59 h hJ59=>oI h (λg60 h=>?_) λg60 h=>oN g60 (oN g60 (oV (zb5 e g60 e) (hJ59 h 3))))
     ·refine om e (jO 10 69 h (λq61 h=>?_) λJ62 h hJ62=>oI h (λg63 h=>?_) λg63 h=>oN g63 (oN g63 (oN g63 (oN g63 (oN g63 (oN g63 (oN g63 (oN g63 (oN g63 (oV (zb5 e g63 e) (hJ62 h 10)))))))))))
      ·refine rn (zcp h e (λ_ h=>?_) (λ_ h=>wk (zdQ (om e (om e (oT (zcc (l:=([y52]:(List Int))) zqx (.cons e hI .nil) e e (zbi (zed) (oT (zcc (l:=[NL.mk (([y52]:(List Int))) (some none)]) zzX (.cons e zq2 .nil) e e (zbF h λq77 h=>oT (zq5 (m:=[NL.mk (([y52]:(List Int))) (some none)]) zp1 e e zb6 (.there .here) (by first | rfl | simp) (by rw [zfB];exact q77) λv76=>zbi (zsk .here) (zbi (zbm (R':=zbs v76 (q17.1 ++ [([y52]:(List Int))]).length) 84 e (zh6 (by simp))) (oa e (rb (hJ50 h (v76,none) 30))))))))))))))))
       exact ws (om e (om e (om e (om e (zcd h λq66 h=>oV (zna (α:=NL Int) zmA e e q66.1 q66.2) (zcd h λq67 h=>zav h λy68 hy68 h=>oT (znK zmP e .here (zh8 q67 hy68) (zbi (zbm 75 e zxi) (om e (oT (zcc (l:=([y52]:(List Int))) zqx (.cons e hI .nil) e e (zbF h λq71 h=>oT (ziX (l:=y68) (m:=([y52]:(List Int))) ziL e hI e zb6 (.there .here) q71 λt70=>zcd h λq72 h=>oV (zna (α:=NL Int) zmA e e q72.1 q72.2) (zcd h λq73 h=>zav h λy74 hy74 h=>zbi (zbm 78 e zq2) (oT (zo8 zmP e e (.there .here) (zh8 q73 hy74) (zbi (zr8 .here (zmX q73)) (zbi (zbm (R':=zbs g17.1 (q17.1.set ((((q17.1.length:Nat):Int) - (1:Int)).toNat) (y68 ++ ([y52]:(List Int)))).length) 6 e (zh6 (by simp))) (zbi (zbm (R':=zbs g17.1 (q17.1.set ((((q17.1.length:Nat):Int) - (1:Int)).toNat) (y68 ++ ([y52]:(List Int)))).length) 39 e (zh6 (by simp))) (zbi (zbm (R':=zbs g17.1 (q17.1.set ((((q17.1.length:Nat):Int) - (1:Int)).toNat) (y68 ++ ([y52]:(List Int)))).length) 70 e (zh6 (by simp))) (zbi (zbm (R':=zbs g17.1 (q17.1.set ((((q17.1.length:Nat):Int) - (1:Int)).toNat) (y68 ++ ([y52]:(List Int)))).length) 72 e (zh6 (by simp))) (rn (xn (zeJ (hJ50 h (g17.1,t70) 39)))))))))))))))))))))))))
      exact oG g63 (vI e zg.f4 zld y3.fields) (oG g63 (zan zpW e) (oG g63 (zc0 e) (zfw h λq64 h=>oG g63 (zpw e e q64) (zav h λy65 hy65 h=>oG g63 (vX e e zpG hy65) (oG g63 (vI e zaC.f5 znN y65.group) (oG g63 (zan ty3 e) (oG g63 (zc0 e) (oG g63 (zoO e e) (oV (zb7 e g63 e) (hJ62 h 10))))))))))
     exact oG g60 (zc0 e) (oG g60 (zzU e e) (oV (zb7 e g60 e) (hJ59 h 3)))
    exact oG g57 (zc0 e) (oG g57 (zmE e e) (oV (zb7 e g57 e) (hJ56 h 3)))
   exact zeJ (zc7 (ws (om e (ar e (zgW (zhn 4 .here e (by first | rfl | simp)) (zgW (zbm 4 e (zkG (t:=g17.2) (L:=(q17.1:List (List Int))))) (zdB (r1 e) k0 (iS h ▸ ⟨e,e⟩))))))))
  exact oG g10 (vI e zg.f0 ziM y3.kind) (oG g10 (zan ty3 e) (oG g10 (zk2 e e) (oV (zb7 e g10 e) (hJ9 h 4))))
 exact oG g7 (vI e zg.f0 ziM y3.kind) (oG g7 (zan ty3 e) (oG g7 (zk2 e e) (oV (zb7 e g7 e) (hJ6 h 4))))


instance order_Slots_g a_t a_i:zd Tryz.prog 186 (zfo a_t a_i) (.mk [isv a_t,isv a_i] [] λr=>.mk [isv r] []):=⟨λr h=>by
 exact zpv h⟩

section
attribute [local irreducible] isv zbl zar zbI zbs zef zez zgw zgg zdV zdE zcO zj zO zM cal br ck asr jp lp zs
instance tags_Less_g a_a a_b:zd Tryz.prog 187 (zje a_a a_b) (.mk [isv a_a,isv a_b] [] λr=>.mk [isv r] []):=by
 unfold zje
 exact W .a Tryz.func187 e

instance value_checker_raws_g a_c a_i a_v:zd Tryz.prog 157 (zcQ a_c a_i a_v) (.b λzcw=>.mk [zar zcw (Fld.id zt),isv a_i,isv a_v] [zj zcw (a_c:zt)] λr=>.mk [isv r.1] [zj zcw (r.2)]):=by
 unfold zcQ
 exact W (.b .a (.o 0 42 (.b .a (.q 1 (.k (.b 1 λzcw=>.b 0 λb10=>.m [true,true] (.v (λq11:Int × Int × Tag × zt=>[(8,isv q11.1),(54,isv q11.2.1)]) λq11=>[zj b10 (q11.2.2.1:Tag),zj zcw (q11.2.2.2:zt)])) (.b (.w [] (.j 0 (.b 1 λzcw=>.b 0 λb10=>.m [true,true] (.v (λq41:Int × Tag × zt=>[(8,isv q41.1)]) λq41=>[zj b10 (q41.2.1:Tag),zj zcw (q41.2.2:zt)])) .a (.b (.o 6 70 (.o 0 76 .a .a) .a) (.o 15 94 (.o 0 109 .a (.b .a (.o 7 102 (.o 1 108 .a .a) .a))) .a))) .a) .a)))) (.b .a (.o 1 41 .a .a)))) Tryz.func157 e

instance value_Absent_g a_v:zd Tryz.prog 73 (zeS a_v) (.mk [isv a_v] [] λr=>.mk [isv r] []):=by
 unfold zeS
 exact W (.o 1 9 .a .a) Tryz.func73 e

instance bytes_Equal_g a_a a_b:zd Tryz.prog 150 (ziU a_a a_b) (.mk [isv a_a,isv a_b] [] λr=>.mk [isv r] []):=by
 unfold ziU
 exact W .a Tryz.func150 e

end
section
attribute [local irreducible] isv zbl zar zbI zbs zef zez zgw zgg zdV zdE zcO zj zO zM cal br ck asr jp lp zs

instance value_sameRaw_g a_a a_b:zd Tryz.prog 153 (zfW a_a a_b) (.mk [isv a_a,isv a_b] [] λr=>.mk [isv r] []):=by
 unfold zfW
 exact W (.o 1 16 .a .a) Tryz.func153 e

instance slices_EqualFunc_Lapi_Raw_Lapi_Raw_api_Raw_api_Raw_g a_s1 a_s2:zd Tryz.prog 152 (za2 a_s1 a_s2) (.mk [isv a_s1,isv a_s2,zdV 153 []] [] λr=>.mk [isv r] []):=by
 unfold za2
 exact W (.b .a (.l [17] .a)) Tryz.func152 e

abbrev zgQ (a_a:Val) (a_b:Val):AC (Bool):=.mk [isv a_a,isv a_b] [] λr=>.mk [isv r] []
abbrev zaA (a_s1:(List Val)) (a_s2:(List Val)):AC (Bool):=.mk [isv a_s1,isv a_s2,zdV 106 []] [] λr=>.mk [isv r] []
theorem zpn {zd0:Val->Val->Option (Bool)} {zp:(List Val)->(List Val)->Option (Bool)} [∀ a_a a_b,zd Tryz.prog 106 (zd0 a_a a_b) (zgQ a_a a_b)] [∀ a_s1 a_s2,zd Tryz.prog 151 (zp a_s1 a_s2) (zaA a_s1 a_s2)] a_a a_b:zd Tryz.prog 106 (zgO zd0 zp a_a a_b) (zgQ a_a a_b):=by
 unfold zgO
 exact W (.o 29 16 (.o 22 23 (.o 15 30 (.o 8 37 (.o 1 44 .a .a) .a) .a) .a) .a) Tryz.func106 e
theorem zdc {zd0:Val->Val->Option (Bool)} {zp:(List Val)->(List Val)->Option (Bool)} [∀ a_a a_b,zd Tryz.prog 106 (zd0 a_a a_b) (zgQ a_a a_b)] [∀ a_s1 a_s2,zd Tryz.prog 151 (zp a_s1 a_s2) (zaA a_s1 a_s2)] a_s1 a_s2:zd Tryz.prog 151 (zak zd0 zp a_s1 a_s2) (zaA a_s1 a_s2):=by
 unfold zak
 exact W (.b .a (.l [17] .a)) Tryz.func151 e
theorem zjN:∀ n,(∀ a_a a_b,zd Tryz.prog 106 (zeY n a_a a_b) (zgQ a_a a_b))/\(∀ a_s1 a_s2,zd Tryz.prog 151 (zam n a_s1 a_s2) (zaA a_s1 a_s2))
 | 0=>⟨λ_ _=>⟨λr h=>by cases h⟩,λ_ _=>⟨λr h=>by cases h⟩⟩
 | n + 1=>by
  obtain ⟨h0,h1⟩:=zjN n
  exact ⟨λa_a a_b=>zpn (zd0:=zeY n) (zp:=zam n) a_a a_b,λa_s1 a_s2=>zdc (zd0:=zeY n) (zp:=zam n) a_s1 a_s2⟩
instance value_Same_g n a_a a_b:zd Tryz.prog 106 (zeY n a_a a_b) (zgQ a_a a_b):=(zjN n).1 a_a a_b
instance value_checker_groups_g a_c a_i a_v:zd Tryz.prog 159 (zct a_c a_i a_v) (.b λzcw=>.mk [zar zcw (Fld.id zt),isv a_i,isv a_v] [zj zcw (a_c:zt)] λr=>.mk [isv r.1] [zj zcw (r.2)]):=by
 unfold zct
 exact W (.l [32] (.b (.w [] (.j 0 (.m [] (.v (λq48:Unit=>[]) λq48=>[])) .a (.d 0 (.b .a (.l [10,11,47] (.b (.o 1 61 (.o 1 84 .a (.b .a (.o 11 74 (.o 2 83 .a .a) .a))) .a) (.o 0 89 .a .a)))))) .a) .a)) Tryz.func159 e

end
end Go.Proofs.Q
