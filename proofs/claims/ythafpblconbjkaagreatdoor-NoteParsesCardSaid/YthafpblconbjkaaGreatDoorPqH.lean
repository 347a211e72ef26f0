/- Walks, printed by mill.py and grow.py. -/
import Derived.Test.YthafpblconbjkaaGreatDoorPqG
set_option linter.unusedVariables false
set_option linter.unusedSimpArgs false
set_option maxRecDepth 4000
set_option maxHeartbeats 4000000
namespace Go.Proofs.Q
open Go.Sy
section
attribute [local irreducible] isv zbn zal zbK zbw zem zeI zgQ zf1 zdV zdI zcO zj zO zI cal br ck asr jp lp zq
instance r07_Find_g a_m zqf:zd Tryz.prog 89 (zjC a_m zqf) (.mk [isv a_m,isv zqf] [] λr=>.mk [isv r] []):=by
 unfold zjC
 exact W (.l [5] .a) Tryz.func89 e

instance h_In_int_g a_l a_x:zd Tryz.prog 88 (zhL a_l a_x) (.mk [isv a_l,isv a_x] [] λr=>.mk [isv r] []):=by
 unfold zhL
 exact W (.l [5] .a) Tryz.func88 e

abbrev zjY (a_m:zaA) (zeO:Int) (za:Int) (a_l:(List Int)):AC ((List Int) × Bool):=.t λt_a_l=>.mk [isv a_m,isv zeO,isv za,zbK t_a_l a_l] [zO t_a_l] λr=>.t λu1=>.mk [zbK u1 r.1,isv r.2] [zO u1]
theorem zrO {zia:zaA->Int->Int->(List Int)->Option ((List Int) × Bool)} [∀ a_m zeO za a_l,zd Tryz.prog 86 (zia a_m zeO za a_l) (zjY a_m zeO za a_l)] a_m zeO za a_l:zd Tryz.prog 86 (zgx zia a_m zeO za a_l) (zjY a_m zeO za a_l):=by
 unfold zgx
 exact W (.o 4 24 (.o 0 28 (.b .a (.b (.b .a (.j 0 (.m [true] (.t λt0=>.v (λq11:(List Int)=>[(3,zbK t0 q11)]) λq11=>[zO t0])) .a .a)) (.k (.m [true] (.t λt0=>.v (λq16:(List Int) × Bool × Int=>[(3,zbK t0 q16.1),(12,isv q16.2.1),(13,isv q16.2.2)]) λq16=>[zO t0])) (.b (.d 1024 (.o 1 78 .a .a)) (.j 0 (.m [true] (.t λt0=>.v (λq36:(List Int) × Bool=>[(3,zbK t0 q36.1),(12,isv q36.2)]) λq36=>[zO t0])) .a (.b (.o 1 95 .a .a) .a)))))) .a) .a) Tryz.func86 e
theorem zk0:∀ n,(∀ a_m zeO za a_l,zd Tryz.prog 86 (zhP n a_m zeO za a_l) (zjY a_m zeO za a_l))
 | 0=>λ_ _ _ _=>⟨λr h=>by cases h⟩
 | n + 1=>by
  have:=zk0 n
  exact λa_m zeO za a_l=>zrO (zia:=zhP n) a_m zeO za a_l
instance r07_uses_g n a_m zeO za a_l:zd Tryz.prog 86 (zhP n a_m zeO za a_l) (zjY a_m zeO za a_l):=(zk0 n) a_m zeO za a_l

end
theorem zrU {ziV zdh a_to r} (h:zh7 ziV zdh a_to=some r):Ctr Tryz.prog 87 [isv ziV,isv zdh,isv a_to] [] (Pt [isv r] []):=by
 unfold zh7 at h
 refine zeu Tryz.func87 e λw0 S0 hT=>ws (an e (ws (oT (zcj (l:=([]:(List Int))) zp7 .nil e e (an e (ws (om e (om e (zat h λy2 hy2 h=>oV (vX e e zmg hy2) (oV (zao zmU e) (zbC h λq4 h=>oT (zp8 (m:=y2) ziS e e hI q4 λt3=>an e (zeT (zej (ztg (zel) (lP h (Tok × Tok) (none,t3) (λq5 g5=>[(7,zbK g5.1 q5.1),(8,zbK g5.2 q5.2)]) (λq5 g5=>[zO g5.1,zO g5.2]) (zev (j:=7) e hI (zev (j:=8) e hI zh4)) k2 λL6 q5 g5 Q27 h hL6 eL6 rL6=>ss (om e (oV (zyO (l:=q5.2) e zb7 zuR) (oV (zl6 e e) (rn (zcu h e (λ_ h=>?_) (λ_ h=>xn (eL6 _ _ (zeR (zc7 (ws ?_))))))))))))))))))))))))))
 ·refine wk (zej (ws (om e (zat h λy17 hy17 h=>oV (zxd (l:=q5.2) e zb7 e zuR hy17) (oV (zao ty3 e) (an e (ws (om e (zcf h λq18 h=>oT (zAa e zuR e q18.1 q18.2 (.there .here) λt19=>an e (ss (om e (om e (oV (zou e e) (rn (zcu h e (λ_ h=>?_) (λ_ h=>wk (ws (om e (om e (zat h λy20 hy20 h=>oT (tC (cw (P:=Tryz.prog) (f:=88) hy20) hT (.cons e zb7 (.same e .nil)) k0 (oV (zvI e) (rn (zcu h e (λ_ h=>?_) (λ_ h=>zm5 (zgB ?_)))))))))))))))))))))))))))
  ·exact ws (ar e (zhD (zeW (rL6 _ (bn (zdy (r1 e) k0 (iS h ▸ ⟨e,e⟩)))))))
  ·exact ws (om e (om e (oT (zcj (l:=([y17]:(List Int))) zp7 (.cons e hI .nil) e e (zbC h λq23 h=>oT (zjf (l:=q5.1) (m:=([y17]:(List Int))) ziS e hI e zb7 (.there .here) q23 λt22=>an e (zdU (om e (om e (om e (zat h λy24 hy24 h=>oV (vX e e zmg hy24) (oV (zao zmU e) (zbC h λq26 h=>oT (zjf (l:=(q5.2.drop ((1:Int)).toNat)) (m:=y24) ziS e hI e hI (.there .here) q26 λt25=>oa e (rb (hL6 h (t22,t25) 31))))))))))))))))
  exact hL6 h (g5.1,t19) 19
 exact ar e (zdy (r1 e) k0 (iS h ▸ ⟨e,e⟩))


instance r07_reach_g ziV zdh a_to:zd Tryz.prog 87 (zh7 ziV zdh a_to) (.mk [isv ziV,isv zdh,isv a_to] [] λr=>.mk [isv r] []):=⟨λr h=>by
 exact zrU h⟩

section
attribute [local irreducible] isv zbn zal zbK zbw zem zeI zgQ zf1 zdV zdI zcO zj zO zI cal br ck asr jp lp zq
instance r07_Order_g a_m:zd Tryz.prog 40 (zjv a_m) (.mk [isv a_m] [] λr=>.mk [isv r.1,isv r.2.1,isv r.2.2] []):=by
 unfold zjv
 exact W (.l [7] (.b (.d 512 .a) (.k (.m [] (.t λt0=>.v (λq807:(List (List Int)) × Int × Int=>[(5,zbK t0 q807.1),(6,isv q807.2.1),(8,isv q807.2.2)]) λq807=>[zO t0])) (.b (.w [] (.j 0 (.m [true] (.t λt0=>.v (λq1337:(List (List Int)) × Int=>[(5,zbK t0 q1337.1),(6,isv q1337.2)]) λq1337=>[zO t0])) .a (.d 64 (.o 0 59 .a .a))) .a) (.b .a (.l [11] (.b .a (.k (.m [] (.t λt0=>.v (λq1478:(List Int)=>[(12,zbK t0 q1478)]) λq1478=>[zO t0])) (.b (.l [13] (.b (.l [14,15] (.b (.o 1 113 .a .a) .a)) .a)) .a))))))))) Tryz.func40 e

end
section
attribute [local irreducible] isv zbn zal zbK zbw zem zeI zgQ zf1 zdV zdI zcO zj zO zI cal br ck asr jp lp zq
instance r10_maker_fail_g a_x a_e:zd Tryz.prog 137 (zbi a_x a_e) (.b λzp=>.v λzaS=>.mk [zal zp (Fld.id zfy),isv a_e] [zj zp (zfa a_x zaS),zI zaS a_x.l] λr=>.mk [] [zj zp (zfa r zaS),zI zaS r.l]):=by
 unfold zbi
 exact W .a Tryz.func137 e

instance r09_Universal_g zfm:zd Tryz.prog 138 (zf5 zfm) (.mk [isv zfm] [] λr=>.mk [isv r] []):=by
 unfold zf5
 exact W (.q 1 (.b .a (.b .a (.b .a (.b .a (.b .a (.b .a (.w [22] .a .a)))))))) Tryz.func138 e

instance r08_Check_g a_c zqc:zd Tryz.prog 139 (zjQ a_c zqc) (.mk [isv a_c,isv zqc] [] λr=>.mk [isv r] []):=by
 unfold zjQ
 exact W (.b .a (.o 7 13 (.o 0 20 (.b .a (.o 0 50 .a (.b (.o 20 30 (.o 15 35 (.o 1 49 .a (.b .a (.o 2 48 .a (.b (.o 3 47 .a .a) .a)))) .a) .a) .a))) .a) .a)) Tryz.func139 e

instance r10_taken_g a_l a_v:zd Tryz.prog 171 (zjN a_l a_v) (.mk [isv a_l,isv a_v] [] λr=>.mk [isv r] []):=by
 unfold zjN
 exact W (.l [5] (.b (.o 0 25 .a .a) .a)) Tryz.func171 e

instance r10_maker_items_g a_x a_n_:zd Tryz.prog 140 (zdP a_x a_n_) (.b λzp=>.v λzaS=>.mk [zal zp (Fld.id zfy),isv a_n_] [zj zp (zfa a_x zaS),zI zaS a_x.l] λr=>.mk [isv r.1] [zj zp (zfa r.2 zaS),zI zaS r.2.l]):=by
 unfold zdP
 exact W (.k (.m [] (.t λt0=>.v (λq2:(List zai) × Int × Int=>[(5,zbK t0 q2.1),(6,isv q2.2.1),(7,isv q2.2.2)]) λq2=>[zO t0])) (.b (.q 1 (.j 0 (.b 0 λb336=>.m [true] (.v (λq337:Int × zai=>[(6,isv q337.1)]) λq337=>[zj b336 (q337.2:zai)])) .a (.b (.l [6] .a) .a))) (.k (.m [true] (.t λt0=>.v (λq354:(List zai) × Int × Bool × Bool × Int=>[(5,zbK t0 q354.1),(9,isv q354.2.1),(10,isv q354.2.2.1),(11,isv q354.2.2.2.1),(12,isv q354.2.2.2.2)]) λq354=>[zO t0])) (.b (.q 1 (.j 0 (.b 0 λb559=>.m [true] (.v (λq560:zai=>[(13,zal b559 (Fld.id zai))]) λq560=>[zj b559 (q560:zai)])) (.o 1 109 .a (.b .a (.o 2 108 .a .a))) (.b (.k (.b 0 λb559=>.m [true] (.v (λq562:Int × zai=>[(13,zal b559 (Fld.id zai)),(14,isv q562.1)]) λq562=>[zj b559 (q562.2:zai)])) (.b (.w [] (.j 0 (.b 0 λb559=>.m [true] (.v (λq577:zai=>[(13,zal b559 (Fld.id zai))]) λq577=>[zj b559 (q577:zai)])) .a (.b .a (.p 13 (.d 0 (.o 0 92 .a .a))))) .a) .a)) .a))) (.l [11,15] (.b (.l [11,16] (.b (.d 0 (.o 14 141 (.o 1 154 .a .a) .a)) .a)) (.j 0 (.w 2 λzaS=>.b 1 λzp=>.m [false,true,true] (.v (λq660:GMk=>[]) λq660=>[zj zp (zfa q660 zaS),zI zaS q660.l])) .a .a))))))) Tryz.func140 e

instance r08_Within_g a_c a_v:zd Tryz.prog 77 (zeg a_c a_v) (.mk [isv a_c,isv a_v] [] λr=>.mk [isv r] []):=by
 unfold zeg
 exact W (.o 1 29 .a (.b .a (.o 13 17 (.o 2 28 .a (.b (.o 3 27 .a .a) .a)) .a))) Tryz.func77 e

end
theorem zc4 {a_s r} (h:zbz a_s=some r):Ctr Tryz.prog 131 [isv a_s] [] (Pt [isv r] []):=by
 unfold zbz at h
 refine zeu Tryz.func131 e λw0 S0 hT=>ws (an e (zeT (zwJ e e (wk (zeT (zeU (.v 0 (.v 1 (.v 2 (.v 3 (.v 4 (.v 5 (.v 6 (.v 7 (.v 8 (.v 9 (.v 10 (.v 11 (.v 12 (.v 13 (.v 14 (.v 15 (.v 16 (.v 17 (.v 18 (.v 19 (.v 20 (.v 21 (.v 22 (.v 23 (.v 24 (.v 25 (.v 26 (.v 27 (.v 28 (.v 29 (.v 30 (.v 31 (.v 32 (.v 33 (.v 34 (.v 35 (.v 36 (.v 37 (.v 38 (.v 39 (.v 40 (.v 41 (.v 42 (.v 43 (.v 44 (.v 45 (.v 46 .nil))))))))))))))))))))))))))))))))))))))))))))))) zlA (by kernel_rfl) (rm e e (zat h λy1 hy1 h=>zbe e (vX e e zez hy1) (zbe e (zao ty5 e) (zbe e (zh2 Tryz.underlying5 Tryz.underlying178 e) (rm e e (zat h λy2 hy2 h=>zbe e (vX e e zez hy2) (zbe e (zao ty5 e) (zbe e (zh2 Tryz.underlying5 Tryz.underlying178 e) (zbC h λq3 h=>zbe e (ziP e e q3) (zbe e (zhU e e) (rm e e (zat h λy4 hy4 h=>zbe e (vX e e zez hy4) (zbe e (zao ty5 e) (zbe e (zh2 Tryz.underlying5 Tryz.underlying178 e) (zbC h λq5 h=>zbe e (ziP e e q5) (zbe e (zhU e e) (rm e e ?_)))))))))))))))))))))))
 refine zat h λy6 hy6 h=>zbe e (vX e e zez hy6) (zbe e (zao ty5 e) (zbe e (zh2 Tryz.underlying5 Tryz.underlying178 e) (zbC h λq7 h=>zbe e (ziP e e q7) (zbe e (zhU e e) (rm e e (zat h λy8 hy8 h=>zbe e (vX e e zez hy8) (zbe e (zao ty5 e) (zbe e (zh2 Tryz.underlying5 Tryz.underlying178 e) (zbC h λq9 h=>zbe e (ziP e e q9) (zbe e (zhU e e) (rm e e (zat h λy10 hy10 h=>zbe e (vX e e zez hy10) (zbe e (zao ty5 e) (zbe e (zh2 Tryz.underlying5 Tryz.underlying178 e) (zbC h λq11 h=>zbe e (ziP e e q11) (zbe e (zhU e e) (rm e e (zat h λy12 hy12 h=>zbe e (vX e e zez hy12) (zbe e (zao ty5 e) (zbe e (zh2 Tryz.underlying5 Tryz.underlying178 e) (zbC h λq13 h=>zbe e (ziP e e q13) ?_)))))))))))))))))))))
 exact zbe e (zhU e e) (rm e e (zat h λy14 hy14 h=>zbe e (vX e e zez hy14) (zbe e (zao ty5 e) (zbe e (zh2 Tryz.underlying5 Tryz.underlying178 e) (zbC h λq15 h=>zbe e (ziP e e q15) (zbe e (zhU e e) (zbe e (zjD e) (zg5 (zc7 (znZ (zdy (r1 e) k0 (iS h ▸ ⟨e,e⟩))))))))))))


theorem zqp {a_p r} (h:zcy a_p=some r):Ctr Tryz.prog 79 [isv a_p] [] (Pt [isv r] []):=by
 unfold zcy at h
 refine zeu Tryz.func79 e λw0 S0 hT=>ws (an e (ws (om e (om e (oV (vN e zez) (om e (oV (vN e zez) (zcf h λq1 h=>oV (zyy (l:=a_p) e hI zez e e q1.1 q1.2) (an e (zeT (zej (lO 0 h e λL3 q2 Q194 h hL3 eL3 rL3=>ss (om e (oV (vN e zez) (oV (zl6 e e) (rn (zcu h e (λ_ h=>?_) (λ_ h=>xn (eL3 _ _ (zeR (zc7 (ws (ar e (zdy (r1 e) k0 (iS h ▸ ⟨e,e⟩)))))))))))))))))))))))))
 refine wk (zej (ws (om e (zat h λy99 hy99 h=>oV (vX e e zez hy99) (oV (zao ty5 e) (an e (ss (om e (oV (zgU e e) (rn (zcu h e (λ_ h=>?_) (λ_ h=>wk (ws (om e (oV (zAh zqH ar198 e) (oV (zzI hT ty5 e _ zkn) (an e (ws (om e (oV (zsB e e) (oV (zyD Tryz.underlying5 Tryz.underlying3 e) (an e (ws (om e (zbC h λq140 h=>oV (zsp e e q140) (zbC h λq141 h=>oV (zAn zkn ar201 e q141) ?_))))))))))))))))))))))))))
 ·refine ws (om e (zcf h λq100 h=>oV (zmk (l:=q2) e hI zez (.inr ⟨_,e,e⟩) (.inl ⟨e,e⟩) q100.1 q100.2.1 q100.2.2) (an e (ss (om e (oV (vN e zez) (oV (zl6 e e) (om e (jO 5 31 h (λq101 h=>?_) λJ102 h hJ102=>oI h (λg103 h=>?_) λg103 h=>oN g103 (oN g103 (oN g103 (oN g103 (oV (zcb e g103 e) (hJ102 h 5))))))))))))))
  ·refine rn (jW 0 h (λq105 h=>?_) λJ106 h hJ106=>zcu h e (λ_ h=>?_) (λ_ h=>zm5 (hJ106 h 0)))
   ·exact xn (zeR (hL3 h 19))
   refine ws (om e (zcf h λq107 h=>oV (zmk (l:=((q2.take ((q2.length:Int)).toNat).drop ((1:Int)).toNat)) e hI zez (.inr ⟨_,e,e⟩) (.inl ⟨e,e⟩) q107.1 q107.2.1 q107.2.2) (an e (zeT (zeU (.v 0 (.v 1 (.v 2 (.v 3 (.v 4 (.v 6 (.v 7 (.t 5 (.t 8 (.v 9 (.v 10 (.v 11 (.v 12 .nil))))))))))))) zlA (by kernel_rfl) (rm e e (zbe e (vN e zez) (zbe e (zl6 e e) (rm e e (jD 9 46 h (λq108 h=>?_) λJ109 h hJ109=>rJ h (λg110 h=>?_) λg110 h=>rP e g110 (rP e g110 (rP e g110 (zix e e (dj:=37) e g110 (zix e e (dj:=37) e g110 (rP e g110 (rP e g110 (rP e g110 (zbe e (zcb e g110 e) (hJ109 h 9)))))))))))))))))))
   ·refine zg5 (zc7 (zcu h e (λ_ h=>?_) (λ_ h=>zm5 (hJ106 h 8))))
    refine ws (om e (zcf h λq114 h=>oV (zmk (l:=((((q2.take ((q2.length:Int)).toNat).drop ((1:Int)).toNat).take ((((q2.take ((q2.length:Int)).toNat).drop ((1:Int)).toNat).length:Int)).toNat).drop ((8:Int)).toNat)) e hI zez (.inr ⟨_,e,e⟩) (.inl ⟨e,e⟩) q114.1 q114.2.1 q114.2.2) (an e (zej (lO 0 h e λL116 q115 Q139 h hL116 eL116 rL116=>zeT (zeT (zeU (.v 0 (.v 1 (.v 2 (.v 3 (.v 4 (.v 6 (.v 7 (.v 10 (.v 11 (.v 13 (.v 14 (.t 5 (.t 8 (.v 9 (.t 12 (.t 15 (.v 16 (.v 17 (.v 18 (.v 19 (.v 20 .nil))))))))))))))))))))) zlA (by kernel_rfl) (rm e e (zbe e (vN e zez) (zbe e (zl6 e e) (rm e e (jD 17 69 h (λq128 h=>?_) λJ129 h hJ129=>rJ h (λg130 h=>?_) λg130 h=>rP e g130 (rP e g130 (rP e g130 (rP e g130 (rP e g130 (rP e g130 (rP e g130 (zix e e (dj:=52) e g130 (zix e e (dj:=52) e g130 (rP e g130 (zix e e (dj:=52) e g130 (zix e e (dj:=52) e g130 (rP e g130 (rP e g130 ?_)))))))))))))))))))))))))
    ·refine zg5 (zc7 (zcu h e (λ_ h=>?_) (λ_ h=>xn (eL116 _ _ (zeR (hJ106 h 17))))))
     exact wk (zej (zdU (om e (zcf h λq138 h=>oV (zmk (l:=q115) e hI zez (.inr ⟨_,e,e⟩) (.inl ⟨e,e⟩) q138.1 q138.2.1 q138.2.2) (oa e (rb (hL116 h 9)))))))
    ·exact rG e g130 (zc0 e) (rG e g130 (zc0 e) (zcf h λq131 h=>rG e g130 (zmk (l:=q115) e hI zez (.inr ⟨_,e,e⟩) (.inl ⟨e,e⟩) q131.1 q131.2.1 q131.2.2) (rG e g130 (zc0 e) (zcf h λq132 h=>rG e g130 (zmk (l:=q115) e hI zez (.inr ⟨_,e,e⟩) (.inl ⟨e,e⟩) q132.1 q132.2.1 q132.2.2) (rG e g130 (zc0 e) (zcf h λq133 h=>rG e g130 (zmk (l:=q115) e hI zez (.inr ⟨_,e,e⟩) (.inl ⟨e,e⟩) q133.1 q133.2.1 q133.2.2) (zat h λy134 hy134 h=>rH e g130 (tC (zc4 hy134) hT (s1 e) k0 (zat h λy135 hy135 h=>rH e g130 (tC (zc4 hy135) hT (s1 e) k0 (rG e g130 (zhU e e) (zat h λy136 hy136 h=>rH e g130 (tC (zc4 hy136) hT (s1 e) k0 (zat h λy137 hy137 h=>rH e g130 (tC (zc4 hy137) hT (s1 e) k0 (rG e g130 (zhU e e) (rG e g130 (zhU e e) (rG e g130 (znu e e) (rG e g130 (zpK e e) (zbe e (zb8 e g130 e) (hJ129 h 17)))))))))))))))))))))
    exact rP e g130 (rP e g130 (zbe e (zcb e g130 e) (hJ129 h 17)))
   exact rG e g110 (zc0 e) (rG e g110 (zc0 e) (zcf h λq111 h=>rG e g110 (zmk (l:=((((q2.take ((q2.length:Int)).toNat).drop ((1:Int)).toNat).take ((((q2.take ((q2.length:Int)).toNat).drop ((1:Int)).toNat).length:Int)).toNat).drop ((8:Int)).toNat)) e hI zez (.inr ⟨_,e,e⟩) (.inl ⟨e,e⟩) q111.1 q111.2.1 q111.2.2) (zat h λy112 hy112 h=>rH e g110 (tC (zc4 hy112) hT (s1 e) k0 (zat h λy113 hy113 h=>rH e g110 (tC (zc4 hy113) hT (s1 e) k0 (rG e g110 (zhU e e) (rG e g110 (znu e e) (rG e g110 (zpK e e) (zbe e (zb8 e g110 e) (hJ109 h 9)))))))))))
  exact oG g103 (zc0 e) (zat h λy104 hy104 h=>oH g103 (tC (zc4 hy104) hT (s1 e) k0 (oG g103 (znu e e) (oG g103 (zpK e e) (oV (zb8 e g103 e) (hJ102 h 5))))))
 refine oV (zzV hT zyH e q141 _ zqH) (oT (zhZ _ ze200 λb142=>oT (tS zyH e e p0 (zim (zf0 (zfU y99) (4:UInt64).toNat)) (zbj (zns 6 .here e) (rn (ws (om e (rn (zej (ws (oV (zou e e) (an e (zcu h e (λ_ h=>?_) (λ_ h=>ws (oV (zou e e) (an e (zcu h e (λ_ h=>?_) (λ_ h=>ws (oV (zou e e) (an e (zcu h e (λ_ h=>?_) (λ_ h=>ws (ar e (zeW (zeW (rL3 _ (bn (zdy (r1 e) k0 (iS h ▸ ⟨e,e⟩)))))))))))))))))))))))))))))
 ·refine zeT (zeT (zeU (.v 0 (.v 1 (.v 2 (.v 3 (.v 4 (.v 5 (.v 6 (.v 7 (.v 8 (.v 9 (.v 10 (.v 11 (.v 12 (.v 13 (.v 14 (.v 15 (.v 16 (.v 17 (.v 18 .nil))))))))))))))))))) zlA (by kernel_rfl) (rm e e (zbe e (vN e zez) (zbe e (zmh e e) (rm e e (jD 7 95 h (λq143 h=>?_) λJ144 h hJ144=>rJ h (λg145 h=>?_) λg145 h=>rG e g145 (zc0 e) (zat h λy146 hy146 h=>rG e g145 (vX e e zez hy146) (rG e g145 (zao ty5 e) (rG e g145 (vI e zhm.f0 zqm ((zim (zf0 (zfU y99) (4:UInt64).toNat)).lo)) (rG e g145 (zao ty5 e) (rG e g145 (zgU e e) (zbe e (zcb e g145 e) (hJ144 h 7))))))))))))))
  ·refine rm e e (jD 7 103 h (λq147 h=>?_) λJ148 h hJ148=>rJ h (λg149 h=>?_) λg149 h=>rG e g149 (vI e zhm.f1 zqa ((zim (zf0 (zfU y99) (4:UInt64).toNat)).hi)) (rG e g149 (zao ty5 e) (rG e g149 (zc0 e) (zat h λy150 hy150 h=>rG e g149 (vX e e zez hy150) (rG e g149 (zao ty5 e) (rG e g149 (zgU e e) (zbe e (zcb e g149 e) (hJ148 h 7))))))))
   ·refine zg5 (zc7 (zcu h e (λ_ h=>?_) (λ_ h=>wk (zdU (om e (zcf h λq151 h=>oV (zmk (l:=q2) e hI zez (.inr ⟨_,e,e⟩) (.inl ⟨e,e⟩) q151.1 q151.2.1 q151.2.2) (oa e (rb (zgB (hL3 h 37))))))))))
    exact ws (ar e (zhD (zeW (zeW (rL3 _ (bn (zdy (r1 e) k0 (iS h ▸ ⟨e,e⟩))))))))
   exact rP e g149 (rP e g149 (rP e g149 (rP e g149 (rP e g149 (rP e g149 (zbe e (zb8 e g149 e) (hJ148 h 7)))))))
  exact rP e g145 (rP e g145 (rP e g145 (rP e g145 (rP e g145 (rP e g145 (zbe e (zb8 e g145 e) (hJ144 h 7)))))))
 ·refine zeT (zeT (zeU (.v 0 (.v 1 (.v 2 (.v 3 (.v 4 (.v 5 (.v 6 (.v 7 (.v 8 (.v 9 (.v 10 (.v 11 (.v 12 (.v 13 (.v 14 (.v 15 (.v 16 (.v 17 (.v 18 (.v 19 (.v 20 (.v 21 (.v 22 (.v 23 (.v 24 (.v 25 (.v 26 (.v 27 (.v 28 (.v 29 (.v 30 .nil))))))))))))))))))))))))))))))) zlA (by kernel_rfl) (rm e e (zbe e (vN e zez) (zbe e (zmh e e) (rm e e (jD 7 118 h (λq152 h=>?_) λJ153 h hJ153=>rJ h (λg154 h=>?_) λg154 h=>rG e g154 (zc0 e) (zat h λy155 hy155 h=>rG e g154 (vX e e zez hy155) (rG e g154 (zao ty5 e) (rG e g154 (vI e zhm.f0 zqm ((zim (zf0 (zfU y99) (4:UInt64).toNat)).lo)) (rG e g154 (zao ty5 e) (rG e g154 (zgU e e) (zbe e (zcb e g154 e) (hJ153 h 7))))))))))))))
  ·refine rm e e (jD 7 126 h (λq156 h=>?_) λJ157 h hJ157=>rJ h (λg158 h=>?_) λg158 h=>rG e g158 (vI e zhm.f1 zqa ((zim (zf0 (zfU y99) (4:UInt64).toNat)).hi)) (rG e g158 (zao ty5 e) (rG e g158 (zc0 e) (zat h λy159 hy159 h=>rG e g158 (vX e e zez hy159) (rG e g158 (zao ty5 e) (rG e g158 (zgU e e) (zbe e (zcb e g158 e) (hJ157 h 7))))))))
   ·refine rm e e (jD 5 132 h (λq160 h=>?_) λJ161 h hJ161=>rJ h (λg162 h=>?_) λg162 h=>rG e g162 (zc0 e) (zat h λy163 hy163 h=>rG e g162 (vX e e zez hy163) (rG e g162 (zao ty5 e) (rG e g162 (zgU e e) (zbe e (zcb e g162 e) (hJ161 h 5))))))
    ·refine rm e e (jD 5 138 h (λq164 h=>?_) λJ165 h hJ165=>rJ h (λg166 h=>?_) λg166 h=>rG e g166 (zc0 e) (zat h λy167 hy167 h=>rG e g166 (vX e e zez hy167) (rG e g166 (zao ty5 e) (rG e g166 (zgU e e) (zbe e (zcb e g166 e) (hJ165 h 5))))))
     ·refine zg5 (zc7 (zcu h e (λ_ h=>?_) (λ_ h=>wk (zdU (om e (zcf h λq168 h=>oV (zmk (l:=q2) e hI zez (.inr ⟨_,e,e⟩) (.inl ⟨e,e⟩) q168.1 q168.2.1 q168.2.2) (oa e (rb (zgB (hL3 h 43))))))))))
      exact ws (ar e (zhD (zeW (zeW (rL3 _ (bn (zdy (r1 e) k0 (iS h ▸ ⟨e,e⟩))))))))
     exact rP e g166 (rP e g166 (rP e g166 (rP e g166 (zbe e (zb8 e g166 e) (hJ165 h 5)))))
    exact rP e g162 (rP e g162 (rP e g162 (rP e g162 (zbe e (zb8 e g162 e) (hJ161 h 5)))))
   exact rP e g158 (rP e g158 (rP e g158 (rP e g158 (rP e g158 (rP e g158 (zbe e (zb8 e g158 e) (hJ157 h 7)))))))
  exact rP e g154 (rP e g154 (rP e g154 (rP e g154 (rP e g154 (rP e g154 (zbe e (zb8 e g154 e) (hJ153 h 7)))))))
 refine zeT (zeT (zeU (.v 0 (.v 1 (.v 2 (.v 3 (.v 4 (.v 5 (.v 6 (.v 7 (.v 8 (.v 9 (.v 10 (.v 11 (.v 12 (.v 13 (.v 14 (.v 15 (.v 16 (.v 17 (.v 18 (.v 19 (.v 20 (.v 21 (.v 22 (.v 23 (.v 24 (.v 25 (.v 26 (.v 27 (.v 28 (.v 29 (.v 30 (.v 31 (.v 32 (.v 33 (.v 34 (.v 35 (.v 36 (.v 37 (.v 38 (.v 39 (.v 40 (.v 41 (.v 42 .nil))))))))))))))))))))))))))))))))))))))))))) zlA (by kernel_rfl) (rm e e (zbe e (vN e zez) (zbe e (zmh e e) (rm e e (jD 7 153 h (λq169 h=>?_) λJ170 h hJ170=>rJ h (λg171 h=>?_) λg171 h=>rG e g171 (zc0 e) (zat h λy172 hy172 h=>rG e g171 (vX e e zez hy172) (rG e g171 (zao ty5 e) (rG e g171 (vI e zhm.f0 zqm ((zim (zf0 (zfU y99) (4:UInt64).toNat)).lo)) (rG e g171 (zao ty5 e) (rG e g171 (zgU e e) (zbe e (zcb e g171 e) (hJ170 h 7))))))))))))))
 ·refine rm e e (jD 7 161 h (λq173 h=>?_) λJ174 h hJ174=>rJ h (λg175 h=>?_) λg175 h=>rG e g175 (vI e zhm.f1 zqa ((zim (zf0 (zfU y99) (4:UInt64).toNat)).hi)) (rG e g175 (zao ty5 e) (rG e g175 (zc0 e) (zat h λy176 hy176 h=>rG e g175 (vX e e zez hy176) (rG e g175 (zao ty5 e) (rG e g175 (zgU e e) (zbe e (zcb e g175 e) (hJ174 h 7))))))))
  ·refine rm e e (jD 5 167 h (λq177 h=>?_) λJ178 h hJ178=>rJ h (λg179 h=>?_) λg179 h=>rG e g179 (zc0 e) (zat h λy180 hy180 h=>rG e g179 (vX e e zez hy180) (rG e g179 (zao ty5 e) (rG e g179 (zgU e e) (zbe e (zcb e g179 e) (hJ178 h 5))))))
   ·refine rm e e (jD 5 173 h (λq181 h=>?_) λJ182 h hJ182=>rJ h (λg183 h=>?_) λg183 h=>rG e g183 (zc0 e) (zat h λy184 hy184 h=>rG e g183 (vX e e zez hy184) (rG e g183 (zao ty5 e) (rG e g183 (zgU e e) (zbe e (zcb e g183 e) (hJ182 h 5))))))
    ·refine rm e e (jD 5 179 h (λq185 h=>?_) λJ186 h hJ186=>rJ h (λg187 h=>?_) λg187 h=>rG e g187 (zc0 e) (zat h λy188 hy188 h=>rG e g187 (vX e e zez hy188) (rG e g187 (zao ty5 e) (rG e g187 (zgU e e) (zbe e (zcb e g187 e) (hJ186 h 5))))))
     ·refine rm e e (jD 5 185 h (λq189 h=>?_) λJ190 h hJ190=>rJ h (λg191 h=>?_) λg191 h=>rG e g191 (zc0 e) (zat h λy192 hy192 h=>rG e g191 (vX e e zez hy192) (rG e g191 (zao ty5 e) (rG e g191 (zgU e e) (zbe e (zcb e g191 e) (hJ190 h 5))))))
      ·refine zg5 (zc7 (zcu h e (λ_ h=>?_) (λ_ h=>wk (zdU (om e (zcf h λq193 h=>oV (zmk (l:=q2) e hI zez (.inr ⟨_,e,e⟩) (.inl ⟨e,e⟩) q193.1 q193.2.1 q193.2.2) (oa e (rb (zgB (hL3 h 49))))))))))
       exact ws (ar e (zhD (zeW (zeW (rL3 _ (bn (zdy (r1 e) k0 (iS h ▸ ⟨e,e⟩))))))))
      exact rP e g191 (rP e g191 (rP e g191 (rP e g191 (zbe e (zb8 e g191 e) (hJ190 h 5)))))
     exact rP e g187 (rP e g187 (rP e g187 (rP e g187 (zbe e (zb8 e g187 e) (hJ186 h 5)))))
    exact rP e g183 (rP e g183 (rP e g183 (rP e g183 (zbe e (zb8 e g183 e) (hJ182 h 5)))))
   exact rP e g179 (rP e g179 (rP e g179 (rP e g179 (zbe e (zb8 e g179 e) (hJ178 h 5)))))
  exact rP e g175 (rP e g175 (rP e g175 (rP e g175 (rP e g175 (rP e g175 (zbe e (zb8 e g175 e) (hJ174 h 7)))))))
 exact rP e g171 (rP e g171 (rP e g171 (rP e g171 (rP e g171 (rP e g171 (zbe e (zb8 e g171 e) (hJ170 h 7)))))))


instance utf8_Valid_g a_p:zd Tryz.prog 79 (zcy a_p) (.mk [isv a_p] [] λr=>.mk [isv r] []):=⟨λr h=>by
 exact zqp h⟩
end Go.Proofs.Q
