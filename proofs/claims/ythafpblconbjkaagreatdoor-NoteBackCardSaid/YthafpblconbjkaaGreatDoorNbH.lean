/- Walks, printed by mill.py and grow.py. -/
import Derived.Test.YthafpblconbjkaaGreatDoorNbG
set_option linter.unusedVariables false
set_option linter.unusedSimpArgs false
set_option maxRecDepth 4000
set_option maxHeartbeats 4000000
namespace Go.Proofs.Q
open Go.Sy
section
attribute [local irreducible] isv zbl zar zbI zbs zef zez zgw zgg zdV zdE zcO zj zO zM cal br ck asr jp lp zs
instance r07_Find_g a_m zqa:zd Tryz.prog 89 (zjB a_m zqa) (.mk [isv a_m,isv zqa] [] λr=>.mk [isv r] []):=by
 unfold zjB
 exact W (.l [5] .a) Tryz.func89 e

instance h_In_int_g a_l a_x:zd Tryz.prog 88 (zhl a_l a_x) (.mk [isv a_l,isv a_x] [] λr=>.mk [isv r] []):=by
 unfold zhl
 exact W (.l [5] .a) Tryz.func88 e

abbrev zj3 (a_m:zaB) (zeK:Int) (za:Int) (a_l:(List Int)):AC ((List Int) × Bool):=.t λt_a_l=>.mk [isv a_m,isv zeK,isv za,zbI t_a_l a_l] [zO t_a_l] λr=>.t λu1=>.mk [zbI u1 r.1,isv r.2] [zO u1]
theorem zrE {zhQ:zaB->Int->Int->(List Int)->Option ((List Int) × Bool)} [∀ a_m zeK za a_l,zd Tryz.prog 86 (zhQ a_m zeK za a_l) (zj3 a_m zeK za a_l)] a_m zeK za a_l:zd Tryz.prog 86 (zga zhQ a_m zeK za a_l) (zj3 a_m zeK za a_l):=by
 unfold zga
 exact W (.o 4 24 (.o 0 28 (.b .a (.b (.b .a (.j 0 (.m [true] (.t λt0=>.v (λq11:(List Int)=>[(3,zbI t0 q11)]) λq11=>[zO t0])) .a .a)) (.k (.m [true] (.t λt0=>.v (λq16:(List Int) × Bool × Int=>[(3,zbI t0 q16.1),(12,isv q16.2.1),(13,isv q16.2.2)]) λq16=>[zO t0])) (.b (.d 1024 (.o 1 78 .a .a)) (.j 0 (.m [true] (.t λt0=>.v (λq36:(List Int) × Bool=>[(3,zbI t0 q36.1),(12,isv q36.2)]) λq36=>[zO t0])) .a (.b (.o 1 95 .a .a) .a)))))) .a) .a) Tryz.func86 e
theorem zk5:∀ n,(∀ a_m zeK za a_l,zd Tryz.prog 86 (zho n a_m zeK za a_l) (zj3 a_m zeK za a_l))
 | 0=>λ_ _ _ _=>⟨λr h=>by cases h⟩
 | n + 1=>by
  have:=zk5 n
  exact λa_m zeK za a_l=>zrE (zhQ:=zho n) a_m zeK za a_l
instance r07_uses_g n a_m zeK za a_l:zd Tryz.prog 86 (zho n a_m zeK za a_l) (zj3 a_m zeK za a_l):=(zk5 n) a_m zeK za a_l

end
theorem zra {ziE zek a_to r} (h:zhT ziE zek a_to=some r):Ctr Tryz.prog 87 [isv ziE,isv zek,isv a_to] [] (Pt [isv r] []):=by
 unfold zhT at h
 refine zen Tryz.func87 e λw0 S0 hT=>ws (an e (ws (oT (zcc (l:=([]:(List Int))) zqx .nil e e (an e (ws (om e (om e (zav h λy2 hy2 h=>oV (vX e e zmA hy2) (oV (zan zmP e) (zbF h λq4 h=>oT (zqj (m:=y2) ziL e e hI q4 λt3=>an e (zeL (zec (zt5 (zed) (lP h (Tok × Tok) (none,t3) (λq5 g5=>[(7,zbI g5.1 q5.1),(8,zbI g5.2 q5.2)]) (λq5 g5=>[zO g5.1,zO g5.2]) (zel (j:=7) e hI (zel (j:=8) e hI zhG)) k2 λL6 q5 g5 Q27 h hL6 eL6 rL6=>ss (om e (oV (zAW (l:=q5.2) e zb6 zu5) (oV (zmE e e) (rn (zcp h e (λ_ h=>?_) (λ_ h=>xn (eL6 _ _ (zeJ (zc7 (ws ?_))))))))))))))))))))))))))
 ·refine wk (zec (ws (om e (zav h λy17 hy17 h=>oV (zyM (l:=q5.2) e zb6 e zu5 hy17) (oV (zan ty3 e) (an e (ws (om e (zcd h λq18 h=>oT (zBq e zu5 e q18.1 q18.2 (.there .here) λt19=>an e (ss (om e (om e (oV (zoO e e) (rn (zcp h e (λ_ h=>?_) (λ_ h=>wk (ws (om e (om e (zav h λy20 hy20 h=>oT (tC (cw (P:=Tryz.prog) (f:=88) hy20) hT (.cons e zb6 (.same e .nil)) k0 (oV (zxD e) (rn (zcp h e (λ_ h=>?_) (λ_ h=>zm9 (zgu ?_)))))))))))))))))))))))))))
  ·exact ws (ar e (zhi (zeM (rL6 _ (bn (zdB (r1 e) k0 (iS h ▸ ⟨e,e⟩)))))))
  ·exact ws (om e (om e (oT (zcc (l:=([y17]:(List Int))) zqx (.cons e hI .nil) e e (zbF h λq23 h=>oT (ziX (l:=q5.1) (m:=([y17]:(List Int))) ziL e hI e zb6 (.there .here) q23 λt22=>an e (zdQ (om e (om e (om e (zav h λy24 hy24 h=>oV (vX e e zmA hy24) (oV (zan zmP e) (zbF h λq26 h=>oT (ziX (l:=(q5.2.drop ((1:Int)).toNat)) (m:=y24) ziL e hI e hI (.there .here) q26 λt25=>oa e (rb (hL6 h (t22,t25) 31))))))))))))))))
  exact hL6 h (g5.1,t19) 19
 exact ar e (zdB (r1 e) k0 (iS h ▸ ⟨e,e⟩))


instance r07_reach_g ziE zek a_to:zd Tryz.prog 87 (zhT ziE zek a_to) (.mk [isv ziE,isv zek,isv a_to] [] λr=>.mk [isv r] []):=⟨λr h=>by
 exact zra h⟩

section
attribute [local irreducible] isv zbl zar zbI zbs zef zez zgw zgg zdV zdE zcO zj zO zM cal br ck asr jp lp zs
instance r07_Order_g a_m:zd Tryz.prog 40 (zjK a_m) (.mk [isv a_m] [] λr=>.mk [isv r.1,isv r.2.1,isv r.2.2] []):=by
 unfold zjK
 exact W (.l [7] (.b (.d 512 .a) (.k (.m [] (.t λt0=>.v (λq807:(List (List Int)) × Int × Int=>[(5,zbI t0 q807.1),(6,isv q807.2.1),(8,isv q807.2.2)]) λq807=>[zO t0])) (.b (.w [] (.j 0 (.m [true] (.t λt0=>.v (λq1337:(List (List Int)) × Int=>[(5,zbI t0 q1337.1),(6,isv q1337.2)]) λq1337=>[zO t0])) .a (.d 64 (.o 0 59 .a .a))) .a) (.b .a (.l [11] (.b .a (.k (.m [] (.t λt0=>.v (λq1478:(List Int)=>[(12,zbI t0 q1478)]) λq1478=>[zO t0])) (.b (.l [13] (.b (.l [14,15] (.b (.o 1 113 .a .a) .a)) .a)) .a))))))))) Tryz.func40 e

end
section
attribute [local irreducible] isv zbl zar zbI zbs zef zez zgw zgg zdV zdE zcO zj zO zM cal br ck asr jp lp zs
instance r10_maker_fail_g a_x a_e:zd Tryz.prog 137 (zbh a_x a_e) (.b λzC=>.v λzaV=>.mk [zar zC (Fld.id zfr),isv a_e] [zj zC (zeT a_x zaV),zM zaV a_x.l] λr=>.mk [] [zj zC (zeT r zaV),zM zaV r.l]):=by
 unfold zbh
 exact W .a Tryz.func137 e

instance r09_Universal_g ze7:zd Tryz.prog 138 (zfZ ze7) (.mk [isv ze7] [] λr=>.mk [isv r] []):=by
 unfold zfZ
 exact W (.q 1 (.b .a (.b .a (.b .a (.b .a (.b .a (.b .a (.w [22] .a .a)))))))) Tryz.func138 e

instance r08_Check_g a_c zqu:zd Tryz.prog 139 (zjr a_c zqu) (.mk [isv a_c,isv zqu] [] λr=>.mk [isv r] []):=by
 unfold zjr
 exact W (.b .a (.o 7 13 (.o 0 20 (.b .a (.o 0 50 .a (.b (.o 20 30 (.o 15 35 (.o 1 49 .a (.b .a (.o 2 48 .a (.b (.o 3 47 .a .a) .a)))) .a) .a) .a))) .a) .a)) Tryz.func139 e

instance r10_taken_g a_l a_v:zd Tryz.prog 171 (zjx a_l a_v) (.mk [isv a_l,isv a_v] [] λr=>.mk [isv r] []):=by
 unfold zjx
 exact W (.l [5] (.b (.o 0 25 .a .a) .a)) Tryz.func171 e

instance r10_maker_items_g a_x a_n_:zd Tryz.prog 140 (zdO a_x a_n_) (.b λzC=>.v λzaV=>.mk [zar zC (Fld.id zfr),isv a_n_] [zj zC (zeT a_x zaV),zM zaV a_x.l] λr=>.mk [isv r.1] [zj zC (zeT r.2 zaV),zM zaV r.2.l]):=by
 unfold zdO
 exact W (.k (.m [] (.t λt0=>.v (λq2:(List zag) × Int × Int=>[(5,zbI t0 q2.1),(6,isv q2.2.1),(7,isv q2.2.2)]) λq2=>[zO t0])) (.b (.q 1 (.j 0 (.b 0 λb336=>.m [true] (.v (λq337:Int × zag=>[(6,isv q337.1)]) λq337=>[zj b336 (q337.2:zag)])) .a (.b (.l [6] .a) .a))) (.k (.m [true] (.t λt0=>.v (λq354:(List zag) × Int × Bool × Bool × Int=>[(5,zbI t0 q354.1),(9,isv q354.2.1),(10,isv q354.2.2.1),(11,isv q354.2.2.2.1),(12,isv q354.2.2.2.2)]) λq354=>[zO t0])) (.b (.q 1 (.j 0 (.b 0 λb559=>.m [true] (.v (λq560:zag=>[(13,zar b559 (Fld.id zag))]) λq560=>[zj b559 (q560:zag)])) (.o 1 109 .a (.b .a (.o 2 108 .a .a))) (.b (.k (.b 0 λb559=>.m [true] (.v (λq562:Int × zag=>[(13,zar b559 (Fld.id zag)),(14,isv q562.1)]) λq562=>[zj b559 (q562.2:zag)])) (.b (.w [] (.j 0 (.b 0 λb559=>.m [true] (.v (λq577:zag=>[(13,zar b559 (Fld.id zag))]) λq577=>[zj b559 (q577:zag)])) .a (.b .a (.p 13 (.d 0 (.o 0 92 .a .a))))) .a) .a)) .a))) (.l [11,15] (.b (.l [11,16] (.b (.d 0 (.o 14 141 (.o 1 154 .a .a) .a)) .a)) (.j 0 (.w 2 λzaV=>.b 1 λzC=>.m [false,true,true] (.v (λq660:GMk=>[]) λq660=>[zj zC (zeT q660 zaV),zM zaV q660.l])) .a .a))))))) Tryz.func140 e

instance r08_Within_g a_c a_v:zd Tryz.prog 77 (zd8 a_c a_v) (.mk [isv a_c,isv a_v] [] λr=>.mk [isv r] []):=by
 unfold zd8
 exact W (.o 1 29 .a (.b .a (.o 13 17 (.o 2 28 .a (.b (.o 3 27 .a .a) .a)) .a))) Tryz.func77 e

end
theorem zc5 {a_s r} (h:zbv a_s=some r):Ctr Tryz.prog 131 [isv a_s] [] (Pt [isv r] []):=by
 unfold zbv at h
 refine zen Tryz.func131 e λw0 S0 hT=>ws (an e (zeL (zwm e e (wk (zeL (zeO (.v 0 (.v 1 (.v 2 (.v 3 (.v 4 (.v 5 (.v 6 (.v 7 (.v 8 (.v 9 (.v 10 (.v 11 (.v 12 (.v 13 (.v 14 (.v 15 (.v 16 (.v 17 (.v 18 (.v 19 (.v 20 (.v 21 (.v 22 (.v 23 (.v 24 (.v 25 (.v 26 (.v 27 (.v 28 (.v 29 (.v 30 (.v 31 (.v 32 (.v 33 (.v 34 (.v 35 (.v 36 (.v 37 (.v 38 (.v 39 (.v 40 (.v 41 (.v 42 (.v 43 (.v 44 (.v 45 (.v 46 .nil))))))))))))))))))))))))))))))))))))))))))))))) zlE (by kernel_rfl) (rm e e (zav h λy1 hy1 h=>zbd e (vX e e zes hy1) (zbd e (zan ty5 e) (zbd e (zhy Tryz.underlying5 Tryz.underlying178 e) (rm e e (zav h λy2 hy2 h=>zbd e (vX e e zes hy2) (zbd e (zan ty5 e) (zbd e (zhy Tryz.underlying5 Tryz.underlying178 e) (zbF h λq3 h=>zbd e (ziN e e q3) (zbd e (zht e e) (rm e e (zav h λy4 hy4 h=>zbd e (vX e e zes hy4) (zbd e (zan ty5 e) (zbd e (zhy Tryz.underlying5 Tryz.underlying178 e) (zbF h λq5 h=>zbd e (ziN e e q5) (zbd e (zht e e) (rm e e ?_)))))))))))))))))))))))
 refine zav h λy6 hy6 h=>zbd e (vX e e zes hy6) (zbd e (zan ty5 e) (zbd e (zhy Tryz.underlying5 Tryz.underlying178 e) (zbF h λq7 h=>zbd e (ziN e e q7) (zbd e (zht e e) (rm e e (zav h λy8 hy8 h=>zbd e (vX e e zes hy8) (zbd e (zan ty5 e) (zbd e (zhy Tryz.underlying5 Tryz.underlying178 e) (zbF h λq9 h=>zbd e (ziN e e q9) (zbd e (zht e e) (rm e e (zav h λy10 hy10 h=>zbd e (vX e e zes hy10) (zbd e (zan ty5 e) (zbd e (zhy Tryz.underlying5 Tryz.underlying178 e) (zbF h λq11 h=>zbd e (ziN e e q11) (zbd e (zht e e) (rm e e (zav h λy12 hy12 h=>zbd e (vX e e zes hy12) (zbd e (zan ty5 e) (zbd e (zhy Tryz.underlying5 Tryz.underlying178 e) (zbF h λq13 h=>zbd e (ziN e e q13) ?_)))))))))))))))))))))
 exact zbd e (zht e e) (rm e e (zav h λy14 hy14 h=>zbd e (vX e e zes hy14) (zbd e (zan ty5 e) (zbd e (zhy Tryz.underlying5 Tryz.underlying178 e) (zbF h λq15 h=>zbd e (ziN e e q15) (zbd e (zht e e) (zbd e (zjo e) (zgV (zc7 (zoy (zdB (r1 e) k0 (iS h ▸ ⟨e,e⟩))))))))))))


theorem zqD {a_p r} (h:zcy a_p=some r):Ctr Tryz.prog 79 [isv a_p] [] (Pt [isv r] []):=by
 unfold zcy at h
 refine zen Tryz.func79 e λw0 S0 hT=>ws (an e (ws (om e (om e (oV (vN e zes) (om e (oV (vN e zes) (zcd h λq1 h=>oV (zzP (l:=a_p) e hI zes e e q1.1 q1.2) (an e (zeL (zec (lO 0 h e λL3 q2 Q194 h hL3 eL3 rL3=>ss (om e (oV (vN e zes) (oV (zmE e e) (rn (zcp h e (λ_ h=>?_) (λ_ h=>xn (eL3 _ _ (zeJ (zc7 (ws (ar e (zdB (r1 e) k0 (iS h ▸ ⟨e,e⟩)))))))))))))))))))))))))
 refine wk (zec (ws (om e (zav h λy99 hy99 h=>oV (vX e e zes hy99) (oV (zan ty5 e) (an e (ss (om e (oV (zgR e e) (rn (zcp h e (λ_ h=>?_) (λ_ h=>wk (ws (om e (oV (zBO zsG ar198 e) (oV (zBx hT ty5 e _ zkk) (an e (ws (om e (oV (zs8 e e) (oV (zz1 Tryz.underlying5 Tryz.underlying3 e) (an e (ws (om e (zbF h λq140 h=>oV (zsV e e q140) (zbF h λq141 h=>oV (zBP zkk ar201 e q141) ?_))))))))))))))))))))))))))
 ·refine ws (om e (zcd h λq100 h=>oV (zmB (l:=q2) e hI zes (.inr ⟨_,e,e⟩) (.inl ⟨e,e⟩) q100.1 q100.2.1 q100.2.2) (an e (ss (om e (oV (vN e zes) (oV (zmE e e) (om e (jO 5 31 h (λq101 h=>?_) λJ102 h hJ102=>oI h (λg103 h=>?_) λg103 h=>oN g103 (oN g103 (oN g103 (oN g103 (oV (zb5 e g103 e) (hJ102 h 5))))))))))))))
  ·refine rn (jW 0 h (λq105 h=>?_) λJ106 h hJ106=>zcp h e (λ_ h=>?_) (λ_ h=>zm9 (hJ106 h 0)))
   ·exact xn (zeJ (hL3 h 19))
   refine ws (om e (zcd h λq107 h=>oV (zmB (l:=((q2.take ((q2.length:Int)).toNat).drop ((1:Int)).toNat)) e hI zes (.inr ⟨_,e,e⟩) (.inl ⟨e,e⟩) q107.1 q107.2.1 q107.2.2) (an e (zeL (zeO (.v 0 (.v 1 (.v 2 (.v 3 (.v 4 (.v 6 (.v 7 (.t 5 (.t 8 (.v 9 (.v 10 (.v 11 (.v 12 .nil))))))))))))) zlE (by kernel_rfl) (rm e e (zbd e (vN e zes) (zbd e (zmE e e) (rm e e (jD 9 46 h (λq108 h=>?_) λJ109 h hJ109=>rJ h (λg110 h=>?_) λg110 h=>rP e g110 (rP e g110 (rP e g110 (zhW e e (dj:=37) e g110 (zhW e e (dj:=37) e g110 (rP e g110 (rP e g110 (rP e g110 (zbd e (zb5 e g110 e) (hJ109 h 9)))))))))))))))))))
   ·refine zgV (zc7 (zcp h e (λ_ h=>?_) (λ_ h=>zm9 (hJ106 h 8))))
    refine ws (om e (zcd h λq114 h=>oV (zmB (l:=((((q2.take ((q2.length:Int)).toNat).drop ((1:Int)).toNat).take ((((q2.take ((q2.length:Int)).toNat).drop ((1:Int)).toNat).length:Int)).toNat).drop ((8:Int)).toNat)) e hI zes (.inr ⟨_,e,e⟩) (.inl ⟨e,e⟩) q114.1 q114.2.1 q114.2.2) (an e (zec (lO 0 h e λL116 q115 Q139 h hL116 eL116 rL116=>zeL (zeL (zeO (.v 0 (.v 1 (.v 2 (.v 3 (.v 4 (.v 6 (.v 7 (.v 10 (.v 11 (.v 13 (.v 14 (.t 5 (.t 8 (.v 9 (.t 12 (.t 15 (.v 16 (.v 17 (.v 18 (.v 19 (.v 20 .nil))))))))))))))))))))) zlE (by kernel_rfl) (rm e e (zbd e (vN e zes) (zbd e (zmE e e) (rm e e (jD 17 69 h (λq128 h=>?_) λJ129 h hJ129=>rJ h (λg130 h=>?_) λg130 h=>rP e g130 (rP e g130 (rP e g130 (rP e g130 (rP e g130 (rP e g130 (rP e g130 (zhW e e (dj:=52) e g130 (zhW e e (dj:=52) e g130 (rP e g130 (zhW e e (dj:=52) e g130 (zhW e e (dj:=52) e g130 (rP e g130 (rP e g130 ?_)))))))))))))))))))))))))
    ·refine zgV (zc7 (zcp h e (λ_ h=>?_) (λ_ h=>xn (eL116 _ _ (zeJ (hJ106 h 17))))))
     exact wk (zec (zdQ (om e (zcd h λq138 h=>oV (zmB (l:=q115) e hI zes (.inr ⟨_,e,e⟩) (.inl ⟨e,e⟩) q138.1 q138.2.1 q138.2.2) (oa e (rb (hL116 h 9)))))))
    ·exact rG e g130 (zc0 e) (rG e g130 (zc0 e) (zcd h λq131 h=>rG e g130 (zmB (l:=q115) e hI zes (.inr ⟨_,e,e⟩) (.inl ⟨e,e⟩) q131.1 q131.2.1 q131.2.2) (rG e g130 (zc0 e) (zcd h λq132 h=>rG e g130 (zmB (l:=q115) e hI zes (.inr ⟨_,e,e⟩) (.inl ⟨e,e⟩) q132.1 q132.2.1 q132.2.2) (rG e g130 (zc0 e) (zcd h λq133 h=>rG e g130 (zmB (l:=q115) e hI zes (.inr ⟨_,e,e⟩) (.inl ⟨e,e⟩) q133.1 q133.2.1 q133.2.2) (zav h λy134 hy134 h=>rH e g130 (tC (zc5 hy134) hT (s1 e) k0 (zav h λy135 hy135 h=>rH e g130 (tC (zc5 hy135) hT (s1 e) k0 (rG e g130 (zht e e) (zav h λy136 hy136 h=>rH e g130 (tC (zc5 hy136) hT (s1 e) k0 (zav h λy137 hy137 h=>rH e g130 (tC (zc5 hy137) hT (s1 e) k0 (rG e g130 (zht e e) (rG e g130 (zht e e) (rG e g130 (znI e e) (rG e g130 (zqS e e) (zbd e (zb7 e g130 e) (hJ129 h 17)))))))))))))))))))))
    exact rP e g130 (rP e g130 (zbd e (zb5 e g130 e) (hJ129 h 17)))
   exact rG e g110 (zc0 e) (rG e g110 (zc0 e) (zcd h λq111 h=>rG e g110 (zmB (l:=((((q2.take ((q2.length:Int)).toNat).drop ((1:Int)).toNat).take ((((q2.take ((q2.length:Int)).toNat).drop ((1:Int)).toNat).length:Int)).toNat).drop ((8:Int)).toNat)) e hI zes (.inr ⟨_,e,e⟩) (.inl ⟨e,e⟩) q111.1 q111.2.1 q111.2.2) (zav h λy112 hy112 h=>rH e g110 (tC (zc5 hy112) hT (s1 e) k0 (zav h λy113 hy113 h=>rH e g110 (tC (zc5 hy113) hT (s1 e) k0 (rG e g110 (zht e e) (rG e g110 (znI e e) (rG e g110 (zqS e e) (zbd e (zb7 e g110 e) (hJ109 h 9)))))))))))
  exact oG g103 (zc0 e) (zav h λy104 hy104 h=>oH g103 (tC (zc5 hy104) hT (s1 e) k0 (oG g103 (znI e e) (oG g103 (zqS e e) (oV (zb7 e g103 e) (hJ102 h 5))))))
 refine oV (zBm hT zz0 e q141 _ zsG) (oT (zhF _ ze200 λb142=>oT (tS zz0 e e p0 (zh1 (zfn (zfI y99) (4:UInt64).toNat)) (zbi (znO 6 .here e) (rn (ws (om e (rn (zec (ws (oV (zoO e e) (an e (zcp h e (λ_ h=>?_) (λ_ h=>ws (oV (zoO e e) (an e (zcp h e (λ_ h=>?_) (λ_ h=>ws (oV (zoO e e) (an e (zcp h e (λ_ h=>?_) (λ_ h=>ws (ar e (zeM (zeM (rL3 _ (bn (zdB (r1 e) k0 (iS h ▸ ⟨e,e⟩)))))))))))))))))))))))))))))
 ·refine zeL (zeL (zeO (.v 0 (.v 1 (.v 2 (.v 3 (.v 4 (.v 5 (.v 6 (.v 7 (.v 8 (.v 9 (.v 10 (.v 11 (.v 12 (.v 13 (.v 14 (.v 15 (.v 16 (.v 17 (.v 18 .nil))))))))))))))))))) zlE (by kernel_rfl) (rm e e (zbd e (vN e zes) (zbd e (zl3 e e) (rm e e (jD 7 95 h (λq143 h=>?_) λJ144 h hJ144=>rJ h (λg145 h=>?_) λg145 h=>rG e g145 (zc0 e) (zav h λy146 hy146 h=>rG e g145 (vX e e zes hy146) (rG e g145 (zan ty5 e) (rG e g145 (vI e zg0.f0 zqi ((zh1 (zfn (zfI y99) (4:UInt64).toNat)).lo)) (rG e g145 (zan ty5 e) (rG e g145 (zgR e e) (zbd e (zb5 e g145 e) (hJ144 h 7))))))))))))))
  ·refine rm e e (jD 7 103 h (λq147 h=>?_) λJ148 h hJ148=>rJ h (λg149 h=>?_) λg149 h=>rG e g149 (vI e zg0.f1 zqh ((zh1 (zfn (zfI y99) (4:UInt64).toNat)).hi)) (rG e g149 (zan ty5 e) (rG e g149 (zc0 e) (zav h λy150 hy150 h=>rG e g149 (vX e e zes hy150) (rG e g149 (zan ty5 e) (rG e g149 (zgR e e) (zbd e (zb5 e g149 e) (hJ148 h 7))))))))
   ·refine zgV (zc7 (zcp h e (λ_ h=>?_) (λ_ h=>wk (zdQ (om e (zcd h λq151 h=>oV (zmB (l:=q2) e hI zes (.inr ⟨_,e,e⟩) (.inl ⟨e,e⟩) q151.1 q151.2.1 q151.2.2) (oa e (rb (zgu (hL3 h 37))))))))))
    exact ws (ar e (zhi (zeM (zeM (rL3 _ (bn (zdB (r1 e) k0 (iS h ▸ ⟨e,e⟩))))))))
   exact rP e g149 (rP e g149 (rP e g149 (rP e g149 (rP e g149 (rP e g149 (zbd e (zb7 e g149 e) (hJ148 h 7)))))))
  exact rP e g145 (rP e g145 (rP e g145 (rP e g145 (rP e g145 (rP e g145 (zbd e (zb7 e g145 e) (hJ144 h 7)))))))
 ·refine zeL (zeL (zeO (.v 0 (.v 1 (.v 2 (.v 3 (.v 4 (.v 5 (.v 6 (.v 7 (.v 8 (.v 9 (.v 10 (.v 11 (.v 12 (.v 13 (.v 14 (.v 15 (.v 16 (.v 17 (.v 18 (.v 19 (.v 20 (.v 21 (.v 22 (.v 23 (.v 24 (.v 25 (.v 26 (.v 27 (.v 28 (.v 29 (.v 30 .nil))))))))))))))))))))))))))))))) zlE (by kernel_rfl) (rm e e (zbd e (vN e zes) (zbd e (zl3 e e) (rm e e (jD 7 118 h (λq152 h=>?_) λJ153 h hJ153=>rJ h (λg154 h=>?_) λg154 h=>rG e g154 (zc0 e) (zav h λy155 hy155 h=>rG e g154 (vX e e zes hy155) (rG e g154 (zan ty5 e) (rG e g154 (vI e zg0.f0 zqi ((zh1 (zfn (zfI y99) (4:UInt64).toNat)).lo)) (rG e g154 (zan ty5 e) (rG e g154 (zgR e e) (zbd e (zb5 e g154 e) (hJ153 h 7))))))))))))))
  ·refine rm e e (jD 7 126 h (λq156 h=>?_) λJ157 h hJ157=>rJ h (λg158 h=>?_) λg158 h=>rG e g158 (vI e zg0.f1 zqh ((zh1 (zfn (zfI y99) (4:UInt64).toNat)).hi)) (rG e g158 (zan ty5 e) (rG e g158 (zc0 e) (zav h λy159 hy159 h=>rG e g158 (vX e e zes hy159) (rG e g158 (zan ty5 e) (rG e g158 (zgR e e) (zbd e (zb5 e g158 e) (hJ157 h 7))))))))
   ·refine rm e e (jD 5 132 h (λq160 h=>?_) λJ161 h hJ161=>rJ h (λg162 h=>?_) λg162 h=>rG e g162 (zc0 e) (zav h λy163 hy163 h=>rG e g162 (vX e e zes hy163) (rG e g162 (zan ty5 e) (rG e g162 (zgR e e) (zbd e (zb5 e g162 e) (hJ161 h 5))))))
    ·refine rm e e (jD 5 138 h (λq164 h=>?_) λJ165 h hJ165=>rJ h (λg166 h=>?_) λg166 h=>rG e g166 (zc0 e) (zav h λy167 hy167 h=>rG e g166 (vX e e zes hy167) (rG e g166 (zan ty5 e) (rG e g166 (zgR e e) (zbd e (zb5 e g166 e) (hJ165 h 5))))))
     ·refine zgV (zc7 (zcp h e (λ_ h=>?_) (λ_ h=>wk (zdQ (om e (zcd h λq168 h=>oV (zmB (l:=q2) e hI zes (.inr ⟨_,e,e⟩) (.inl ⟨e,e⟩) q168.1 q168.2.1 q168.2.2) (oa e (rb (zgu (hL3 h 43))))))))))
      exact ws (ar e (zhi (zeM (zeM (rL3 _ (bn (zdB (r1 e) k0 (iS h ▸ ⟨e,e⟩))))))))
     exact rP e g166 (rP e g166 (rP e g166 (rP e g166 (zbd e (zb7 e g166 e) (hJ165 h 5)))))
    exact rP e g162 (rP e g162 (rP e g162 (rP e g162 (zbd e (zb7 e g162 e) (hJ161 h 5)))))
   exact rP e g158 (rP e g158 (rP e g158 (rP e g158 (rP e g158 (rP e g158 (zbd e (zb7 e g158 e) (hJ157 h 7)))))))
  exact rP e g154 (rP e g154 (rP e g154 (rP e g154 (rP e g154 (rP e g154 (zbd e (zb7 e g154 e) (hJ153 h 7)))))))
 refine zeL (zeL (zeO (.v 0 (.v 1 (.v 2 (.v 3 (.v 4 (.v 5 (.v 6 (.v 7 (.v 8 (.v 9 (.v 10 (.v 11 (.v 12 (.v 13 (.v 14 (.v 15 (.v 16 (.v 17 (.v 18 (.v 19 (.v 20 (.v 21 (.v 22 (.v 23 (.v 24 (.v 25 (.v 26 (.v 27 (.v 28 (.v 29 (.v 30 (.v 31 (.v 32 (.v 33 (.v 34 (.v 35 (.v 36 (.v 37 (.v 38 (.v 39 (.v 40 (.v 41 (.v 42 .nil))))))))))))))))))))))))))))))))))))))))))) zlE (by kernel_rfl) (rm e e (zbd e (vN e zes) (zbd e (zl3 e e) (rm e e (jD 7 153 h (λq169 h=>?_) λJ170 h hJ170=>rJ h (λg171 h=>?_) λg171 h=>rG e g171 (zc0 e) (zav h λy172 hy172 h=>rG e g171 (vX e e zes hy172) (rG e g171 (zan ty5 e) (rG e g171 (vI e zg0.f0 zqi ((zh1 (zfn (zfI y99) (4:UInt64).toNat)).lo)) (rG e g171 (zan ty5 e) (rG e g171 (zgR e e) (zbd e (zb5 e g171 e) (hJ170 h 7))))))))))))))
 ·refine rm e e (jD 7 161 h (λq173 h=>?_) λJ174 h hJ174=>rJ h (λg175 h=>?_) λg175 h=>rG e g175 (vI e zg0.f1 zqh ((zh1 (zfn (zfI y99) (4:UInt64).toNat)).hi)) (rG e g175 (zan ty5 e) (rG e g175 (zc0 e) (zav h λy176 hy176 h=>rG e g175 (vX e e zes hy176) (rG e g175 (zan ty5 e) (rG e g175 (zgR e e) (zbd e (zb5 e g175 e) (hJ174 h 7))))))))
  ·refine rm e e (jD 5 167 h (λq177 h=>?_) λJ178 h hJ178=>rJ h (λg179 h=>?_) λg179 h=>rG e g179 (zc0 e) (zav h λy180 hy180 h=>rG e g179 (vX e e zes hy180) (rG e g179 (zan ty5 e) (rG e g179 (zgR e e) (zbd e (zb5 e g179 e) (hJ178 h 5))))))
   ·refine rm e e (jD 5 173 h (λq181 h=>?_) λJ182 h hJ182=>rJ h (λg183 h=>?_) λg183 h=>rG e g183 (zc0 e) (zav h λy184 hy184 h=>rG e g183 (vX e e zes hy184) (rG e g183 (zan ty5 e) (rG e g183 (zgR e e) (zbd e (zb5 e g183 e) (hJ182 h 5))))))
    ·refine rm e e (jD 5 179 h (λq185 h=>?_) λJ186 h hJ186=>rJ h (λg187 h=>?_) λg187 h=>rG e g187 (zc0 e) (zav h λy188 hy188 h=>rG e g187 (vX e e zes hy188) (rG e g187 (zan ty5 e) (rG e g187 (zgR e e) (zbd e (zb5 e g187 e) (hJ186 h 5))))))
     ·refine rm e e (jD 5 185 h (λq189 h=>?_) λJ190 h hJ190=>rJ h (λg191 h=>?_) λg191 h=>rG e g191 (zc0 e) (zav h λy192 hy192 h=>rG e g191 (vX e e zes hy192) (rG e g191 (zan ty5 e) (rG e g191 (zgR e e) (zbd e (zb5 e g191 e) (hJ190 h 5))))))
      ·refine zgV (zc7 (zcp h e (λ_ h=>?_) (λ_ h=>wk (zdQ (om e (zcd h λq193 h=>oV (zmB (l:=q2) e hI zes (.inr ⟨_,e,e⟩) (.inl ⟨e,e⟩) q193.1 q193.2.1 q193.2.2) (oa e (rb (zgu (hL3 h 49))))))))))
       exact ws (ar e (zhi (zeM (zeM (rL3 _ (bn (zdB (r1 e) k0 (iS h ▸ ⟨e,e⟩))))))))
      exact rP e g191 (rP e g191 (rP e g191 (rP e g191 (zbd e (zb7 e g191 e) (hJ190 h 5)))))
     exact rP e g187 (rP e g187 (rP e g187 (rP e g187 (zbd e (zb7 e g187 e) (hJ186 h 5)))))
    exact rP e g183 (rP e g183 (rP e g183 (rP e g183 (zbd e (zb7 e g183 e) (hJ182 h 5)))))
   exact rP e g179 (rP e g179 (rP e g179 (rP e g179 (zbd e (zb7 e g179 e) (hJ178 h 5)))))
  exact rP e g175 (rP e g175 (rP e g175 (rP e g175 (rP e g175 (rP e g175 (zbd e (zb7 e g175 e) (hJ174 h 7)))))))
 exact rP e g171 (rP e g171 (rP e g171 (rP e g171 (rP e g171 (rP e g171 (zbd e (zb7 e g171 e) (hJ170 h 7)))))))


instance utf8_Valid_g a_p:zd Tryz.prog 79 (zcy a_p) (.mk [isv a_p] [] λr=>.mk [isv r] []):=⟨λr h=>by
 exact zqD h⟩
end Go.Proofs.Q
