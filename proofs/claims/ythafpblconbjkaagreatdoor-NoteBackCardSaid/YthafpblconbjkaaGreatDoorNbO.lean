/- Walks, printed by mill.py and grow.py. -/
import Derived.Test.YthafpblconbjkaaGreatDoorNbN
set_option linter.unusedVariables false
set_option linter.unusedSimpArgs false
set_option maxRecDepth 4000
set_option maxHeartbeats 4000000
namespace Go.Proofs.Q
open Go.Sy
section
attribute [local irreducible] isv zbl zar zbI zbs zef zez zgw zgg zdV zdE zcO zj zO zM cal br ck asr jp lp zs
instance lex_reader_peek_g a_r_ a_k:zd Tryz.prog 93 (zaj a_r_ a_k) (.b λzdA=>.mk [zar zdA ((Fld.id zaa).comp zaa.f0),isv a_k] [zj zdA (a_r_:zaa)] λr=>.mk [isv r.1] [zj zdA (r.2)]):=by
 unfold zaj
 exact W (.p 0 (.d 0 (.b .a (.p 0 (.d 0 .a))))) Tryz.func93 e

instance internal_stringslite_HasPrefix_g a_s zd2:zd Tryz.prog 174 (zbZ a_s zd2) (.mk [isv a_s,isv zd2] [] λr=>.mk [isv r] []):=by
 unfold zbZ
 exact W (.o 1 17 .a .a) Tryz.func174 e

instance strings_HasPrefix_g a_s zd2:zd Tryz.prog 143 (zfa a_s zd2) (.mk [isv a_s,isv zd2] [] λr=>.mk [isv r] []):=by
 unfold zfa
 exact W .a Tryz.func143 e

instance lex_reader_ahead_g a_r_ a_t:zd Tryz.prog 94 (zci a_r_ a_t) (.b λzdA=>.mk [zar zdA ((Fld.id zaa).comp zaa.f0),isv a_t] [zj zdA (a_r_:zaa)] λr=>.mk [isv r.1] [zj zdA (r.2)]):=by
 unfold zci
 exact W (.p 0 (.d 1024 .a)) Tryz.func94 e

instance lex_reader_skip_g a_r_:zd Tryz.prog 42 (zdM a_r_) (.b λzdA=>.mk [zar zdA ((Fld.id zaa).comp zaa.f0)] [zj zdA (a_r_:zaa)] λr=>.mk [] [zj zdA (r)]):=by
 unfold zdM
 exact W (.k (.b 0 λzdA=>.m [true] (.v (λq1:zaa=>[(0,zar zdA ((Fld.id zaa).comp zaa.f0))]) λq1=>[zj zdA (q1:zaa)])) (.p 0 (.d 0 (.b (.o 9 21 (.o 5 25 (.o 1 29 (.b .a (.b (.k (.b 0 λzdA=>.m [true] (.v (λq78:zaa=>[]) λq78=>[zj zdA (q78:zaa)])) (.v [] (.j 0 (.b 0 λzdA=>.m [true] (.v (λq101:Bool × zaa=>[(66,isv q101.1)]) λq101=>[zj zdA (q101.2:zaa)])) .a (.e (.v 0 (.v 1 (.v 2 (.v 4 (.v 5 (.v 6 (.alt 3 (.t 7 (.v 8 (.v 9 (.v 10 (.v 11 (.t 12 (.v 13 (.v 14 (.v 15 (.v 16 (.t 17 (.v 18 (.v 19 .nil))))))))))))) (.t 7 (.v 8 (.t 3 (.v 9 (.v 10 (.v 11 (.t 12 (.v 13 (.v 14 (.v 15 (.v 16 (.t 17 (.v 18 (.v 19 .nil))))))))))))))))))))) (.b (.j 5 (.b 0 λzdA=>.m [true] (.v (λq103:Bool × zaa=>[(61,isv q103.1)]) λq103=>[zj zdA (q103.2:zaa)])) (.j 0 (.b 0 λzdA=>.m [true] (.v (λq107:Bool × zaa=>[(66,isv q107.1)]) λq107=>[zj zdA (q107.2:zaa)])) .a .a) .a) (.j 5 (.b 0 λzdA=>.m [true] (.v (λq111:Bool × zaa=>[(61,isv q111.1)]) λq111=>[zj zdA (q111.2:zaa)])) (.j 0 (.b 0 λzdA=>.m [true] (.v (λq115:Bool × zaa=>[(66,isv q115.1)]) λq115=>[zj zdA (q115.2:zaa)])) .a .a) .a)))) .a)) .a)) .a) .a) .a) .a)))) Tryz.func42 e

instance lex_letter_g a_c:zd Tryz.prog 95 (zf6 a_c) (.mk [isv a_c] [] λr=>.mk [isv r] []):=by
 unfold zf6
 exact W (.o 9 8 (.o 1 16 .a (.b .a (.o 2 15 .a .a))) .a) Tryz.func95 e

instance lex_digit_g a_c:zd Tryz.prog 97 (zfF a_c) (.mk [isv a_c] [] λr=>.mk [isv r] []):=by
 unfold zfF
 exact W (.o 1 8 .a .a) Tryz.func97 e

instance lex_Word_g a_s:zd Tryz.prog 144 (zkO a_s) (.mk [isv a_s] [] λr=>.mk [isv r] []):=by
 unfold zkO
 exact W (.w [4] .a .a) Tryz.func144 e

instance lex_lexer_name_g a_l:zd Tryz.prog 96 (zfx a_l) (.b λzcj=>.mk [zar zcj (Fld.id zaa)] [zj zcj (a_l:zaa)] λr=>.mk [isv r.1,isv r.2.1] [zj zcj (r.2.2)]):=by
 unfold zfx
 exact W (.k (.b 0 λzcj=>.m [true] (.v (λq2:UInt8 × zaa=>[(5,isv q2.1)]) λq2=>[zj zcj (q2.2:zaa)])) (.o 11 21 (.j 0 (.b 0 λzcj=>.m [true] (.v (λq33:Bool × zaa=>[(32,isv q33.1)]) λq33=>[zj zcj (q33.2:zaa)])) (.b .a (.p 0 (.d 0 (.o 1 69 .a .a)))) (.b .a (.j 1 (.b 0 λzcj=>.m [true] (.v (λq36:Bool × zaa=>[(31,isv q36.1)]) λq36=>[zj zcj (q36.2:zaa)])) .a .a))) .a)) Tryz.func96 e

instance lex_lexer_number_g a_l:zd Tryz.prog 98 (zeI a_l) (.b λzcj=>.mk [zar zcj (Fld.id zaa)] [zj zcj (a_l:zaa)] λr=>.mk [isv r.1,isv r.2.1] [zj zcj (r.2.2)]):=by
 unfold zeI
 exact W (.j 0 (.b 0 λzcj=>.m [true] (.v (λq2:zaa=>[]) λq2=>[zj zcj (q2:zaa)])) (.k (.b 0 λzcj=>.m [true] (.v (λq5:zaa=>[]) λq5=>[zj zcj (q5:zaa)])) (.b .a (.p 0 (.d 0 (.o 7 92 (.j 0 (.b 0 λzcj=>.m [true] (.v (λq48:Bool × zaa=>[(99,isv q48.1)]) λq48=>[zj zcj (q48.2:zaa)])) .a .a) (.b .a (.o 8 91 .a (.b (.o 9 90 .a .a) .a)))))))) .a) Tryz.func98 e

instance lex_lexer_hex_g a_l:zd Tryz.prog 99 (zfX a_l) (.b λzcj=>.mk [zar zcj (Fld.id zaa)] [zj zcj (a_l:zaa)] λr=>.mk [isv r.1,isv r.2.1] [zj zcj (r.2.2)]):=by
 unfold zfX
 exact W (.k (.b 0 λzcj=>.m [true] (.v (λq3:UInt8 × zaa=>[(5,isv q3.1)]) λq3=>[zj zcj (q3.2:zaa)])) (.o 0 34 (.b .a (.p 0 (.d 0 (.j 0 (.b 0 λzcj=>.m [true] (.v (λq36:Bool × zaa=>[(70,isv q36.1)]) λq36=>[zj zcj (q36.2:zaa)])) .a .a)))) (.b .a (.o 1 33 .a .a)))) Tryz.func99 e

instance lex_lexer_text_g a_l:zd Tryz.prog 100 (zft a_l) (.b λzcj=>.mk [zar zcj (Fld.id zaa)] [zj zcj (a_l:zaa)] λr=>.mk [isv r.1,isv r.2.1] [zj zcj (r.2.2)]):=by
 unfold zft
 exact W (.k (.b 0 λzcj=>.m [true] (.t λt0=>.v (λq2:(List UInt8) × zaa=>[(0,zar zcj (Fld.id zaa)),(4,zbI t0 q2.1)]) λq2=>[zO t0,zj zcj (q2.2:zaa)])) (.p 0 (.d 0 (.b (.j 0 (.b 0 λzcj=>.m [true] (.v (λq20:zaa=>[]) λq20=>[zj zcj (q20:zaa)])) .a (.b (.b (.b .a (.d 0 .a)) .a) .a)) .a)))) Tryz.func100 e

instance lex_lexer_sign_g a_l:zd Tryz.prog 101 (zfv a_l) (.b λzcj=>.mk [zar zcj (Fld.id zaa)] [zj zcj (a_l:zaa)] λr=>.mk [isv r.1,isv r.2.1] [zj zcj (r.2.2)]):=by
 unfold zfv
 exact W (.k (.b 0 λzcj=>.m [true] (.v (λq2:Int × zaa=>[(8,isv q2.1)]) λq2=>[zj zcj (q2.2:zaa)])) .a) Tryz.func101 e

instance lex_lexer_token_g a_l:zd Tryz.prog 43 (ze5 a_l) (.b λzcj=>.mk [zar zcj (Fld.id zaa)] [zj zcj (a_l:zaa)] λr=>.mk [isv r.1,isv r.2.1] [zj zcj (r.2.2)]):=by
 unfold ze5
 exact W (.b .a (.j 1 (.b 0 λzcj=>.m [true] (.v (λq5:Bool × zaa=>[(29,isv q5.1)]) λq5=>[zj zcj (q5.2:zaa)])) .a (.b .a (.j 2 (.b 0 λzcj=>.m [true] (.v (λq8:Bool × zaa=>[(28,isv q8.1)]) λq8=>[zj zcj (q8.2:zaa)])) .a .a)))) Tryz.func43 e

instance lex_Tokens_g za3:zd Tryz.prog 17 (ziz za3) (.mk [isv za3] [] λr=>.mk [isv r.1,isv r.2.1,isv r.2.2] []):=by
 unfold ziz
 exact W (.b .a (.q 0 (.q 0 (.q 1 (.k (.b 0 λb1=>.m [true] (.t λt0=>.v (λq3:(List zU) × zaa=>[(6,zbI t0 q3.1)]) λq3=>[zO t0,zj b1 (q3.2:zaa)])) .a))))) Tryz.func17 e

end
theorem zlZ {a_p ziK zaO zfL r} (h:zay a_p ziK=some r):Ctr Tryz.prog 68 [zar zaO (Fld.id zih),isv ziK] [zj zaO (zfK a_p zfL),zM zfL a_p.b] (Pt1 (λ_=>[]) λu1=>[zj zaO (zfK r u1),zM u1 r.b]):=by
 unfold zay at h
 refine zen Tryz.func68 e λw0 S0 hT=>ws (om e (oV (vN e sl22) (om e (rn (zec (lP h Vt zfL (λq2 g2=>[(8,isv q2.1)]) (λq2 g2=>[zj zaO (zfK q2.2 g2),zM g2 q2.2.b]) (zel (j:=8) e hI zhG) k2 λL3 q2 g2 Q12 h hL3 eL3 rL3=>ws (oV (zl3 e e) (rn (zeL (zcp h e (λ_ h=>?_) (λ_ h=>xn (eL3 _ _ (zeJ (zwZ .nil k2 (iS h ▸ ⟨g2,e,e⟩)))))))))))))))
 exact wk (zeL (zec (ws (zav h λy8 hy8 h=>oV (vX e e sl22 hy8) (oV (zan ty9 e) (an e (zdQ (om e (om e (oV (zhd e) (oV (zpp e zoL zv8) (oT (zhh (R:=zbs g2 (q2.2.b.length)) ty32 e p0 ztH (om e (zbF h λq10 h=>oT (zyH zAn e e (.there .here) (by first | rfl | simp) q10 λv9=>oV (zhd e) (oV (zpp e zoL zv8) (oT (tR ty32 e e zz5 p1 (zfK {q2.2 with b:=(q2.2.b ++ y8.b)} v9) e (rb (zc7 (zdQ (zfw h λq11 h=>oV (zpL e e q11) (om e (zkX (hL3 h v9 16))))))))))))))))))))))))))


instance note_printer_put_g a_p ziK:zd Tryz.prog 68 (zay a_p ziK) (.b λzaO=>.v λzfL=>.mk [zar zaO (Fld.id zih),isv ziK] [zj zaO (zfK a_p zfL),zM zfL a_p.b] λr=>.v λu1=>.mk [] [zj zaO (zfK r u1),zM u1 r.b]):=⟨λr h=>by
 intro zaO zfL
 exact zlZ h⟩

theorem zsq {a_b r} (h:zhI a_b=some r):Ctr Tryz.prog 126 [isv a_b] [] (Pt [isv r] []):=by
 unfold zhI at h
 refine zen Tryz.func126 e λw0 S0 hT=>ws (an e (ws (oT (zcc (l:=([(39:UInt8)]:(List UInt8))) el32 (.cons e hI .nil) e e (an e (ss (om e (oV (vN e zes) (om e (rn (zec (zt5 (zed) (lP h Tok none (λq2 g2=>[(3,zbI g2 q2.1),(9,isv q2.2)]) (λq2 g2=>[zO g2]) (zel (j:=3) e hI (zel (j:=9) e hI zhG)) k1 λL3 q2 g2 Q26 h hL3 eL3 rL3=>ws (oV (zl3 e e) (rn (zeL (zcp h e (λ_ h=>?_) (λ_ h=>xn (eL3 _ _ (zeJ (zc7 (ws (om e (oT (zcc (l:=([(39:UInt8),(72:UInt8)]:(List UInt8))) el32 (.cons e hI (.cons e hI .nil)) e e (zbF h λq25 h=>oT (ziX (l:=q2.1) (m:=([(39:UInt8),(72:UInt8)]:(List UInt8))) zus e hI e zb6 .here q25 λt24=>oV (zBN (l:=(q2.1 ++ ([(39:UInt8),(72:UInt8)]:(List UInt8)))) Tryz.underlying32 Tryz.underlying5 Tryz.underlying9 e zb6) (ar e ?_))))))))))))))))))))))))))))
 ·refine wk (zeL (zec (ws (zav h λy15 hy15 h=>oV (vX e e zes hy15) (oV (zan ty5 e) (an e (zeO (.v 0 (.v 1 (.v 2 (.v 3 (.v 4 (.v 5 (.v 6 (.t 7 (.t 8 (.v 9 .nil)))))))))) zlE (by kernel_rfl) (rm e e (rm e e (zbF h λq16 h=>zbd e (zsV e e q16) (zav h λy17 hy17 h=>zbd e (ztF y17 st9 e e hy17) (rm e e (zbd e (zs8 e e) (zav h λy18 hy18 h=>zbd e (ztF y18 st9 e e hy18) (rT e (zcc (l:=([y17,y18]:(List UInt8))) el32 (.cons e hI (.cons e hI .nil)) e e (zbF h λq21 h=>rT e (ziX (l:=q2.1) (m:=([y17,y18]:(List UInt8))) zus e hI e zb6 .here q21 λt20=>zbd e (zjo e) (zgV (zgu (zc7 (zdQ (zfw h λq22 h=>oV (zpL e e q22) (om e ?_))))))))))))))))))))))))
  exact zkX (hL3 h t20 18)
 exact zdB (r1 e) k0 (iS h ▸ ⟨e,e⟩)


instance print_hex_g a_b:zd Tryz.prog 126 (zhI a_b) (.mk [isv a_b] [] λr=>.mk [isv r] []):=⟨λr h=>by
 exact zsq h⟩

section
attribute [local irreducible] isv zbl zar zbI zbs zef zez zgw zgg zdV zdE zcO zj zO zM cal br ck asr jp lp zs
instance print_Value_g a_v:zd Tryz.prog 74 (zgm a_v) (.mk [isv a_v] [] λr=>.mk [isv r] []):=by
 unfold zgm
 exact W .a Tryz.func74 e

end
end Go.Proofs.Q
