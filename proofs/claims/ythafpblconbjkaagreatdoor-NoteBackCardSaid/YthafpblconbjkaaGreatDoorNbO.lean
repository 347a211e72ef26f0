/- Walks, printed by mill.py and grow.py. -/
import Derived.Test.YthafpblconbjkaaGreatDoorNbN
set_option linter.unusedVariables false
set_option linter.unusedSimpArgs false
set_option maxRecDepth 4000
set_option maxHeartbeats 4000000
namespace Go.Proofs.Q
open Go.Sy
section
attribute [local irreducible] isv zbn zar zbK zbu zeh zeA zgz zgk zdX zdG zcP zj zO zN cal br ck asr jp lp zs
instance lex_reader_peek_g a_r_ a_k:zd Tryz.prog 93 (zaj a_r_ a_k) (.b λzdz=>.mk [zar zdz ((Fld.id zab).comp zab.f0),isv a_k] [zj zdz (a_r_:zab)] λr=>.mk [isv r.1] [zj zdz (r.2)]):=by
 unfold zaj
 exact W (.p 0 (.d 0 (.b .a (.p 0 (.d 0 .a))))) Tryz.func93 e

instance internal_stringslite_HasPrefix_g a_s zd4:zd Tryz.prog 174 (zbU a_s zd4) (.mk [isv a_s,isv zd4] [] λr=>.mk [isv r] []):=by
 unfold zbU
 exact W (.o 1 17 .a .a) Tryz.func174 e

instance strings_HasPrefix_g a_s zd4:zd Tryz.prog 143 (zfd a_s zd4) (.mk [isv a_s,isv zd4] [] λr=>.mk [isv r] []):=by
 unfold zfd
 exact W .a Tryz.func143 e

instance lex_reader_ahead_g a_r_ a_t:zd Tryz.prog 94 (zck a_r_ a_t) (.b λzdz=>.mk [zar zdz ((Fld.id zab).comp zab.f0),isv a_t] [zj zdz (a_r_:zab)] λr=>.mk [isv r.1] [zj zdz (r.2)]):=by
 unfold zck
 exact W (.p 0 (.d 1024 .a)) Tryz.func94 e

instance lex_reader_skip_g a_r_:zd Tryz.prog 42 (zdM a_r_) (.b λzdz=>.mk [zar zdz ((Fld.id zab).comp zab.f0)] [zj zdz (a_r_:zab)] λr=>.mk [] [zj zdz (r)]):=by
 unfold zdM
 exact W (.k (.b 0 λzdz=>.m [true] (.v (λq1:zab=>[(0,zar zdz ((Fld.id zab).comp zab.f0))]) λq1=>[zj zdz (q1:zab)])) (.p 0 (.d 0 (.b (.o 9 21 (.o 5 25 (.o 1 29 (.b .a (.b (.k (.b 0 λzdz=>.m [true] (.v (λq78:zab=>[]) λq78=>[zj zdz (q78:zab)])) (.v [] (.j 0 (.b 0 λzdz=>.m [true] (.v (λq101:Bool × zab=>[(66,isv q101.1)]) λq101=>[zj zdz (q101.2:zab)])) .a (.e (.v 0 (.v 1 (.v 2 (.v 4 (.v 5 (.v 6 (.alt 3 (.t 7 (.v 8 (.v 9 (.v 10 (.v 11 (.t 12 (.v 13 (.v 14 (.v 15 (.v 16 (.t 17 (.v 18 (.v 19 .nil))))))))))))) (.t 7 (.v 8 (.t 3 (.v 9 (.v 10 (.v 11 (.t 12 (.v 13 (.v 14 (.v 15 (.v 16 (.t 17 (.v 18 (.v 19 .nil))))))))))))))))))))) (.b (.j 5 (.b 0 λzdz=>.m [true] (.v (λq103:Bool × zab=>[(61,isv q103.1)]) λq103=>[zj zdz (q103.2:zab)])) (.j 0 (.b 0 λzdz=>.m [true] (.v (λq107:Bool × zab=>[(66,isv q107.1)]) λq107=>[zj zdz (q107.2:zab)])) .a .a) .a) (.j 5 (.b 0 λzdz=>.m [true] (.v (λq111:Bool × zab=>[(61,isv q111.1)]) λq111=>[zj zdz (q111.2:zab)])) (.j 0 (.b 0 λzdz=>.m [true] (.v (λq115:Bool × zab=>[(66,isv q115.1)]) λq115=>[zj zdz (q115.2:zab)])) .a .a) .a)))) .a)) .a)) .a) .a) .a) .a)))) Tryz.func42 e

instance lex_letter_g a_c:zd Tryz.prog 95 (zgj a_c) (.mk [isv a_c] [] λr=>.mk [isv r] []):=by
 unfold zgj
 exact W (.o 9 8 (.o 1 16 .a (.b .a (.o 2 15 .a .a))) .a) Tryz.func95 e

instance lex_digit_g a_c:zd Tryz.prog 97 (zfG a_c) (.mk [isv a_c] [] λr=>.mk [isv r] []):=by
 unfold zfG
 exact W (.o 1 8 .a .a) Tryz.func97 e

instance lex_Word_g a_s:zd Tryz.prog 144 (zkT a_s) (.mk [isv a_s] [] λr=>.mk [isv r] []):=by
 unfold zkT
 exact W (.w [4] .a .a) Tryz.func144 e

instance lex_lexer_name_g a_l:zd Tryz.prog 96 (zfn a_l) (.b λzcl=>.mk [zar zcl (Fld.id zab)] [zj zcl (a_l:zab)] λr=>.mk [isv r.1,isv r.2.1] [zj zcl (r.2.2)]):=by
 unfold zfn
 exact W (.k (.b 0 λzcl=>.m [true] (.v (λq2:UInt8 × zab=>[(5,isv q2.1)]) λq2=>[zj zcl (q2.2:zab)])) (.o 11 21 (.j 0 (.b 0 λzcl=>.m [true] (.v (λq33:Bool × zab=>[(32,isv q33.1)]) λq33=>[zj zcl (q33.2:zab)])) (.b .a (.p 0 (.d 0 (.o 1 69 .a .a)))) (.b .a (.j 1 (.b 0 λzcl=>.m [true] (.v (λq36:Bool × zab=>[(31,isv q36.1)]) λq36=>[zj zcl (q36.2:zab)])) .a .a))) .a)) Tryz.func96 e

instance lex_lexer_number_g a_l:zd Tryz.prog 98 (zeI a_l) (.b λzcl=>.mk [zar zcl (Fld.id zab)] [zj zcl (a_l:zab)] λr=>.mk [isv r.1,isv r.2.1] [zj zcl (r.2.2)]):=by
 unfold zeI
 exact W (.j 0 (.b 0 λzcl=>.m [true] (.v (λq2:zab=>[]) λq2=>[zj zcl (q2:zab)])) (.k (.b 0 λzcl=>.m [true] (.v (λq5:zab=>[]) λq5=>[zj zcl (q5:zab)])) (.b .a (.p 0 (.d 0 (.o 7 92 (.j 0 (.b 0 λzcl=>.m [true] (.v (λq48:Bool × zab=>[(99,isv q48.1)]) λq48=>[zj zcl (q48.2:zab)])) .a .a) (.b .a (.o 8 91 .a (.b (.o 9 90 .a .a) .a)))))))) .a) Tryz.func98 e

instance lex_lexer_hex_g a_l:zd Tryz.prog 99 (zfU a_l) (.b λzcl=>.mk [zar zcl (Fld.id zab)] [zj zcl (a_l:zab)] λr=>.mk [isv r.1,isv r.2.1] [zj zcl (r.2.2)]):=by
 unfold zfU
 exact W (.k (.b 0 λzcl=>.m [true] (.v (λq3:UInt8 × zab=>[(5,isv q3.1)]) λq3=>[zj zcl (q3.2:zab)])) (.o 0 34 (.b .a (.p 0 (.d 0 (.j 0 (.b 0 λzcl=>.m [true] (.v (λq36:Bool × zab=>[(70,isv q36.1)]) λq36=>[zj zcl (q36.2:zab)])) .a .a)))) (.b .a (.o 1 33 .a .a)))) Tryz.func99 e

instance lex_lexer_text_g a_l:zd Tryz.prog 100 (zfi a_l) (.b λzcl=>.mk [zar zcl (Fld.id zab)] [zj zcl (a_l:zab)] λr=>.mk [isv r.1,isv r.2.1] [zj zcl (r.2.2)]):=by
 unfold zfi
 exact W (.k (.b 0 λzcl=>.m [true] (.t λt0=>.v (λq2:(List UInt8) × zab=>[(0,zar zcl (Fld.id zab)),(4,zbK t0 q2.1)]) λq2=>[zO t0,zj zcl (q2.2:zab)])) (.p 0 (.d 0 (.b (.j 0 (.b 0 λzcl=>.m [true] (.v (λq20:zab=>[]) λq20=>[zj zcl (q20:zab)])) .a (.b (.b (.b .a (.d 0 .a)) .a) .a)) .a)))) Tryz.func100 e

instance lex_lexer_sign_g a_l:zd Tryz.prog 101 (zfw a_l) (.b λzcl=>.mk [zar zcl (Fld.id zab)] [zj zcl (a_l:zab)] λr=>.mk [isv r.1,isv r.2.1] [zj zcl (r.2.2)]):=by
 unfold zfw
 exact W (.k (.b 0 λzcl=>.m [true] (.v (λq2:Int × zab=>[(8,isv q2.1)]) λq2=>[zj zcl (q2.2:zab)])) .a) Tryz.func101 e

instance lex_lexer_token_g a_l:zd Tryz.prog 43 (ze7 a_l) (.b λzcl=>.mk [zar zcl (Fld.id zab)] [zj zcl (a_l:zab)] λr=>.mk [isv r.1,isv r.2.1] [zj zcl (r.2.2)]):=by
 unfold ze7
 exact W (.b .a (.j 1 (.b 0 λzcl=>.m [true] (.v (λq5:Bool × zab=>[(29,isv q5.1)]) λq5=>[zj zcl (q5.2:zab)])) .a (.b .a (.j 2 (.b 0 λzcl=>.m [true] (.v (λq8:Bool × zab=>[(28,isv q8.1)]) λq8=>[zj zcl (q8.2:zab)])) .a .a)))) Tryz.func43 e

instance lex_Tokens_g za4:zd Tryz.prog 17 (ziw za4) (.mk [isv za4] [] λr=>.mk [isv r.1,isv r.2.1,isv r.2.2] []):=by
 unfold ziw
 exact W (.b .a (.q 0 (.q 0 (.q 1 (.k (.b 0 λb1=>.m [true] (.t λt0=>.v (λq3:(List zU) × zab=>[(6,zbK t0 q3.1)]) λq3=>[zO t0,zj b1 (q3.2:zab)])) .a))))) Tryz.func17 e

end
theorem zlV {a_p ziV zaQ zfP r} (h:zaA a_p ziV=some r):Ctr Tryz.prog 68 [zar zaQ (Fld.id zii),isv ziV] [zj zaQ (zfN a_p zfP),zN zfP a_p.b] (Pt1 (λ_=>[]) λu1=>[zj zaQ (zfN r u1),zN u1 r.b]):=by
 unfold zaA at h
 refine zer Tryz.func68 e λw0 S0 hT=>ws (om e (oV (vN e sl22) (om e (rn (zed (lP h Vt zfP (λq2 g2=>[(8,isv q2.1)]) (λq2 g2=>[zj zaQ (zfN q2.2 g2),zN g2 q2.2.b]) (zeq (j:=8) e hI zhE) k2 λL3 q2 g2 Q12 h hL3 eL3 rL3=>ws (oV (zmB e e) (rn (zeQ (zcr h e (λ_ h=>?_) (λ_ h=>xn (eL3 _ _ (zeK (zxY .nil k2 (iS h ▸ ⟨g2,e,e⟩)))))))))))))))
 exact wk (zeQ (zed (ws (zau h λy8 hy8 h=>oV (vX e e sl22 hy8) (oV (zan ty9 e) (an e (zdS (om e (om e (oV (zg7 e) (oV (zpu e zou zxe) (oT (zhm (R:=zbu g2 (q2.2.b.length)) ty32 e p0 zuj (om e (zbF h λq10 h=>oT (zzO zAT e e (.there .here) (by first | rfl | simp) q10 λv9=>oV (zg7 e) (oV (zpu e zou zxe) (oT (tR ty32 e e zAb p1 (zfN {q2.2 with b:=(q2.2.b ++ y8.b)} v9) e (rb (zc5 (zdS (zfj h λq11 h=>oV (zpJ e e q11) (om e (zkK (hL3 h v9 16))))))))))))))))))))))))))


instance note_printer_put_g a_p ziV:zd Tryz.prog 68 (zaA a_p ziV) (.b λzaQ=>.v λzfP=>.mk [zar zaQ (Fld.id zii),isv ziV] [zj zaQ (zfN a_p zfP),zN zfP a_p.b] λr=>.v λu1=>.mk [] [zj zaQ (zfN r u1),zN u1 r.b]):=⟨λr h=>by
 intro zaQ zfP
 exact zlV h⟩

theorem zsg {a_b r} (h:zhP a_b=some r):Ctr Tryz.prog 126 [isv a_b] [] (Pt [isv r] []):=by
 unfold zhP at h
 refine zer Tryz.func126 e λw0 S0 hT=>ws (an e (ws (oT (zcf (l:=([(39:UInt8)]:(List UInt8))) el32 (.cons e hI .nil) e e (an e (ss (om e (oV (vN e zep) (om e (rn (zed (zuf (zef) (lP h Tok none (λq2 g2=>[(3,zbK g2 q2.1),(9,isv q2.2)]) (λq2 g2=>[zO g2]) (zeq (j:=3) e hI (zeq (j:=9) e hI zhE)) k1 λL3 q2 g2 Q26 h hL3 eL3 rL3=>ws (oV (zmB e e) (rn (zeQ (zcr h e (λ_ h=>?_) (λ_ h=>xn (eL3 _ _ (zeK (zc5 (ws (om e (oT (zcf (l:=([(39:UInt8),(72:UInt8)]:(List UInt8))) el32 (.cons e hI (.cons e hI .nil)) e e (zbF h λq25 h=>oT (ziY (l:=q2.1) (m:=([(39:UInt8),(72:UInt8)]:(List UInt8))) ztM e hI e zb9 .here q25 λt24=>oV (zBM (l:=(q2.1 ++ ([(39:UInt8),(72:UInt8)]:(List UInt8)))) Tryz.underlying32 Tryz.underlying5 Tryz.underlying9 e zb9) (ar e ?_))))))))))))))))))))))))))))
 ·refine wk (zeQ (zed (ws (zau h λy15 hy15 h=>oV (vX e e zep hy15) (oV (zan ty5 e) (an e (zeN (.v 0 (.v 1 (.v 2 (.v 3 (.v 4 (.v 5 (.v 6 (.t 7 (.t 8 (.v 9 .nil)))))))))) zlA (by kernel_rfl) (rm e e (rm e e (zbF h λq16 h=>zbe e (zs9 e e q16) (zau h λy17 hy17 h=>zbe e (zuz y17 st9 e e hy17) (rm e e (zbe e (zti e e) (zau h λy18 hy18 h=>zbe e (zuz y18 st9 e e hy18) (rT e (zcf (l:=([y17,y18]:(List UInt8))) el32 (.cons e hI (.cons e hI .nil)) e e (zbF h λq21 h=>rT e (ziY (l:=q2.1) (m:=([y17,y18]:(List UInt8))) ztM e hI e zb9 .here q21 λt20=>zbe e (zjL e) (zgP (zgq (zc5 (zdS (zfj h λq22 h=>oV (zpJ e e q22) (om e ?_))))))))))))))))))))))))
  exact zkK (hL3 h t20 18)
 exact zdC (r1 e) k0 (iS h ▸ ⟨e,e⟩)


instance print_hex_g a_b:zd Tryz.prog 126 (zhP a_b) (.mk [isv a_b] [] λr=>.mk [isv r] []):=⟨λr h=>by
 exact zsg h⟩

section
attribute [local irreducible] isv zbn zar zbK zbu zeh zeA zgz zgk zdX zdG zcP zj zO zN cal br ck asr jp lp zs
instance print_Value_g a_v:zd Tryz.prog 74 (zgl a_v) (.mk [isv a_v] [] λr=>.mk [isv r] []):=by
 unfold zgl
 exact W .a Tryz.func74 e

end
end Go.Proofs.Q
