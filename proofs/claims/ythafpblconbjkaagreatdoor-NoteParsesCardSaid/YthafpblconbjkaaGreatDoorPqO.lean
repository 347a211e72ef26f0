/- Walks, printed by mill.py and grow.py. -/
import Derived.Test.YthafpblconbjkaaGreatDoorPqN
set_option linter.unusedVariables false
set_option linter.unusedSimpArgs false
set_option maxRecDepth 4000
set_option maxHeartbeats 4000000
namespace Go.Proofs.Q
open Go.Sy
section
attribute [local irreducible] isv zbn zal zbK zbw zem zeI zgQ zf1 zdV zdI zcO zj zO zI cal br ck asr jp lp zq
instance lex_reader_peek_g a_r_ a_k:zd Tryz.prog 93 (zaj a_r_ a_k) (.b λzdE=>.mk [zal zdE ((Fld.id zab).comp zab.f0),isv a_k] [zj zdE (a_r_:zab)] λr=>.mk [isv r.1] [zj zdE (r.2)]):=by
 unfold zaj
 exact W (.p 0 (.d 0 (.b .a (.p 0 (.d 0 .a))))) Tryz.func93 e

instance internal_stringslite_HasPrefix_g a_s zd6:zd Tryz.prog 174 (zbT a_s zd6) (.mk [isv a_s,isv zd6] [] λr=>.mk [isv r] []):=by
 unfold zbT
 exact W (.o 1 17 .a .a) Tryz.func174 e

instance strings_HasPrefix_g a_s zd6:zd Tryz.prog 143 (zft a_s zd6) (.mk [isv a_s,isv zd6] [] λr=>.mk [isv r] []):=by
 unfold zft
 exact W .a Tryz.func143 e

instance lex_reader_ahead_g a_r_ a_t:zd Tryz.prog 94 (zcn a_r_ a_t) (.b λzdE=>.mk [zal zdE ((Fld.id zab).comp zab.f0),isv a_t] [zj zdE (a_r_:zab)] λr=>.mk [isv r.1] [zj zdE (r.2)]):=by
 unfold zcn
 exact W (.p 0 (.d 1024 .a)) Tryz.func94 e

instance lex_reader_skip_g a_r_:zd Tryz.prog 42 (zdT a_r_) (.b λzdE=>.mk [zal zdE ((Fld.id zab).comp zab.f0)] [zj zdE (a_r_:zab)] λr=>.mk [] [zj zdE (r)]):=by
 unfold zdT
 exact W (.k (.b 0 λzdE=>.m [true] (.v (λq1:zab=>[(0,zal zdE ((Fld.id zab).comp zab.f0))]) λq1=>[zj zdE (q1:zab)])) (.p 0 (.d 0 (.b (.o 9 21 (.o 5 25 (.o 1 29 (.b .a (.b (.k (.b 0 λzdE=>.m [true] (.v (λq78:zab=>[]) λq78=>[zj zdE (q78:zab)])) (.v [] (.j 0 (.b 0 λzdE=>.m [true] (.v (λq101:Bool × zab=>[(66,isv q101.1)]) λq101=>[zj zdE (q101.2:zab)])) .a (.e (.v 0 (.v 1 (.v 2 (.v 4 (.v 5 (.v 6 (.alt 3 (.t 7 (.v 8 (.v 9 (.v 10 (.v 11 (.t 12 (.v 13 (.v 14 (.v 15 (.v 16 (.t 17 (.v 18 (.v 19 .nil))))))))))))) (.t 7 (.v 8 (.t 3 (.v 9 (.v 10 (.v 11 (.t 12 (.v 13 (.v 14 (.v 15 (.v 16 (.t 17 (.v 18 (.v 19 .nil))))))))))))))))))))) (.b (.j 5 (.b 0 λzdE=>.m [true] (.v (λq103:Bool × zab=>[(61,isv q103.1)]) λq103=>[zj zdE (q103.2:zab)])) (.j 0 (.b 0 λzdE=>.m [true] (.v (λq107:Bool × zab=>[(66,isv q107.1)]) λq107=>[zj zdE (q107.2:zab)])) .a .a) .a) (.j 5 (.b 0 λzdE=>.m [true] (.v (λq111:Bool × zab=>[(61,isv q111.1)]) λq111=>[zj zdE (q111.2:zab)])) (.j 0 (.b 0 λzdE=>.m [true] (.v (λq115:Bool × zab=>[(66,isv q115.1)]) λq115=>[zj zdE (q115.2:zab)])) .a .a) .a)))) .a)) .a)) .a) .a) .a) .a)))) Tryz.func42 e

instance lex_letter_g a_c:zd Tryz.prog 95 (zgv a_c) (.mk [isv a_c] [] λr=>.mk [isv r] []):=by
 unfold zgv
 exact W (.o 9 8 (.o 1 16 .a (.b .a (.o 2 15 .a .a))) .a) Tryz.func95 e

instance lex_digit_g a_c:zd Tryz.prog 97 (zfP a_c) (.mk [isv a_c] [] λr=>.mk [isv r] []):=by
 unfold zfP
 exact W (.o 1 8 .a .a) Tryz.func97 e

instance lex_Word_g a_s:zd Tryz.prog 144 (zk5 a_s) (.mk [isv a_s] [] λr=>.mk [isv r] []):=by
 unfold zk5
 exact W (.w [4] .a .a) Tryz.func144 e

instance lex_lexer_name_g a_l:zd Tryz.prog 96 (zfA a_l) (.b λzco=>.mk [zal zco (Fld.id zab)] [zj zco (a_l:zab)] λr=>.mk [isv r.1,isv r.2.1] [zj zco (r.2.2)]):=by
 unfold zfA
 exact W (.k (.b 0 λzco=>.m [true] (.v (λq2:UInt8 × zab=>[(5,isv q2.1)]) λq2=>[zj zco (q2.2:zab)])) (.o 11 21 (.j 0 (.b 0 λzco=>.m [true] (.v (λq33:Bool × zab=>[(32,isv q33.1)]) λq33=>[zj zco (q33.2:zab)])) (.b .a (.p 0 (.d 0 (.o 1 69 .a .a)))) (.b .a (.j 1 (.b 0 λzco=>.m [true] (.v (λq36:Bool × zab=>[(31,isv q36.1)]) λq36=>[zj zco (q36.2:zab)])) .a .a))) .a)) Tryz.func96 e

instance lex_lexer_number_g a_l:zd Tryz.prog 98 (zeM a_l) (.b λzco=>.mk [zal zco (Fld.id zab)] [zj zco (a_l:zab)] λr=>.mk [isv r.1,isv r.2.1] [zj zco (r.2.2)]):=by
 unfold zeM
 exact W (.j 0 (.b 0 λzco=>.m [true] (.v (λq2:zab=>[]) λq2=>[zj zco (q2:zab)])) (.k (.b 0 λzco=>.m [true] (.v (λq5:zab=>[]) λq5=>[zj zco (q5:zab)])) (.b .a (.p 0 (.d 0 (.o 7 92 (.j 0 (.b 0 λzco=>.m [true] (.v (λq48:Bool × zab=>[(99,isv q48.1)]) λq48=>[zj zco (q48.2:zab)])) .a .a) (.b .a (.o 8 91 .a (.b (.o 9 90 .a .a) .a)))))))) .a) Tryz.func98 e

instance lex_lexer_hex_g a_l:zd Tryz.prog 99 (zgg a_l) (.b λzco=>.mk [zal zco (Fld.id zab)] [zj zco (a_l:zab)] λr=>.mk [isv r.1,isv r.2.1] [zj zco (r.2.2)]):=by
 unfold zgg
 exact W (.k (.b 0 λzco=>.m [true] (.v (λq3:UInt8 × zab=>[(5,isv q3.1)]) λq3=>[zj zco (q3.2:zab)])) (.o 0 34 (.b .a (.p 0 (.d 0 (.j 0 (.b 0 λzco=>.m [true] (.v (λq36:Bool × zab=>[(70,isv q36.1)]) λq36=>[zj zco (q36.2:zab)])) .a .a)))) (.b .a (.o 1 33 .a .a)))) Tryz.func99 e

instance lex_lexer_text_g a_l:zd Tryz.prog 100 (zfC a_l) (.b λzco=>.mk [zal zco (Fld.id zab)] [zj zco (a_l:zab)] λr=>.mk [isv r.1,isv r.2.1] [zj zco (r.2.2)]):=by
 unfold zfC
 exact W (.k (.b 0 λzco=>.m [true] (.t λt0=>.v (λq2:(List UInt8) × zab=>[(0,zal zco (Fld.id zab)),(4,zbK t0 q2.1)]) λq2=>[zO t0,zj zco (q2.2:zab)])) (.p 0 (.d 0 (.b (.j 0 (.b 0 λzco=>.m [true] (.v (λq20:zab=>[]) λq20=>[zj zco (q20:zab)])) .a (.b (.b (.b .a (.d 0 .a)) .a) .a)) .a)))) Tryz.func100 e

instance lex_lexer_sign_g a_l:zd Tryz.prog 101 (zfJ a_l) (.b λzco=>.mk [zal zco (Fld.id zab)] [zj zco (a_l:zab)] λr=>.mk [isv r.1,isv r.2.1] [zj zco (r.2.2)]):=by
 unfold zfJ
 exact W (.k (.b 0 λzco=>.m [true] (.v (λq2:Int × zab=>[(8,isv q2.1)]) λq2=>[zj zco (q2.2:zab)])) .a) Tryz.func101 e

instance lex_lexer_token_g a_l:zd Tryz.prog 43 (zfg a_l) (.b λzco=>.mk [zal zco (Fld.id zab)] [zj zco (a_l:zab)] λr=>.mk [isv r.1,isv r.2.1] [zj zco (r.2.2)]):=by
 unfold zfg
 exact W (.b .a (.j 1 (.b 0 λzco=>.m [true] (.v (λq5:Bool × zab=>[(29,isv q5.1)]) λq5=>[zj zco (q5.2:zab)])) .a (.b .a (.j 2 (.b 0 λzco=>.m [true] (.v (λq8:Bool × zab=>[(28,isv q8.1)]) λq8=>[zj zco (q8.2:zab)])) .a .a)))) Tryz.func43 e

instance lex_Tokens_g zaZ:zd Tryz.prog 17 (ziK zaZ) (.mk [isv zaZ] [] λr=>.mk [isv r.1,isv r.2.1,isv r.2.2] []):=by
 unfold ziK
 exact W (.b .a (.q 0 (.q 0 (.q 1 (.k (.b 0 λb1=>.m [true] (.t λt0=>.v (λq3:(List zS) × zab=>[(6,zbK t0 q3.1)]) λq3=>[zO t0,zj b1 (q3.2:zab)])) .a))))) Tryz.func17 e

end
theorem zlD {a_p ziY zaM zf3 r} (h:zay a_p ziY=some r):Ctr Tryz.prog 68 [zal zaM (Fld.id zin),isv ziY] [zj zaM (zfV a_p zf3),zI zf3 a_p.b] (Pt1 (λ_=>[]) λu1=>[zj zaM (zfV r u1),zI u1 r.b]):=by
 unfold zay at h
 refine zeu Tryz.func68 e λw0 S0 hT=>ws (om e (oV (vN e sl22) (om e (rn (zej (lP h Vt zf3 (λq2 g2=>[(8,isv q2.1)]) (λq2 g2=>[zj zaM (zfV q2.2 g2),zI g2 q2.2.b]) (zev (j:=8) e hI zh4) k2 λL3 q2 g2 Q12 h hL3 eL3 rL3=>ws (oV (zmh e e) (rn (zeT (zcu h e (λ_ h=>?_) (λ_ h=>xn (eL3 _ _ (zeR (zvD .nil k2 (iS h ▸ ⟨g2,e,e⟩)))))))))))))))
 exact wk (zeT (zej (ws (zat h λy8 hy8 h=>oV (vX e e sl22 hy8) (oV (zao ty9 e) (an e (zdU (om e (om e (oV (zhC e) (oV (zo0 e znL zv7) (oT (zhE (R:=zbw g2 (q2.2.b.length)) ty32 e p0 zs1 (om e (zbC h λq10 h=>oT (zx7 zzE e e (.there .here) (by first | rfl | simp) q10 λv9=>oV (zhC e) (oV (zo0 e znL zv7) (oT (tR ty32 e e zyA p1 (zfV {q2.2 with b:=(q2.2.b ++ y8.b)} v9) e (rb (zc7 (zdU (zfx h λq11 h=>oV (zpl e e q11) (om e (zkU (hL3 h v9 16))))))))))))))))))))))))))


instance note_printer_put_g a_p ziY:zd Tryz.prog 68 (zay a_p ziY) (.b λzaM=>.v λzf3=>.mk [zal zaM (Fld.id zin),isv ziY] [zj zaM (zfV a_p zf3),zI zf3 a_p.b] λr=>.v λu1=>.mk [] [zj zaM (zfV r u1),zI u1 r.b]):=⟨λr h=>by
 intro zaM zf3
 exact zlD h⟩

theorem zqG {a_b r} (h:zib a_b=some r):Ctr Tryz.prog 126 [isv a_b] [] (Pt [isv r] []):=by
 unfold zib at h
 refine zeu Tryz.func126 e λw0 S0 hT=>ws (an e (ws (oT (zcj (l:=([(39:UInt8)]:(List UInt8))) el32 (.cons e hI .nil) e e (an e (ss (om e (oV (vN e zez) (om e (rn (zej (ztg (zel) (lP h Tok none (λq2 g2=>[(3,zbK g2 q2.1),(9,isv q2.2)]) (λq2 g2=>[zO g2]) (zev (j:=3) e hI (zev (j:=9) e hI zh4)) k1 λL3 q2 g2 Q26 h hL3 eL3 rL3=>ws (oV (zmh e e) (rn (zeT (zcu h e (λ_ h=>?_) (λ_ h=>xn (eL3 _ _ (zeR (zc7 (ws (om e (oT (zcj (l:=([(39:UInt8),(72:UInt8)]:(List UInt8))) el32 (.cons e hI (.cons e hI .nil)) e e (zbC h λq25 h=>oT (zjf (l:=q2.1) (m:=([(39:UInt8),(72:UInt8)]:(List UInt8))) ztC e hI e zb7 .here q25 λt24=>oV (zz4 (l:=(q2.1 ++ ([(39:UInt8),(72:UInt8)]:(List UInt8)))) Tryz.underlying32 Tryz.underlying5 Tryz.underlying9 e zb7) (ar e ?_))))))))))))))))))))))))))))
 ·refine wk (zeT (zej (ws (zat h λy15 hy15 h=>oV (vX e e zez hy15) (oV (zao ty5 e) (an e (zeU (.v 0 (.v 1 (.v 2 (.v 3 (.v 4 (.v 5 (.v 6 (.t 7 (.t 8 (.v 9 .nil)))))))))) zlA (by kernel_rfl) (rm e e (rm e e (zbC h λq16 h=>zbe e (zsp e e q16) (zat h λy17 hy17 h=>zbe e (zs0 y17 st9 e e hy17) (rm e e (zbe e (zsB e e) (zat h λy18 hy18 h=>zbe e (zs0 y18 st9 e e hy18) (rT e (zcj (l:=([y17,y18]:(List UInt8))) el32 (.cons e hI (.cons e hI .nil)) e e (zbC h λq21 h=>rT e (zjf (l:=q2.1) (m:=([y17,y18]:(List UInt8))) ztC e hI e zb7 .here q21 λt20=>zbe e (zjD e) (zg5 (zgB (zc7 (zdU (zfx h λq22 h=>oV (zpl e e q22) (om e ?_))))))))))))))))))))))))
  exact zkU (hL3 h t20 18)
 exact zdy (r1 e) k0 (iS h ▸ ⟨e,e⟩)


instance print_hex_g a_b:zd Tryz.prog 126 (zib a_b) (.mk [isv a_b] [] λr=>.mk [isv r] []):=⟨λr h=>by
 exact zqG h⟩

section
attribute [local irreducible] isv zbn zal zbK zbw zem zeI zgQ zf1 zdV zdI zcO zj zO zI cal br ck asr jp lp zq
instance print_Value_g a_v:zd Tryz.prog 74 (zgG a_v) (.mk [isv a_v] [] λr=>.mk [isv r] []):=by
 unfold zgG
 exact W .a Tryz.func74 e

end
end Go.Proofs.Q
