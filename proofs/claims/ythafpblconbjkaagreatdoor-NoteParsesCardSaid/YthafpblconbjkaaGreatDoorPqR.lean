/- Walks, printed by mill.py and grow.py. -/
import Derived.Test.YthafpblconbjkaaGreatDoorPqQ
set_option linter.unusedVariables false
set_option linter.unusedSimpArgs false
set_option maxRecDepth 4000
set_option maxHeartbeats 4000000
namespace Go.Proofs.Q
open Go.Sy
section
attribute [local irreducible] isv zbn zal zbK zbw zem zeI zgQ zf1 zdV zdI zcO zj zO zI cal br ck asr jp lp zq
instance r13_parser_fail_g a_x a_e:zd Tryz.prog 24 (zbR a_x a_e) (.b λzp=>.mk [zal zp (Fld.id zaE),isv a_e] [zj zp (a_x:zaE)] λr=>.mk [] [zj zp (r)]):=by
 unfold zbR
 exact W (.b (.e (.v 0 (.v 1 (.v 2 (.v 3 (.v 4 (.v 5 (.v 7 (.v 8 (.v 9 (.alt 6 (.t 10 (.v 11 (.v 12 (.v 13 (.v 14 (.v 15 (.t 16 (.v 17 (.v 18 (.t 19 .nil)))))))))) (.t 10 (.t 6 (.v 11 (.v 12 (.v 13 (.v 14 (.v 15 (.t 16 (.v 17 (.v 18 (.t 19 .nil))))))))))))))))))))) (.b .a .a)) .a) Tryz.func24 e

instance r13_parser_is_g a_x a_s:zd Tryz.prog 58 (zb4 a_x a_s) (.b λzp=>.mk [zal zp (Fld.id zaE),isv a_s] [zj zp (a_x:zaE)] λr=>.mk [isv r.1] [zj zp (r.2)]):=by
 unfold zb4
 exact W (.p 0 (.d 3072 (.o 6 30 (.o 0 36 .a .a) (.b (.o 7 29 .a .a) .a)))) Tryz.func58 e

instance r13_parser_must_g a_x a_s:zd Tryz.prog 59 (zbg a_x a_s) (.b λzp=>.mk [zal zp (Fld.id zaE),isv a_s] [zj zp (a_x:zaE)] λr=>.mk [] [zj zp (r)]):=by
 unfold zbg
 exact W .a Tryz.func59 e

instance r13_parser_kind_g a_x a_k:zd Tryz.prog 60 (zdO a_x a_k) (.b λzp=>.mk [zal zp (Fld.id zaE),isv a_k] [zj zp (a_x:zaE)] λr=>.mk [isv r.1] [zj zp (r.2)]):=by
 unfold zdO
 exact W (.p 0 (.d 3072 (.o 0 26 .a .a))) Tryz.func60 e

instance r13_parser_item_g a_x a_f a_v:zd Tryz.prog 62 (zfd a_x a_f a_v) (.b λzp=>.b λzgS=>.v λzjg=>.mk [zal zp (Fld.id zaE),isv a_f,zal zgS (Fld.id zgV)] [zj zp (a_x:zaE),zj zgS (zhQ a_v zjg),zI zjg a_v.l] λr=>.mk [] [zj zp (r.1),zj zgS (zhQ r.2 zjg),zI zjg r.2.l]):=by
 unfold zfd
 exact W (.p 0 (.d 3072 (.l [7] (.b (.d 0 (.o 0 38 .a .a)) .a)))) Tryz.func62 e

instance r13_parser_field_g a_x a_l zdh:zd Tryz.prog 64 (zd7 a_x a_l zdh) (.b λzp=>.mk [zal zp (Fld.id zaE),isv a_l,isv zdh] [zj zp (a_x:zaE)] λr=>.mk [isv r.1] [zj zp (r.2)]):=by
 unfold zd7
 exact W (.p 0 (.d 3072 (.k (.b 0 λzp=>.m [] (.v (λq5:Int=>[(0,zal zp (Fld.id zaE)),(8,isv q5)]) λq5=>[])) (.b (.p 0 (.d 0 (.o 7 38 (.o 0 45 .a .a) .a))) .a)))) Tryz.func64 e

abbrev zeJ (a_x:zaE) (a_f:zg) (a_v:Val) (za:Int):AC (zaE × Val):=.b λzp=>.b λzgS=>.v λzjg=>.mk [zal zp (Fld.id zaE),isv a_f,zal zgS (Fld.id zgV),isv za] [zj zp (a_x:zaE),zj zgS (zhQ a_v zjg),zI zjg a_v.l] λr=>.v λu1=>.mk [] [zj zp (r.1),zj zgS (zhQ r.2 u1),zI u1 r.2.l]
abbrev zd8 (a_x:zaE) (a_i:Int) (za:Int):AC (Val × zaE):=.b λzp=>.mk [zal zp (Fld.id zaE),isv a_i,isv za] [zj zp (a_x:zaE)] λr=>.mk [isv r.1] [zj zp (r.2)]
theorem zkG {zbL:zaE->zg->Val->Int->Option (zaE × Val)} {zbo:zaE->Int->Int->Option (Val × zaE)} [∀ a_x a_f a_v za,zd Tryz.prog 65 (zbL a_x a_f a_v za) (zeJ a_x a_f a_v za)] [∀ a_x a_i za,zd Tryz.prog 23 (zbo a_x a_i za) (zd8 a_x a_i za)] a_x a_f a_v za:zd Tryz.prog 65 (zdf zbL zbo a_x a_f a_v za) (zeJ a_x a_f a_v za):=by
 unfold zdf
 exact W (.b .a (.w [] (.j 0 (.b 0 λzp=>.b 1 λzgS=>.w 2 λv3=>.m [true,true,true] (.v (λq6:zaE × Val=>[(2,zf1),(8,zf1)]) λq6=>[zj zp (q6.1:zaE),zj zgS (zhQ q6.2 v3),zI v3 q6.2.l])) .a (.k (.b 0 λzp=>.b 1 λzgS=>.w 2 λv3=>.m [true,true,true] (.v (λq8:Int × zaE × Val=>[(2,zal zgS (Fld.id zgV)),(8,isv q8.1)]) λq8=>[zj zp (q8.2.1:zaE),zj zgS (zhQ q8.2.2 v3),zI v3 q8.2.2.l])) (.b (.b .a (.d 32768 (.o 0 61 (.j 0 (.b 1 λzgS=>.w 2 λv3=>.m [false,true,true] (.v (λq40:Val=>[(2,zal zgS (Fld.id zgV))]) λq40=>[zj zgS (zhQ q40 v3),zI v3 q40.l])) .a (.b (.p 2 (.d 128 .a)) .a)) .a))) .a))) .a)) Tryz.func65 e
theorem zlt {zbL:zaE->zg->Val->Int->Option (zaE × Val)} {zbo:zaE->Int->Int->Option (Val × zaE)} [∀ a_x a_f a_v za,zd Tryz.prog 65 (zbL a_x a_f a_v za) (zeJ a_x a_f a_v za)] [∀ a_x a_i za,zd Tryz.prog 23 (zbo a_x a_i za) (zd8 a_x a_i za)] a_x a_i za:zd Tryz.prog 23 (zcT zbL zbo a_x a_i za) (zd8 a_x a_i za):=by
 unfold zcT
 exact W (.q 1 (.b .a (.b .a (.q 0 (.q 2 (.q 2 (.w [] (.j 0 (.b 2 λzp=>.b 0 λb5=>.m [true,false,true] (.w λt0=>.v (λq8:Val × zaE=>[]) λq8=>[zj b5 (zhQ q8.1 t0),zI t0 q8.1.l,zj zp (q8.2:zaE)])) (.f 2 8 (.u 132 .a)) (.b .a (.b .a (.b .a (.b .a (.b .a (.b .a (.b (.b .a (.w [] (.j 0 (.b 0 λzp=>.b 1 λb5=>.m [true,true] (.w λt0=>.v (λq22:zaE × Val=>[]) λq22=>[zj zp (q22.1:zaE),zj b5 (zhQ q22.2 t0),zI t0 q22.2.l])) .a (.k (.b 0 λzp=>.b 1 λb5=>.m [true,true] (.w λt0=>.v (λq24:zaE × Val=>[]) λq24=>[zj zp (q24.1:zaE),zj b5 (zhQ q24.2 t0),zI t0 q24.2.l])) (.b (.v [] (.j 0 (.b 0 λzp=>.b 1 λb5=>.m [true,true,true] (.w λt0=>.v (λq45:zaE × Val=>[]) λq45=>[zj zp (q45.1:zaE),zj b5 (zhQ q45.2 t0),zI t0 q45.2.l])) .a (.e (.v 0 (.v 2 (.v 3 (.v 4 (.v 5 (.v 6 (.alt 1 (.v 8 (.alt 7 (.t 9 (.t 10 (.v 11 (.v 13 (.alt 12 (.t 14 .nil) (.t 14 (.t 12 .nil))))))) (.t 9 (.t 7 (.t 10 (.v 11 (.v 13 (.alt 12 (.t 14 .nil) (.t 14 (.t 12 .nil)))))))))) (.alt 7 (.alt 1 (.v 8 (.t 9 (.t 10 (.v 11 (.v 13 (.alt 12 (.t 14 .nil) (.t 14 (.t 12 .nil)))))))) (.t 9 (.t 1 (.v 8 (.t 10 (.v 11 (.v 13 (.alt 12 (.t 14 .nil) (.t 14 (.t 12 .nil)))))))))) (.t 9 (.alt 1 (.v 8 (.t 7 (.t 10 (.v 11 (.v 13 (.alt 12 (.t 14 .nil) (.t 14 (.t 12 .nil)))))))) (.t 7 (.t 1 (.v 8 (.t 10 (.v 11 (.v 13 (.alt 12 (.t 14 .nil) (.t 14 (.t 12 .nil))))))))))))))))))) (.b (.b (.b .a .a) (.b .a .a)) (.b (.b (.b .a .a) (.b .a .a)) (.b (.b .a .a) (.b .a .a)))))) .a) .a))) .a)) (.b (.b (.q 3 .a) .a) .a))))))))) .a))))))) Tryz.func23 e
theorem zgO:∀ n,(∀ a_x a_f a_v za,zd Tryz.prog 65 (zdL n a_x a_f a_v za) (zeJ a_x a_f a_v za))/\(∀ a_x a_i za,zd Tryz.prog 23 (zcm n a_x a_i za) (zd8 a_x a_i za))
 | 0=>⟨λ_ _ _ _=>⟨λr h=>by cases h⟩,λ_ _ _=>⟨λr h=>by cases h⟩⟩
 | n + 1=>by
  obtain ⟨h0,h1⟩:=zgO n
  exact ⟨λa_x a_f a_v za=>zkG (zbL:=zdL n) (zbo:=zcm n) a_x a_f a_v za,λa_x a_i za=>zlt (zbL:=zdL n) (zbo:=zcm n) a_x a_i za⟩
instance r13_parser_value_g n a_x a_i za:zd Tryz.prog 23 (zcm n a_x a_i za) (zd8 a_x a_i za):=(zgO n).2 a_x a_i za

instance r13_Parse_g a_t a_i a_s:zd Tryz.prog 9 (zh5 a_t a_i a_s) (.mk [isv a_t,isv a_i,isv a_s] [] λr=>.mk [isv r.1,isv r.2.1,isv r.2.2] []):=by
 unfold zh5
 exact W (.q 0 (.q 1 (.b .a (.q 0 (.q 1 (.o 0 37 (.b .a (.p 12 (.d 0 (.o 0 60 (.j 0 (.b 0 λb3=>.m [true] (.v (λq15:zaE=>[]) λq15=>[zj b3 (q15:zaE)])) (.b (.p 12 (.d 512 .a)) .a) .a) .a)))) .a)))))) Tryz.func9 e

instance law13_NoteParses_g zaZ zfS a_s:zd Tryz.prog 3 (zeL zaZ zfS a_s) (.mk [isv zaZ,isv zfS,isv a_s] [] λr=>.mk [isv r] []):=by
 unfold zeL
 exact W (.o 5 33 (.o 0 38 (.b .a (.o 11 61 (.o 6 66 (.o 1 71 .a .a) .a) .a)) .a) .a) Tryz.func3 e

theorem zlS {zaZ zfS a_s r} (h:zeL zaZ zfS a_s=some r):Ctr Tryz.prog 3 [isv zaZ,isv zfS,isv a_s] [] (Pt [isv r] []):=cw (P:=Tryz.prog) (f:=3) h

end
end Go.Proofs.Q
