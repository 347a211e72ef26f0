/- Walks, printed by mill.py and grow.py. -/
import Derived.Test.YthafpblconbjkaaGreatDoorNbO
set_option linter.unusedVariables false
set_option linter.unusedSimpArgs false
set_option maxRecDepth 4000
set_option maxHeartbeats 4000000
namespace Go.Proofs.Q
open Go.Sy
section
attribute [local irreducible] isv zbn zar zbK zbu zeh zeA zgz zgk zdX zdG zcP zj zO zN cal br ck asr jp lp zs

abbrev zbS (a_k:Int) (a_a1:zaf) (a_a2:zg) (a_a3:Val):AC (Bool × zaf):=.b λzgb=>.v λzuy=>.mk [isv a_k,zbn (zfO.mk zgb),zbn (a_a2),zbn (a_a3)] [zj zgb (zfN a_a1 zuy),zN zuy a_a1.b] λr=>.v λu1=>.mk [isv r.1] [zj zgb (zfN r.2 u1),zN u1 r.2.b]
abbrev zca (a_p:zaf) (a_i:Int) (a_v:Val):AC (zaf):=.b λzaQ=>.v λzfP=>.mk [zar zaQ (Fld.id zii),isv a_i,isv a_v] [zj zaQ (zfN a_p zfP),zN zfP a_p.b] λr=>.v λu1=>.mk [] [zj zaQ (zfN r u1),zN u1 r.b]
abbrev zcm (a_p:zaf) (a_n_:Int) (zT:zg) (zz:Val):AC (zaf):=.b λzaQ=>.v λzfP=>.mk [zar zaQ (Fld.id zii),isv a_n_,zdX 71 [zbn (zfO.mk zaQ),zbn (zT),zbn (zz)]] [zj zaQ (zfN a_p zfP),zN zfP a_p.b] λr=>.v λu1=>.mk [] [zj zaQ (zfN r u1),zN u1 r.b]
abbrev zbV (a_p:zaf) (a_n_:Int) (zcD:Val) (zz:zg):AC (zaf):=.b λzaQ=>.v λzfP=>.mk [zar zaQ (Fld.id zii),isv a_n_,zdX 72 [zbn (zcD),zbn (zfO.mk zaQ),zbn (zz)]] [zj zaQ (zfN a_p zfP),zN zfP a_p.b] λr=>.v λu1=>.mk [] [zj zaQ (zfN r u1),zN u1 r.b]
abbrev zb1 (a_k:Int) (a_a1:Val) (a_a2:zaf) (a_a3:zg):AC (Bool × zaf):=.b λzlM=>.v λzuB=>.mk [isv a_k,zbn (a_a1),zbn (zfO.mk zlM),zbn (a_a3)] [zj zlM (zfN a_a2 zuB),zN zuB a_a2.b] λr=>.v λu1=>.mk [isv r.1] [zj zlM (zfN r.2 u1),zN u1 r.2.b]
theorem zi4 {zJ:Int->zaf->zg->Val->Option (Bool × zaf)} {zQ:zaf->Int->Val->Option (zaf)} {zR:zaf->Int->zg->Val->Option (zaf)} {zK:zaf->Int->Val->zg->Option (zaf)} {zI:Int->Val->zaf->zg->Option (Bool × zaf)} [∀ a_k a_a1 a_a2 a_a3,zd Tryz.prog 71 (zJ a_k a_a1 a_a2 a_a3) (zbS a_k a_a1 a_a2 a_a3)] [∀ a_p a_i a_v,zd Tryz.prog 31 (zQ a_p a_i a_v) (zca a_p a_i a_v)] [∀ a_p a_n_ zT zz,zd Tryz.prog 70 (zR a_p a_n_ zT zz) (zcm a_p a_n_ zT zz)] [∀ a_p a_n_ zcD zz,zd Tryz.prog 70 (zK a_p a_n_ zcD zz) (zbV a_p a_n_ zcD zz)] [∀ a_k a_a1 a_a2 a_a3,zd Tryz.prog 72 (zI a_k a_a1 a_a2 a_a3) (zb1 a_k a_a1 a_a2 a_a3)] a_k a_a1 a_a2 a_a3:zd Tryz.prog 71 (zc1 zJ zQ zR zK zI a_k a_a1 a_a2 a_a3) (zbS a_k a_a1 a_a2 a_a3):=by
 unfold zc1
 exact W (.d 256 .a) Tryz.func71 e
theorem zks {zJ:Int->zaf->zg->Val->Option (Bool × zaf)} {zQ:zaf->Int->Val->Option (zaf)} {zR:zaf->Int->zg->Val->Option (zaf)} {zK:zaf->Int->Val->zg->Option (zaf)} {zI:Int->Val->zaf->zg->Option (Bool × zaf)} [∀ a_k a_a1 a_a2 a_a3,zd Tryz.prog 71 (zJ a_k a_a1 a_a2 a_a3) (zbS a_k a_a1 a_a2 a_a3)] [∀ a_p a_i a_v,zd Tryz.prog 31 (zQ a_p a_i a_v) (zca a_p a_i a_v)] [∀ a_p a_n_ zT zz,zd Tryz.prog 70 (zR a_p a_n_ zT zz) (zcm a_p a_n_ zT zz)] [∀ a_p a_n_ zcD zz,zd Tryz.prog 70 (zK a_p a_n_ zcD zz) (zbV a_p a_n_ zcD zz)] [∀ a_k a_a1 a_a2 a_a3,zd Tryz.prog 72 (zI a_k a_a1 a_a2 a_a3) (zb1 a_k a_a1 a_a2 a_a3)] a_p a_i a_v:zd Tryz.prog 31 (zdy zJ zQ zR zK zI a_p a_i a_v) (zca a_p a_i a_v):=by
 unfold zdy
 exact W (.b (.d 3136 .a) (.b .a (.b (.d 128 .a) (.w [66] (.b .a (.d 28 .a)) .a)))) Tryz.func31 e
theorem zjZ {zJ:Int->zaf->zg->Val->Option (Bool × zaf)} {zQ:zaf->Int->Val->Option (zaf)} {zR:zaf->Int->zg->Val->Option (zaf)} {zK:zaf->Int->Val->zg->Option (zaf)} {zI:Int->Val->zaf->zg->Option (Bool × zaf)} [∀ a_k a_a1 a_a2 a_a3,zd Tryz.prog 71 (zJ a_k a_a1 a_a2 a_a3) (zbS a_k a_a1 a_a2 a_a3)] [∀ a_p a_i a_v,zd Tryz.prog 31 (zQ a_p a_i a_v) (zca a_p a_i a_v)] [∀ a_p a_n_ zT zz,zd Tryz.prog 70 (zR a_p a_n_ zT zz) (zcm a_p a_n_ zT zz)] [∀ a_p a_n_ zcD zz,zd Tryz.prog 70 (zK a_p a_n_ zcD zz) (zbV a_p a_n_ zcD zz)] [∀ a_k a_a1 a_a2 a_a3,zd Tryz.prog 72 (zI a_k a_a1 a_a2 a_a3) (zb1 a_k a_a1 a_a2 a_a3)] a_p a_n_ zT zz:zd Tryz.prog 70 (zdg zJ zQ zR zK zI a_p a_n_ zT zz) (zcm a_p a_n_ zT zz):=by
 unfold zdg
 exact W (.k (.b 0 λzaQ=>.m [true,true] (.w λt0=>.v (λq2:Bool × Int × zaf=>[(6,isv q2.1),(10,isv q2.2.1)]) λq2=>[zj zaQ (zfN q2.2.2 t0),zN t0 q2.2.2.b])) (.b (.w [] (.j 0 (.b 0 λzaQ=>.m [true,true] (.w λt0=>.v (λq18:Bool × zaf=>[(6,isv q18.1)]) λq18=>[zj zaQ (zfN q18.2 t0),zN t0 q18.2.b])) .a (.j 0 (.b 0 λzaQ=>.m [true,true] (.w λt0=>.v (λq20:zaf=>[]) λq20=>[zj zaQ (zfN q20 t0),zN t0 q20.b])) .a .a)) .a) .a)) Tryz.func70 e
theorem zi9 {zJ:Int->zaf->zg->Val->Option (Bool × zaf)} {zQ:zaf->Int->Val->Option (zaf)} {zR:zaf->Int->zg->Val->Option (zaf)} {zK:zaf->Int->Val->zg->Option (zaf)} {zI:Int->Val->zaf->zg->Option (Bool × zaf)} [∀ a_k a_a1 a_a2 a_a3,zd Tryz.prog 71 (zJ a_k a_a1 a_a2 a_a3) (zbS a_k a_a1 a_a2 a_a3)] [∀ a_p a_i a_v,zd Tryz.prog 31 (zQ a_p a_i a_v) (zca a_p a_i a_v)] [∀ a_p a_n_ zT zz,zd Tryz.prog 70 (zR a_p a_n_ zT zz) (zcm a_p a_n_ zT zz)] [∀ a_p a_n_ zcD zz,zd Tryz.prog 70 (zK a_p a_n_ zcD zz) (zbV a_p a_n_ zcD zz)] [∀ a_k a_a1 a_a2 a_a3,zd Tryz.prog 72 (zI a_k a_a1 a_a2 a_a3) (zb1 a_k a_a1 a_a2 a_a3)] a_p a_n_ zcD zz:zd Tryz.prog 70 (zcZ zJ zQ zR zK zI a_p a_n_ zcD zz) (zbV a_p a_n_ zcD zz):=by
 unfold zcZ
 exact W (.k (.b 0 λzaQ=>.m [true,true] (.w λt0=>.v (λq2:Bool × Int × zaf=>[(6,isv q2.1),(10,isv q2.2.1)]) λq2=>[zj zaQ (zfN q2.2.2 t0),zN t0 q2.2.2.b])) (.b (.w [] (.j 0 (.b 0 λzaQ=>.m [true,true] (.w λt0=>.v (λq18:Bool × zaf=>[(6,isv q18.1)]) λq18=>[zj zaQ (zfN q18.2 t0),zN t0 q18.2.b])) .a (.j 0 (.b 0 λzaQ=>.m [true,true] (.w λt0=>.v (λq20:zaf=>[]) λq20=>[zj zaQ (zfN q20 t0),zN t0 q20.b])) .a .a)) .a) .a)) Tryz.func70 e
theorem zi0 {zJ:Int->zaf->zg->Val->Option (Bool × zaf)} {zQ:zaf->Int->Val->Option (zaf)} {zR:zaf->Int->zg->Val->Option (zaf)} {zK:zaf->Int->Val->zg->Option (zaf)} {zI:Int->Val->zaf->zg->Option (Bool × zaf)} [∀ a_k a_a1 a_a2 a_a3,zd Tryz.prog 71 (zJ a_k a_a1 a_a2 a_a3) (zbS a_k a_a1 a_a2 a_a3)] [∀ a_p a_i a_v,zd Tryz.prog 31 (zQ a_p a_i a_v) (zca a_p a_i a_v)] [∀ a_p a_n_ zT zz,zd Tryz.prog 70 (zR a_p a_n_ zT zz) (zcm a_p a_n_ zT zz)] [∀ a_p a_n_ zcD zz,zd Tryz.prog 70 (zK a_p a_n_ zcD zz) (zbV a_p a_n_ zcD zz)] [∀ a_k a_a1 a_a2 a_a3,zd Tryz.prog 72 (zI a_k a_a1 a_a2 a_a3) (zb1 a_k a_a1 a_a2 a_a3)] a_k a_a1 a_a2 a_a3:zd Tryz.prog 72 (zcq zJ zQ zR zK zI a_k a_a1 a_a2 a_a3) (zb1 a_k a_a1 a_a2 a_a3):=by
 unfold zcq
 exact W (.b .a (.d 384 (.d 4096 .a))) Tryz.func72 e
theorem zff:∀ n,(∀ a_k a_a1 a_a2 a_a3,zd Tryz.prog 71 (zaZ n a_k a_a1 a_a2 a_a3) (zbS a_k a_a1 a_a2 a_a3))/\(∀ a_p a_i a_v,zd Tryz.prog 31 (zaS n a_p a_i a_v) (zca a_p a_i a_v))/\(∀ a_p a_n_ zT zz,zd Tryz.prog 70 (zbd n a_p a_n_ zT zz) (zcm a_p a_n_ zT zz))/\(∀ a_p a_n_ zcD zz,zd Tryz.prog 70 (zaN n a_p a_n_ zcD zz) (zbV a_p a_n_ zcD zz))/\(∀ a_k a_a1 a_a2 a_a3,zd Tryz.prog 72 (zaY n a_k a_a1 a_a2 a_a3) (zb1 a_k a_a1 a_a2 a_a3))
 | 0=>⟨λ_ _ _ _=>⟨λr h=>by cases h⟩,λ_ _ _=>⟨λr h=>by cases h⟩,λ_ _ _ _=>⟨λr h=>by cases h⟩,λ_ _ _ _=>⟨λr h=>by cases h⟩,λ_ _ _ _=>⟨λr h=>by cases h⟩⟩
 | n + 1=>by
  obtain ⟨h0,h1,h2,h3,h4⟩:=zff n
  exact ⟨λa_k a_a1 a_a2 a_a3=>zi4 (zJ:=zaZ n) (zQ:=zaS n) (zR:=zbd n) (zK:=zaN n) (zI:=zaY n) a_k a_a1 a_a2 a_a3,λa_p a_i a_v=>zks (zJ:=zaZ n) (zQ:=zaS n) (zR:=zbd n) (zK:=zaN n) (zI:=zaY n) a_p a_i a_v,λa_p a_n_ zT zz=>zjZ (zJ:=zaZ n) (zQ:=zaS n) (zR:=zbd n) (zK:=zaN n) (zI:=zaY n) a_p a_n_ zT zz,λa_p a_n_ zcD zz=>zi9 (zJ:=zaZ n) (zQ:=zaS n) (zR:=zbd n) (zK:=zaN n) (zI:=zaY n) a_p a_n_ zcD zz,λa_k a_a1 a_a2 a_a3=>zi0 (zJ:=zaZ n) (zQ:=zaS n) (zR:=zbd n) (zK:=zaN n) (zI:=zaY n) a_k a_a1 a_a2 a_a3⟩
instance note_printer_value_g n a_p a_i a_v:zd Tryz.prog 31 (zaS n a_p a_i a_v) (zca a_p a_i a_v):=(zff n).2.1 a_p a_i a_v
end
section
attribute [local irreducible] isv zbn zar zbK zbu zeh zeA zgz zgk zdX zdG zcP zj zO zN cal br ck asr jp lp zs

instance note_Print_g a_t a_i a_v:zd Tryz.prog 12 (zev a_t a_i a_v) (.mk [isv a_t,isv a_i,isv a_v] [] λr=>.mk [isv r.1,isv r.2] []):=by
 unfold zev
 exact W (.b .a (.b .a (.q 2 (.q 1 (.b .a (.f 0 35 .a)))))) Tryz.func12 e

end
section
attribute [local irreducible] isv zbn zar zbK zbu zeh zeA zgz zgk zdX zdG zcP zj zO zN cal br ck asr jp lp zs
instance law13_awake_g :zd Tryz.prog 7 (zfm ) (.mk [] [] λr=>.mk [isv r] []):=by
 unfold zfm
 exact W (.o 5 22 (.o 1 26 .a .a) .a) Tryz.func7 e

end
section
attribute [local irreducible] isv zbn zar zbK zbu zeh zeA zgz zgk zdX zdG zcP zj zO zN cal br ck asr jp lp zs
instance note_stream_peek_g a_s:zd Tryz.prog 19 (zbX a_s) (.b λzo9=>.mk [zar zo9 ((Fld.id zew).comp zoO)] [zj zo9 (zdx a_s)] λr=>.mk [isv r.1] [zj zo9 (zdx r.2)]):=by
 unfold zbX
 exact W (.q 1 (.p 0 (.d 1024 .a))) Tryz.func19 e

instance note_parser_fail_g a_p a_e:zd Tryz.prog 20 (zbZ a_p a_e) (.b λzaQ=>.mk [zar zaQ (Fld.id zew),isv a_e] [zj zaQ (zdx a_p)] λr=>.mk [isv r.1] [zj zaQ (zdx r.2)]):=by
 unfold zbZ
 exact W (.j 0 (.b 0 λzaQ=>.m [true] (.v (λq1:zL=>[]) λq1=>[zj zaQ (zdx q1)])) .a .a) Tryz.func20 e

instance note_stream_is_g a_s za4:zd Tryz.prog 44 (zcM a_s za4) (.b λzo9=>.mk [zar zo9 ((Fld.id zew).comp zoO),isv za4] [zj zo9 (zdx a_s)] λr=>.mk [isv r.1] [zj zo9 (zdx r.2)]):=by
 unfold zcM
 exact W (.o 6 15 (.o 0 21 .a .a) .a) Tryz.func44 e

instance note_parser_want_g a_p za4:zd Tryz.prog 45 (zbT a_p za4) (.b λzaQ=>.mk [zar zaQ (Fld.id zew),isv za4] [zj zaQ (zdx a_p)] λr=>.mk [isv r.1] [zj zaQ (zdx r.2)]):=by
 unfold zbT
 exact W (.j 1 (.b 0 λzaQ=>.m [true] (.v (λq2:Bool × zL=>[(13,isv q2.1)]) λq2=>[zj zaQ (zdx q2.2)])) .a .a) Tryz.func45 e

instance note_parser_of_g a_p zfb:zd Tryz.prog 46 (zec a_p zfb) (.b λzaQ=>.mk [zar zaQ (Fld.id zew),isv zfb] [zj zaQ (zdx a_p)] λr=>.mk [isv r.1,isv r.2.1] [zj zaQ (zdx r.2.2)]):=by
 unfold zec
 exact W .a Tryz.func46 e

instance note_parser_item_g a_p a_x:zd Tryz.prog 48 (zeP a_p a_x) (.b λzaQ=>.mk [zar zaQ (Fld.id zew),isv a_x] [zj zaQ (zdx a_p)] λr=>.mk [isv r.1,isv r.2.1] [zj zaQ (zdx r.2.2)]):=by
 unfold zeP
 exact W (.l [16] (.b (.o 0 29 .a .a) .a)) Tryz.func48 e

instance internal_strconv_lower_g a_c:zd Tryz.prog 175 (zbD a_c) (.mk [isv a_c] [] λr=>.mk [isv r] []):=by
 unfold zbD
 exact W .a Tryz.func175 e

instance internal_strconv_ParseUint_g a_s zdQ zcL:zd Tryz.prog 145 (zd6 a_s zdQ zcL) (.mk [isv a_s,isv zdQ,isv zcL] [] λr=>.mk [isv r.1,isv r.2] []):=by
 unfold zd6
 exact W (.b .a (.v [0,1] (.w [2] (.v [10] (.l [12,13,101] (.b (.v [12,13] .a (.v [16] (.b .a (.b .a (.o 0 159 .a .a))) (.o 1 111 (.b .a (.o 1 118 (.b .a (.o 1 129 .a .a)) .a)) .a))) (.o 0 169 .a .a))) .a) (.b .a (.o 0 83 .a .a))) (.o 1 31 (.b .a (.b (.b (.o 1 49 (.b .a (.o 1 61 (.b .a (.o 1 73 .a .a)) .a)) .a) .a) .a)) .a))) Tryz.func145 e

instance strconv_ParseUint_g a_s zdQ zcL:zd Tryz.prog 104 (zdL a_s zdQ zcL) (.mk [isv a_s,isv zdQ,isv zcL] [] λr=>.mk [isv r.1,isv r.2] []):=by
 unfold zdL
 exact W .a Tryz.func104 e

instance note_octets_g a_s:zd Tryz.prog 49 (zd0 a_s) (.mk [isv a_s] [] λr=>.mk [isv r] []):=by
 unfold zd0
 exact W (.k (.m [] (.t λt0=>.v (λq1:(List UInt8) × Int=>[(3,zbK t0 q1.1),(4,isv q1.2)]) λq1=>[zO t0])) .a) Tryz.func49 e

instance note_parser_field_g a_p a_l zeo:zd Tryz.prog 52 (zdH a_p a_l zeo) (.b λzaQ=>.mk [zar zaQ (Fld.id zew),isv a_l,isv zeo] [zj zaQ (zdx a_p)] λr=>.mk [isv r.1,isv r.2.1] [zj zaQ (zdx r.2.2)]):=by
 unfold zdH
 exact W (.l [9] (.o 0 23 (.b (.d 0 .a) .a) .a)) Tryz.func52 e

end
end Go.Proofs.Q
