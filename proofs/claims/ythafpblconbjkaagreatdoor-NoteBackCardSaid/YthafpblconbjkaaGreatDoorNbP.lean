/- Walks, printed by mill.py and grow.py. -/
import Derived.Test.YthafpblconbjkaaGreatDoorNbO
set_option linter.unusedVariables false
set_option linter.unusedSimpArgs false
set_option maxRecDepth 4000
set_option maxHeartbeats 4000000
namespace Go.Proofs.Q
open Go.Sy
section
attribute [local irreducible] isv zbl zar zbI zbs zef zez zgw zgg zdV zdE zcO zj zO zM cal br ck asr jp lp zs

abbrev zbV (a_k:Int) (a_a1:zah) (a_a2:zg) (a_a3:Val):AC (Bool × zah):=.b λzgd=>.v λzur=>.mk [isv a_k,zbl (zfM.mk zgd),zbl (a_a2),zbl (a_a3)] [zj zgd (zfK a_a1 zur),zM zur a_a1.b] λr=>.v λu1=>.mk [isv r.1] [zj zgd (zfK r.2 u1),zM u1 r.2.b]
abbrev zb8 (a_p:zah) (a_i:Int) (a_v:Val):AC (zah):=.b λzaO=>.v λzfL=>.mk [zar zaO (Fld.id zih),isv a_i,isv a_v] [zj zaO (zfK a_p zfL),zM zfL a_p.b] λr=>.v λu1=>.mk [] [zj zaO (zfK r u1),zM u1 r.b]
abbrev zcl (a_p:zah) (a_n_:Int) (zT:zg) (zy:Val):AC (zah):=.b λzaO=>.v λzfL=>.mk [zar zaO (Fld.id zih),isv a_n_,zdV 71 [zbl (zfM.mk zaO),zbl (zT),zbl (zy)]] [zj zaO (zfK a_p zfL),zM zfL a_p.b] λr=>.v λu1=>.mk [] [zj zaO (zfK r u1),zM u1 r.b]
abbrev zbY (a_p:zah) (a_n_:Int) (zcB:Val) (zy:zg):AC (zah):=.b λzaO=>.v λzfL=>.mk [zar zaO (Fld.id zih),isv a_n_,zdV 72 [zbl (zcB),zbl (zfM.mk zaO),zbl (zy)]] [zj zaO (zfK a_p zfL),zM zfL a_p.b] λr=>.v λu1=>.mk [] [zj zaO (zfK r u1),zM u1 r.b]
abbrev zbX (a_k:Int) (a_a1:Val) (a_a2:zah) (a_a3:zg):AC (Bool × zah):=.b λzlM=>.v λztL=>.mk [isv a_k,zbl (a_a1),zbl (zfM.mk zlM),zbl (a_a3)] [zj zlM (zfK a_a2 ztL),zM ztL a_a2.b] λr=>.v λu1=>.mk [isv r.1] [zj zlM (zfK r.2 u1),zM u1 r.2.b]
theorem zi3 {zK:Int->zah->zg->Val->Option (Bool × zah)} {zQ:zah->Int->Val->Option (zah)} {zR:zah->Int->zg->Val->Option (zah)} {zJ:zah->Int->Val->zg->Option (zah)} {zI:Int->Val->zah->zg->Option (Bool × zah)} [∀ a_k a_a1 a_a2 a_a3,zd Tryz.prog 71 (zK a_k a_a1 a_a2 a_a3) (zbV a_k a_a1 a_a2 a_a3)] [∀ a_p a_i a_v,zd Tryz.prog 31 (zQ a_p a_i a_v) (zb8 a_p a_i a_v)] [∀ a_p a_n_ zT zy,zd Tryz.prog 70 (zR a_p a_n_ zT zy) (zcl a_p a_n_ zT zy)] [∀ a_p a_n_ zcB zy,zd Tryz.prog 70 (zJ a_p a_n_ zcB zy) (zbY a_p a_n_ zcB zy)] [∀ a_k a_a1 a_a2 a_a3,zd Tryz.prog 72 (zI a_k a_a1 a_a2 a_a3) (zbX a_k a_a1 a_a2 a_a3)] a_k a_a1 a_a2 a_a3:zd Tryz.prog 71 (zcW zK zQ zR zJ zI a_k a_a1 a_a2 a_a3) (zbV a_k a_a1 a_a2 a_a3):=by
 unfold zcW
 exact W (.d 256 .a) Tryz.func71 e
theorem zkr {zK:Int->zah->zg->Val->Option (Bool × zah)} {zQ:zah->Int->Val->Option (zah)} {zR:zah->Int->zg->Val->Option (zah)} {zJ:zah->Int->Val->zg->Option (zah)} {zI:Int->Val->zah->zg->Option (Bool × zah)} [∀ a_k a_a1 a_a2 a_a3,zd Tryz.prog 71 (zK a_k a_a1 a_a2 a_a3) (zbV a_k a_a1 a_a2 a_a3)] [∀ a_p a_i a_v,zd Tryz.prog 31 (zQ a_p a_i a_v) (zb8 a_p a_i a_v)] [∀ a_p a_n_ zT zy,zd Tryz.prog 70 (zR a_p a_n_ zT zy) (zcl a_p a_n_ zT zy)] [∀ a_p a_n_ zcB zy,zd Tryz.prog 70 (zJ a_p a_n_ zcB zy) (zbY a_p a_n_ zcB zy)] [∀ a_k a_a1 a_a2 a_a3,zd Tryz.prog 72 (zI a_k a_a1 a_a2 a_a3) (zbX a_k a_a1 a_a2 a_a3)] a_p a_i a_v:zd Tryz.prog 31 (zdD zK zQ zR zJ zI a_p a_i a_v) (zb8 a_p a_i a_v):=by
 unfold zdD
 exact W (.b (.d 3136 .a) (.b .a (.b (.d 128 .a) (.w [66] (.b .a (.d 28 .a)) .a)))) Tryz.func31 e
theorem zka {zK:Int->zah->zg->Val->Option (Bool × zah)} {zQ:zah->Int->Val->Option (zah)} {zR:zah->Int->zg->Val->Option (zah)} {zJ:zah->Int->Val->zg->Option (zah)} {zI:Int->Val->zah->zg->Option (Bool × zah)} [∀ a_k a_a1 a_a2 a_a3,zd Tryz.prog 71 (zK a_k a_a1 a_a2 a_a3) (zbV a_k a_a1 a_a2 a_a3)] [∀ a_p a_i a_v,zd Tryz.prog 31 (zQ a_p a_i a_v) (zb8 a_p a_i a_v)] [∀ a_p a_n_ zT zy,zd Tryz.prog 70 (zR a_p a_n_ zT zy) (zcl a_p a_n_ zT zy)] [∀ a_p a_n_ zcB zy,zd Tryz.prog 70 (zJ a_p a_n_ zcB zy) (zbY a_p a_n_ zcB zy)] [∀ a_k a_a1 a_a2 a_a3,zd Tryz.prog 72 (zI a_k a_a1 a_a2 a_a3) (zbX a_k a_a1 a_a2 a_a3)] a_p a_n_ zT zy:zd Tryz.prog 70 (zde zK zQ zR zJ zI a_p a_n_ zT zy) (zcl a_p a_n_ zT zy):=by
 unfold zde
 exact W (.k (.b 0 λzaO=>.m [true,true] (.w λt0=>.v (λq2:Bool × Int × zah=>[(6,isv q2.1),(10,isv q2.2.1)]) λq2=>[zj zaO (zfK q2.2.2 t0),zM t0 q2.2.2.b])) (.b (.w [] (.j 0 (.b 0 λzaO=>.m [true,true] (.w λt0=>.v (λq18:Bool × zah=>[(6,isv q18.1)]) λq18=>[zj zaO (zfK q18.2 t0),zM t0 q18.2.b])) .a (.j 0 (.b 0 λzaO=>.m [true,true] (.w λt0=>.v (λq20:zah=>[]) λq20=>[zj zaO (zfK q20 t0),zM t0 q20.b])) .a .a)) .a) .a)) Tryz.func70 e
theorem zi8 {zK:Int->zah->zg->Val->Option (Bool × zah)} {zQ:zah->Int->Val->Option (zah)} {zR:zah->Int->zg->Val->Option (zah)} {zJ:zah->Int->Val->zg->Option (zah)} {zI:Int->Val->zah->zg->Option (Bool × zah)} [∀ a_k a_a1 a_a2 a_a3,zd Tryz.prog 71 (zK a_k a_a1 a_a2 a_a3) (zbV a_k a_a1 a_a2 a_a3)] [∀ a_p a_i a_v,zd Tryz.prog 31 (zQ a_p a_i a_v) (zb8 a_p a_i a_v)] [∀ a_p a_n_ zT zy,zd Tryz.prog 70 (zR a_p a_n_ zT zy) (zcl a_p a_n_ zT zy)] [∀ a_p a_n_ zcB zy,zd Tryz.prog 70 (zJ a_p a_n_ zcB zy) (zbY a_p a_n_ zcB zy)] [∀ a_k a_a1 a_a2 a_a3,zd Tryz.prog 72 (zI a_k a_a1 a_a2 a_a3) (zbX a_k a_a1 a_a2 a_a3)] a_p a_n_ zcB zy:zd Tryz.prog 70 (zcX zK zQ zR zJ zI a_p a_n_ zcB zy) (zbY a_p a_n_ zcB zy):=by
 unfold zcX
 exact W (.k (.b 0 λzaO=>.m [true,true] (.w λt0=>.v (λq2:Bool × Int × zah=>[(6,isv q2.1),(10,isv q2.2.1)]) λq2=>[zj zaO (zfK q2.2.2 t0),zM t0 q2.2.2.b])) (.b (.w [] (.j 0 (.b 0 λzaO=>.m [true,true] (.w λt0=>.v (λq18:Bool × zah=>[(6,isv q18.1)]) λq18=>[zj zaO (zfK q18.2 t0),zM t0 q18.2.b])) .a (.j 0 (.b 0 λzaO=>.m [true,true] (.w λt0=>.v (λq20:zah=>[]) λq20=>[zj zaO (zfK q20 t0),zM t0 q20.b])) .a .a)) .a) .a)) Tryz.func70 e
theorem zi6 {zK:Int->zah->zg->Val->Option (Bool × zah)} {zQ:zah->Int->Val->Option (zah)} {zR:zah->Int->zg->Val->Option (zah)} {zJ:zah->Int->Val->zg->Option (zah)} {zI:Int->Val->zah->zg->Option (Bool × zah)} [∀ a_k a_a1 a_a2 a_a3,zd Tryz.prog 71 (zK a_k a_a1 a_a2 a_a3) (zbV a_k a_a1 a_a2 a_a3)] [∀ a_p a_i a_v,zd Tryz.prog 31 (zQ a_p a_i a_v) (zb8 a_p a_i a_v)] [∀ a_p a_n_ zT zy,zd Tryz.prog 70 (zR a_p a_n_ zT zy) (zcl a_p a_n_ zT zy)] [∀ a_p a_n_ zcB zy,zd Tryz.prog 70 (zJ a_p a_n_ zcB zy) (zbY a_p a_n_ zcB zy)] [∀ a_k a_a1 a_a2 a_a3,zd Tryz.prog 72 (zI a_k a_a1 a_a2 a_a3) (zbX a_k a_a1 a_a2 a_a3)] a_k a_a1 a_a2 a_a3:zd Tryz.prog 72 (zco zK zQ zR zJ zI a_k a_a1 a_a2 a_a3) (zbX a_k a_a1 a_a2 a_a3):=by
 unfold zco
 exact W (.b .a (.d 384 (.d 4096 .a))) Tryz.func72 e
theorem zfc:∀ n,(∀ a_k a_a1 a_a2 a_a3,zd Tryz.prog 71 (zaX n a_k a_a1 a_a2 a_a3) (zbV a_k a_a1 a_a2 a_a3))/\(∀ a_p a_i a_v,zd Tryz.prog 31 (zaP n a_p a_i a_v) (zb8 a_p a_i a_v))/\(∀ a_p a_n_ zT zy,zd Tryz.prog 70 (zbc n a_p a_n_ zT zy) (zcl a_p a_n_ zT zy))/\(∀ a_p a_n_ zcB zy,zd Tryz.prog 70 (zaL n a_p a_n_ zcB zy) (zbY a_p a_n_ zcB zy))/\(∀ a_k a_a1 a_a2 a_a3,zd Tryz.prog 72 (zaW n a_k a_a1 a_a2 a_a3) (zbX a_k a_a1 a_a2 a_a3))
 | 0=>⟨λ_ _ _ _=>⟨λr h=>by cases h⟩,λ_ _ _=>⟨λr h=>by cases h⟩,λ_ _ _ _=>⟨λr h=>by cases h⟩,λ_ _ _ _=>⟨λr h=>by cases h⟩,λ_ _ _ _=>⟨λr h=>by cases h⟩⟩
 | n + 1=>by
  obtain ⟨h0,h1,h2,h3,h4⟩:=zfc n
  exact ⟨λa_k a_a1 a_a2 a_a3=>zi3 (zK:=zaX n) (zQ:=zaP n) (zR:=zbc n) (zJ:=zaL n) (zI:=zaW n) a_k a_a1 a_a2 a_a3,λa_p a_i a_v=>zkr (zK:=zaX n) (zQ:=zaP n) (zR:=zbc n) (zJ:=zaL n) (zI:=zaW n) a_p a_i a_v,λa_p a_n_ zT zy=>zka (zK:=zaX n) (zQ:=zaP n) (zR:=zbc n) (zJ:=zaL n) (zI:=zaW n) a_p a_n_ zT zy,λa_p a_n_ zcB zy=>zi8 (zK:=zaX n) (zQ:=zaP n) (zR:=zbc n) (zJ:=zaL n) (zI:=zaW n) a_p a_n_ zcB zy,λa_k a_a1 a_a2 a_a3=>zi6 (zK:=zaX n) (zQ:=zaP n) (zR:=zbc n) (zJ:=zaL n) (zI:=zaW n) a_k a_a1 a_a2 a_a3⟩
instance note_printer_value_g n a_p a_i a_v:zd Tryz.prog 31 (zaP n a_p a_i a_v) (zb8 a_p a_i a_v):=(zfc n).2.1 a_p a_i a_v
end
section
attribute [local irreducible] isv zbl zar zbI zbs zef zez zgw zgg zdV zdE zcO zj zO zM cal br ck asr jp lp zs

instance note_Print_g a_t a_i a_v:zd Tryz.prog 12 (zew a_t a_i a_v) (.mk [isv a_t,isv a_i,isv a_v] [] λr=>.mk [isv r.1,isv r.2] []):=by
 unfold zew
 exact W (.b .a (.b .a (.q 2 (.q 1 (.b .a (.f 0 35 .a)))))) Tryz.func12 e

end
section
attribute [local irreducible] isv zbl zar zbI zbs zef zez zgw zgg zdV zdE zcO zj zO zM cal br ck asr jp lp zs
instance law13_awake_g :zd Tryz.prog 7 (zfq ) (.mk [] [] λr=>.mk [isv r] []):=by
 unfold zfq
 exact W (.o 5 22 (.o 1 26 .a .a) .a) Tryz.func7 e

end
section
attribute [local irreducible] isv zbl zar zbI zbs zef zez zgw zgg zdV zdE zcO zj zO zM cal br ck asr jp lp zs
instance note_stream_peek_g a_s:zd Tryz.prog 19 (zbW a_s) (.b λzov=>.mk [zar zov ((Fld.id zeu).comp zoH)] [zj zov (zdy a_s)] λr=>.mk [isv r.1] [zj zov (zdy r.2)]):=by
 unfold zbW
 exact W (.q 1 (.p 0 (.d 1024 .a))) Tryz.func19 e

instance note_parser_fail_g a_p a_e:zd Tryz.prog 20 (zbS a_p a_e) (.b λzaO=>.mk [zar zaO (Fld.id zeu),isv a_e] [zj zaO (zdy a_p)] λr=>.mk [isv r.1] [zj zaO (zdy r.2)]):=by
 unfold zbS
 exact W (.j 0 (.b 0 λzaO=>.m [true] (.v (λq1:zN=>[]) λq1=>[zj zaO (zdy q1)])) .a .a) Tryz.func20 e

instance note_stream_is_g a_s za3:zd Tryz.prog 44 (zcL a_s za3) (.b λzov=>.mk [zar zov ((Fld.id zeu).comp zoH),isv za3] [zj zov (zdy a_s)] λr=>.mk [isv r.1] [zj zov (zdy r.2)]):=by
 unfold zcL
 exact W (.o 6 15 (.o 0 21 .a .a) .a) Tryz.func44 e

instance note_parser_want_g a_p za3:zd Tryz.prog 45 (zbT a_p za3) (.b λzaO=>.mk [zar zaO (Fld.id zeu),isv za3] [zj zaO (zdy a_p)] λr=>.mk [isv r.1] [zj zaO (zdy r.2)]):=by
 unfold zbT
 exact W (.j 1 (.b 0 λzaO=>.m [true] (.v (λq2:Bool × zN=>[(13,isv q2.1)]) λq2=>[zj zaO (zdy q2.2)])) .a .a) Tryz.func45 e

instance note_parser_of_g a_p ze7:zd Tryz.prog 46 (zd5 a_p ze7) (.b λzaO=>.mk [zar zaO (Fld.id zeu),isv ze7] [zj zaO (zdy a_p)] λr=>.mk [isv r.1,isv r.2.1] [zj zaO (zdy r.2.2)]):=by
 unfold zd5
 exact W .a Tryz.func46 e

instance note_parser_item_g a_p a_x:zd Tryz.prog 48 (zeC a_p a_x) (.b λzaO=>.mk [zar zaO (Fld.id zeu),isv a_x] [zj zaO (zdy a_p)] λr=>.mk [isv r.1,isv r.2.1] [zj zaO (zdy r.2.2)]):=by
 unfold zeC
 exact W (.l [16] (.b (.o 0 29 .a .a) .a)) Tryz.func48 e

instance internal_strconv_lower_g a_c:zd Tryz.prog 175 (zbC a_c) (.mk [isv a_c] [] λr=>.mk [isv r] []):=by
 unfold zbC
 exact W .a Tryz.func175 e

instance internal_strconv_ParseUint_g a_s zdL zcJ:zd Tryz.prog 145 (zea a_s zdL zcJ) (.mk [isv a_s,isv zdL,isv zcJ] [] λr=>.mk [isv r.1,isv r.2] []):=by
 unfold zea
 exact W (.b .a (.v [0,1] (.w [2] (.v [10] (.l [12,13,101] (.b (.v [12,13] .a (.v [16] (.b .a (.b .a (.o 0 159 .a .a))) (.o 1 111 (.b .a (.o 1 118 (.b .a (.o 1 129 .a .a)) .a)) .a))) (.o 0 169 .a .a))) .a) (.b .a (.o 0 83 .a .a))) (.o 1 31 (.b .a (.b (.b (.o 1 49 (.b .a (.o 1 61 (.b .a (.o 1 73 .a .a)) .a)) .a) .a) .a)) .a))) Tryz.func145 e

instance strconv_ParseUint_g a_s zdL zcJ:zd Tryz.prog 104 (zdJ a_s zdL zcJ) (.mk [isv a_s,isv zdL,isv zcJ] [] λr=>.mk [isv r.1,isv r.2] []):=by
 unfold zdJ
 exact W .a Tryz.func104 e

instance note_octets_g a_s:zd Tryz.prog 49 (zdX a_s) (.mk [isv a_s] [] λr=>.mk [isv r] []):=by
 unfold zdX
 exact W (.k (.m [] (.t λt0=>.v (λq1:(List UInt8) × Int=>[(3,zbI t0 q1.1),(4,isv q1.2)]) λq1=>[zO t0])) .a) Tryz.func49 e

instance note_parser_field_g a_p a_l zek:zd Tryz.prog 52 (zdF a_p a_l zek) (.b λzaO=>.mk [zar zaO (Fld.id zeu),isv a_l,isv zek] [zj zaO (zdy a_p)] λr=>.mk [isv r.1,isv r.2.1] [zj zaO (zdy r.2.2)]):=by
 unfold zdF
 exact W (.l [9] (.o 0 23 (.b (.d 0 .a) .a) .a)) Tryz.func52 e

end
end Go.Proofs.Q
