/- Walks, printed by mill.py and grow.py. -/
import Derived.Test.YthafpblconbjkaaGreatDoorPqO
set_option linter.unusedVariables false
set_option linter.unusedSimpArgs false
set_option maxRecDepth 4000
set_option maxHeartbeats 4000000
namespace Go.Proofs.Q
open Go.Sy
section
attribute [local irreducible] isv zbn zal zbK zbw zem zeI zgQ zf1 zdV zdI zcO zj zO zI cal br ck asr jp lp zq

abbrev zbW (a_k:Int) (a_a1:zag) (a_a2:zg) (a_a3:Val):AC (Bool × zag):=.b λzgt=>.v λztl=>.mk [isv a_k,zbn (zfY.mk zgt),zbn (a_a2),zbn (a_a3)] [zj zgt (zfV a_a1 ztl),zI ztl a_a1.b] λr=>.v λu1=>.mk [isv r.1] [zj zgt (zfV r.2 u1),zI u1 r.2.b]
abbrev zb9 (a_p:zag) (a_i:Int) (a_v:Val):AC (zag):=.b λzaM=>.v λzf3=>.mk [zal zaM (Fld.id zin),isv a_i,isv a_v] [zj zaM (zfV a_p zf3),zI zf3 a_p.b] λr=>.v λu1=>.mk [] [zj zaM (zfV r u1),zI u1 r.b]
abbrev zcp (a_p:zag) (a_n_:Int) (zU:zg) (zz:Val):AC (zag):=.b λzaM=>.v λzf3=>.mk [zal zaM (Fld.id zin),isv a_n_,zdV 71 [zbn (zfY.mk zaM),zbn (zU),zbn (zz)]] [zj zaM (zfV a_p zf3),zI zf3 a_p.b] λr=>.v λu1=>.mk [] [zj zaM (zfV r u1),zI u1 r.b]
abbrev zbY (a_p:zag) (a_n_:Int) (zcJ:Val) (zz:zg):AC (zag):=.b λzaM=>.v λzf3=>.mk [zal zaM (Fld.id zin),isv a_n_,zdV 72 [zbn (zcJ),zbn (zfY.mk zaM),zbn (zz)]] [zj zaM (zfV a_p zf3),zI zf3 a_p.b] λr=>.v λu1=>.mk [] [zj zaM (zfV r u1),zI u1 r.b]
abbrev zbU (a_k:Int) (a_a1:Val) (a_a2:zag) (a_a3:zg):AC (Bool × zag):=.b λzlH=>.v λzty=>.mk [isv a_k,zbn (a_a1),zbn (zfY.mk zlH),zbn (a_a3)] [zj zlH (zfV a_a2 zty),zI zty a_a2.b] λr=>.v λu1=>.mk [isv r.1] [zj zlH (zfV r.2 u1),zI u1 r.2.b]
theorem zja {zL:Int->zag->zg->Val->Option (Bool × zag)} {zQ:zag->Int->Val->Option (zag)} {zR:zag->Int->zg->Val->Option (zag)} {zJ:zag->Int->Val->zg->Option (zag)} {zK:Int->Val->zag->zg->Option (Bool × zag)} [∀ a_k a_a1 a_a2 a_a3,zd Tryz.prog 71 (zL a_k a_a1 a_a2 a_a3) (zbW a_k a_a1 a_a2 a_a3)] [∀ a_p a_i a_v,zd Tryz.prog 31 (zQ a_p a_i a_v) (zb9 a_p a_i a_v)] [∀ a_p a_n_ zU zz,zd Tryz.prog 70 (zR a_p a_n_ zU zz) (zcp a_p a_n_ zU zz)] [∀ a_p a_n_ zcJ zz,zd Tryz.prog 70 (zJ a_p a_n_ zcJ zz) (zbY a_p a_n_ zcJ zz)] [∀ a_k a_a1 a_a2 a_a3,zd Tryz.prog 72 (zK a_k a_a1 a_a2 a_a3) (zbU a_k a_a1 a_a2 a_a3)] a_k a_a1 a_a2 a_a3:zd Tryz.prog 71 (zcX zL zQ zR zJ zK a_k a_a1 a_a2 a_a3) (zbW a_k a_a1 a_a2 a_a3):=by
 unfold zcX
 exact W (.d 256 .a) Tryz.func71 e
theorem zks {zL:Int->zag->zg->Val->Option (Bool × zag)} {zQ:zag->Int->Val->Option (zag)} {zR:zag->Int->zg->Val->Option (zag)} {zJ:zag->Int->Val->zg->Option (zag)} {zK:Int->Val->zag->zg->Option (Bool × zag)} [∀ a_k a_a1 a_a2 a_a3,zd Tryz.prog 71 (zL a_k a_a1 a_a2 a_a3) (zbW a_k a_a1 a_a2 a_a3)] [∀ a_p a_i a_v,zd Tryz.prog 31 (zQ a_p a_i a_v) (zb9 a_p a_i a_v)] [∀ a_p a_n_ zU zz,zd Tryz.prog 70 (zR a_p a_n_ zU zz) (zcp a_p a_n_ zU zz)] [∀ a_p a_n_ zcJ zz,zd Tryz.prog 70 (zJ a_p a_n_ zcJ zz) (zbY a_p a_n_ zcJ zz)] [∀ a_k a_a1 a_a2 a_a3,zd Tryz.prog 72 (zK a_k a_a1 a_a2 a_a3) (zbU a_k a_a1 a_a2 a_a3)] a_p a_i a_v:zd Tryz.prog 31 (zdx zL zQ zR zJ zK a_p a_i a_v) (zb9 a_p a_i a_v):=by
 unfold zdx
 exact W (.b (.d 3136 .a) (.b .a (.b (.d 128 .a) (.w [66] (.b .a (.d 28 .a)) .a)))) Tryz.func31 e
theorem zjV {zL:Int->zag->zg->Val->Option (Bool × zag)} {zQ:zag->Int->Val->Option (zag)} {zR:zag->Int->zg->Val->Option (zag)} {zJ:zag->Int->Val->zg->Option (zag)} {zK:Int->Val->zag->zg->Option (Bool × zag)} [∀ a_k a_a1 a_a2 a_a3,zd Tryz.prog 71 (zL a_k a_a1 a_a2 a_a3) (zbW a_k a_a1 a_a2 a_a3)] [∀ a_p a_i a_v,zd Tryz.prog 31 (zQ a_p a_i a_v) (zb9 a_p a_i a_v)] [∀ a_p a_n_ zU zz,zd Tryz.prog 70 (zR a_p a_n_ zU zz) (zcp a_p a_n_ zU zz)] [∀ a_p a_n_ zcJ zz,zd Tryz.prog 70 (zJ a_p a_n_ zcJ zz) (zbY a_p a_n_ zcJ zz)] [∀ a_k a_a1 a_a2 a_a3,zd Tryz.prog 72 (zK a_k a_a1 a_a2 a_a3) (zbU a_k a_a1 a_a2 a_a3)] a_p a_n_ zU zz:zd Tryz.prog 70 (zdi zL zQ zR zJ zK a_p a_n_ zU zz) (zcp a_p a_n_ zU zz):=by
 unfold zdi
 exact W (.k (.b 0 λzaM=>.m [true,true] (.w λt0=>.v (λq2:Bool × Int × zag=>[(6,isv q2.1),(10,isv q2.2.1)]) λq2=>[zj zaM (zfV q2.2.2 t0),zI t0 q2.2.2.b])) (.b (.w [] (.j 0 (.b 0 λzaM=>.m [true,true] (.w λt0=>.v (λq18:Bool × zag=>[(6,isv q18.1)]) λq18=>[zj zaM (zfV q18.2 t0),zI t0 q18.2.b])) .a (.j 0 (.b 0 λzaM=>.m [true,true] (.w λt0=>.v (λq20:zag=>[]) λq20=>[zj zaM (zfV q20 t0),zI t0 q20.b])) .a .a)) .a) .a)) Tryz.func70 e
theorem zi6 {zL:Int->zag->zg->Val->Option (Bool × zag)} {zQ:zag->Int->Val->Option (zag)} {zR:zag->Int->zg->Val->Option (zag)} {zJ:zag->Int->Val->zg->Option (zag)} {zK:Int->Val->zag->zg->Option (Bool × zag)} [∀ a_k a_a1 a_a2 a_a3,zd Tryz.prog 71 (zL a_k a_a1 a_a2 a_a3) (zbW a_k a_a1 a_a2 a_a3)] [∀ a_p a_i a_v,zd Tryz.prog 31 (zQ a_p a_i a_v) (zb9 a_p a_i a_v)] [∀ a_p a_n_ zU zz,zd Tryz.prog 70 (zR a_p a_n_ zU zz) (zcp a_p a_n_ zU zz)] [∀ a_p a_n_ zcJ zz,zd Tryz.prog 70 (zJ a_p a_n_ zcJ zz) (zbY a_p a_n_ zcJ zz)] [∀ a_k a_a1 a_a2 a_a3,zd Tryz.prog 72 (zK a_k a_a1 a_a2 a_a3) (zbU a_k a_a1 a_a2 a_a3)] a_p a_n_ zcJ zz:zd Tryz.prog 70 (zcW zL zQ zR zJ zK a_p a_n_ zcJ zz) (zbY a_p a_n_ zcJ zz):=by
 unfold zcW
 exact W (.k (.b 0 λzaM=>.m [true,true] (.w λt0=>.v (λq2:Bool × Int × zag=>[(6,isv q2.1),(10,isv q2.2.1)]) λq2=>[zj zaM (zfV q2.2.2 t0),zI t0 q2.2.2.b])) (.b (.w [] (.j 0 (.b 0 λzaM=>.m [true,true] (.w λt0=>.v (λq18:Bool × zag=>[(6,isv q18.1)]) λq18=>[zj zaM (zfV q18.2 t0),zI t0 q18.2.b])) .a (.j 0 (.b 0 λzaM=>.m [true,true] (.w λt0=>.v (λq20:zag=>[]) λq20=>[zj zaM (zfV q20 t0),zI t0 q20.b])) .a .a)) .a) .a)) Tryz.func70 e
theorem zjc {zL:Int->zag->zg->Val->Option (Bool × zag)} {zQ:zag->Int->Val->Option (zag)} {zR:zag->Int->zg->Val->Option (zag)} {zJ:zag->Int->Val->zg->Option (zag)} {zK:Int->Val->zag->zg->Option (Bool × zag)} [∀ a_k a_a1 a_a2 a_a3,zd Tryz.prog 71 (zL a_k a_a1 a_a2 a_a3) (zbW a_k a_a1 a_a2 a_a3)] [∀ a_p a_i a_v,zd Tryz.prog 31 (zQ a_p a_i a_v) (zb9 a_p a_i a_v)] [∀ a_p a_n_ zU zz,zd Tryz.prog 70 (zR a_p a_n_ zU zz) (zcp a_p a_n_ zU zz)] [∀ a_p a_n_ zcJ zz,zd Tryz.prog 70 (zJ a_p a_n_ zcJ zz) (zbY a_p a_n_ zcJ zz)] [∀ a_k a_a1 a_a2 a_a3,zd Tryz.prog 72 (zK a_k a_a1 a_a2 a_a3) (zbU a_k a_a1 a_a2 a_a3)] a_k a_a1 a_a2 a_a3:zd Tryz.prog 72 (zct zL zQ zR zJ zK a_k a_a1 a_a2 a_a3) (zbU a_k a_a1 a_a2 a_a3):=by
 unfold zct
 exact W (.b .a (.d 384 (.d 4096 .a))) Tryz.func72 e
theorem zfu:∀ n,(∀ a_k a_a1 a_a2 a_a3,zd Tryz.prog 71 (zaU n a_k a_a1 a_a2 a_a3) (zbW a_k a_a1 a_a2 a_a3))/\(∀ a_p a_i a_v,zd Tryz.prog 31 (zaO n a_p a_i a_v) (zb9 a_p a_i a_v))/\(∀ a_p a_n_ zU zz,zd Tryz.prog 70 (zbc n a_p a_n_ zU zz) (zcp a_p a_n_ zU zz))/\(∀ a_p a_n_ zcJ zz,zd Tryz.prog 70 (zaL n a_p a_n_ zcJ zz) (zbY a_p a_n_ zcJ zz))/\(∀ a_k a_a1 a_a2 a_a3,zd Tryz.prog 72 (zaV n a_k a_a1 a_a2 a_a3) (zbU a_k a_a1 a_a2 a_a3))
 | 0=>⟨λ_ _ _ _=>⟨λr h=>by cases h⟩,λ_ _ _=>⟨λr h=>by cases h⟩,λ_ _ _ _=>⟨λr h=>by cases h⟩,λ_ _ _ _=>⟨λr h=>by cases h⟩,λ_ _ _ _=>⟨λr h=>by cases h⟩⟩
 | n + 1=>by
  obtain ⟨h0,h1,h2,h3,h4⟩:=zfu n
  exact ⟨λa_k a_a1 a_a2 a_a3=>zja (zL:=zaU n) (zQ:=zaO n) (zR:=zbc n) (zJ:=zaL n) (zK:=zaV n) a_k a_a1 a_a2 a_a3,λa_p a_i a_v=>zks (zL:=zaU n) (zQ:=zaO n) (zR:=zbc n) (zJ:=zaL n) (zK:=zaV n) a_p a_i a_v,λa_p a_n_ zU zz=>zjV (zL:=zaU n) (zQ:=zaO n) (zR:=zbc n) (zJ:=zaL n) (zK:=zaV n) a_p a_n_ zU zz,λa_p a_n_ zcJ zz=>zi6 (zL:=zaU n) (zQ:=zaO n) (zR:=zbc n) (zJ:=zaL n) (zK:=zaV n) a_p a_n_ zcJ zz,λa_k a_a1 a_a2 a_a3=>zjc (zL:=zaU n) (zQ:=zaO n) (zR:=zbc n) (zJ:=zaL n) (zK:=zaV n) a_k a_a1 a_a2 a_a3⟩
instance note_printer_value_g n a_p a_i a_v:zd Tryz.prog 31 (zaO n a_p a_i a_v) (zb9 a_p a_i a_v):=(zfu n).2.1 a_p a_i a_v
end
section
attribute [local irreducible] isv zbn zal zbK zbw zem zeI zgQ zf1 zdV zdI zcO zj zO zI cal br ck asr jp lp zq

instance note_Print_g a_t a_i a_v:zd Tryz.prog 12 (zir a_t a_i a_v) (.mk [isv a_t,isv a_i,isv a_v] [] λr=>.mk [isv r.1,isv r.2] []):=by
 unfold zir
 exact W (.b .a (.b .a (.q 2 (.q 1 (.b .a (.f 0 35 .a)))))) Tryz.func12 e

end
section
attribute [local irreducible] isv zbn zal zbK zbw zem zeI zgQ zf1 zdV zdI zcO zj zO zI cal br ck asr jp lp zq
instance law13_awake_g :zd Tryz.prog 7 (zgN ) (.mk [] [] λr=>.mk [isv r] []):=by
 unfold zgN
 exact W (.o 5 22 (.o 1 26 .a .a) .a) Tryz.func7 e

end
section
attribute [local irreducible] isv zbn zal zbK zbw zem zeI zgQ zf1 zdV zdI zcO zj zO zI cal br ck asr jp lp zq
instance note_stream_peek_g a_s:zd Tryz.prog 19 (zbZ a_s) (.b λzn2=>.mk [zal zn2 ((Fld.id zeC).comp zoo)] [zj zn2 (zdA a_s)] λr=>.mk [isv r.1] [zj zn2 (zdA r.2)]):=by
 unfold zbZ
 exact W (.q 1 (.p 0 (.d 1024 .a))) Tryz.func19 e

instance note_parser_fail_g a_p a_e:zd Tryz.prog 20 (zbX a_p a_e) (.b λzaM=>.mk [zal zaM (Fld.id zeC),isv a_e] [zj zaM (zdA a_p)] λr=>.mk [isv r.1] [zj zaM (zdA r.2)]):=by
 unfold zbX
 exact W (.j 0 (.b 0 λzaM=>.m [true] (.v (λq1:zN=>[]) λq1=>[zj zaM (zdA q1)])) .a .a) Tryz.func20 e

instance note_stream_is_g a_s zaZ:zd Tryz.prog 44 (zcL a_s zaZ) (.b λzn2=>.mk [zal zn2 ((Fld.id zeC).comp zoo),isv zaZ] [zj zn2 (zdA a_s)] λr=>.mk [isv r.1] [zj zn2 (zdA r.2)]):=by
 unfold zcL
 exact W (.o 6 15 (.o 0 21 .a .a) .a) Tryz.func44 e

instance note_parser_want_g a_p zaZ:zd Tryz.prog 45 (zb1 a_p zaZ) (.b λzaM=>.mk [zal zaM (Fld.id zeC),isv zaZ] [zj zaM (zdA a_p)] λr=>.mk [isv r.1] [zj zaM (zdA r.2)]):=by
 unfold zb1
 exact W (.j 1 (.b 0 λzaM=>.m [true] (.v (λq2:Bool × zN=>[(13,isv q2.1)]) λq2=>[zj zaM (zdA q2.2)])) .a .a) Tryz.func45 e

instance note_parser_of_g a_p zfm:zd Tryz.prog 46 (zef a_p zfm) (.b λzaM=>.mk [zal zaM (Fld.id zeC),isv zfm] [zj zaM (zdA a_p)] λr=>.mk [isv r.1,isv r.2.1] [zj zaM (zdA r.2.2)]):=by
 unfold zef
 exact W .a Tryz.func46 e

instance note_parser_item_g a_p a_x:zd Tryz.prog 48 (zeS a_p a_x) (.b λzaM=>.mk [zal zaM (Fld.id zeC),isv a_x] [zj zaM (zdA a_p)] λr=>.mk [isv r.1,isv r.2.1] [zj zaM (zdA r.2.2)]):=by
 unfold zeS
 exact W (.l [16] (.b (.o 0 29 .a .a) .a)) Tryz.func48 e

instance internal_strconv_lower_g a_c:zd Tryz.prog 175 (zbJ a_c) (.mk [isv a_c] [] λr=>.mk [isv r] []):=by
 unfold zbJ
 exact W .a Tryz.func175 e

instance internal_strconv_ParseUint_g a_s zdR zcK:zd Tryz.prog 145 (zed a_s zdR zcK) (.mk [isv a_s,isv zdR,isv zcK] [] λr=>.mk [isv r.1,isv r.2] []):=by
 unfold zed
 exact W (.b .a (.v [0,1] (.w [2] (.v [10] (.l [12,13,101] (.b (.v [12,13] .a (.v [16] (.b .a (.b .a (.o 0 159 .a .a))) (.o 1 111 (.b .a (.o 1 118 (.b .a (.o 1 129 .a .a)) .a)) .a))) (.o 0 169 .a .a))) .a) (.b .a (.o 0 83 .a .a))) (.o 1 31 (.b .a (.b (.b (.o 1 49 (.b .a (.o 1 61 (.b .a (.o 1 73 .a .a)) .a)) .a) .a) .a)) .a))) Tryz.func145 e

instance strconv_ParseUint_g a_s zdR zcK:zd Tryz.prog 104 (zdN a_s zdR zcK) (.mk [isv a_s,isv zdR,isv zcK] [] λr=>.mk [isv r.1,isv r.2] []):=by
 unfold zdN
 exact W .a Tryz.func104 e

instance note_octets_g a_s:zd Tryz.prog 49 (zd2 a_s) (.mk [isv a_s] [] λr=>.mk [isv r] []):=by
 unfold zd2
 exact W (.k (.m [] (.t λt0=>.v (λq1:(List UInt8) × Int=>[(3,zbK t0 q1.1),(4,isv q1.2)]) λq1=>[zO t0])) .a) Tryz.func49 e

instance note_parser_field_g a_p a_l zdh:zd Tryz.prog 52 (zdK a_p a_l zdh) (.b λzaM=>.mk [zal zaM (Fld.id zeC),isv a_l,isv zdh] [zj zaM (zdA a_p)] λr=>.mk [isv r.1,isv r.2.1] [zj zaM (zdA r.2.2)]):=by
 unfold zdK
 exact W (.l [9] (.o 0 23 (.b (.d 0 .a) .a) .a)) Tryz.func52 e

end
end Go.Proofs.Q
