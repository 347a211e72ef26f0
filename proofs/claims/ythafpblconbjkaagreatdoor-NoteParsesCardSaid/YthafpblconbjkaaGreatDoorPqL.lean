/- Walks, printed by mill.py and grow.py. -/
import Derived.Test.YthafpblconbjkaaGreatDoorPqK
set_option linter.unusedVariables false
set_option linter.unusedSimpArgs false
set_option maxRecDepth 4000
set_option maxHeartbeats 4000000
namespace Go.Proofs.Q
open Go.Sy
section
attribute [local irreducible] isv zbn zal zbK zbw zem zeI zgQ zf1 zdV zdI zcO zj zO zI cal br ck asr jp lp zq

instance r12_plain_g a_v a_n_ a_b a_l zqt:zd Tryz.prog 76 (zet a_v a_n_ a_b a_l zqt) (.mk [isv a_v,isv a_n_,isv a_b,isv a_l,isv zqt] [] λr=>.mk [isv r] []):=by
 unfold zet
 exact W (.o 33 16 (.o 24 25 (.o 15 34 (.o 1 48 .a (.b (.o 2 47 .a (.b .a (.o 3 46 .a .a))) .a)) (.b (.o 16 33 .a .a) .a)) (.b (.o 25 24 .a .a) .a)) .a) Tryz.func76 e

instance r09_Less_g a_a a_b:zd Tryz.prog 169 (zk7 a_a a_b) (.mk [isv a_a,isv a_b] [] λr=>.mk [isv r] []):=by
 unfold zk7
 exact W (.o 1 23 .a (.b .a (.o 2 22 .a .a))) Tryz.func169 e

instance r12_raws_g a_t a_i a_v:zd Tryz.prog 132 (zhe a_t a_i a_v) (.mk [isv a_t,isv a_i,isv a_v] [] λr=>.mk [isv r] []):=by
 unfold zhe
 exact W (.b .a (.o 0 36 (.b .a (.q 1 (.k (.b 0 λb8=>.m [true] (.v (λq9:Int × Tag=>[(8,isv q9.1)]) λq9=>[zj b8 (q9.2:Tag)])) (.b (.w [] (.j 0 (.b 0 λb8=>.m [true] (.v (λq45:Tag=>[]) λq45=>[zj b8 (q45:Tag)])) .a (.b (.w [10] (.o 6 74 (.o 0 80 .a .a) .a) .a) (.o 19 95 (.o 0 114 .a (.b .a (.o 7 107 (.o 1 113 .a .a) .a))) .a))) .a) .a)))) (.b .a (.o 1 35 .a .a)))) Tryz.func132 e

abbrev zh1 (a_t:zZ) (a_i:Int) (a_v:Val) (za:Int):AC (Bool):=.mk [isv a_t,isv a_i,isv a_v,isv za] [] λr=>.mk [isv r] []
abbrev ziw (a_t:zZ) (a_i:Int) (a_v:Val) (za:Int):AC (Bool):=.mk [isv a_t,isv a_i,isv a_v,isv za] [] λr=>.mk [isv r] []
theorem zo1 {zd4:zZ->Int->Val->Int->Option (Bool)} {zeq:zZ->Int->Val->Int->Option (Bool)} [∀ a_t a_i a_v za,zd Tryz.prog 80 (zd4 a_t a_i a_v za) (zh1 a_t a_i a_v za)] [∀ a_t a_i a_v za,zd Tryz.prog 33 (zeq a_t a_i a_v za) (ziw a_t a_i a_v za)] a_t a_i a_v za:zd Tryz.prog 80 (zdW zd4 zeq a_t a_i a_v za) (zh1 a_t a_i a_v za):=by
 unfold zdW
 exact W (.o 7 36 (.o 0 43 (.b .a (.l [10] (.b (.w [] (.j 0 (.m [] (.v (λq163:Unit=>[]) λq163=>[])) .a (.o 1 61 (.b (.o 0 86 .a (.b .a (.o 1 85 .a .a))) (.d 8389632 (.o 0 112 .a (.b .a (.o 1 111 .a .a))))) .a)) .a) (.l [14] (.b (.l [15,16,17] (.b (.d 6144 (.d 0 (.o 1 158 (.o 1 173 .a (.b .a (.o 7 167 (.o 2 172 .a .a) .a))) .a))) (.d 0 (.o 3 188 (.o 0 191 .a .a) .a)))) .a))))) .a) .a) Tryz.func80 e
theorem zqU {zd4:zZ->Int->Val->Int->Option (Bool)} {zeq:zZ->Int->Val->Int->Option (Bool)} [∀ a_t a_i a_v za,zd Tryz.prog 80 (zd4 a_t a_i a_v za) (zh1 a_t a_i a_v za)] [∀ a_t a_i a_v za,zd Tryz.prog 33 (zeq a_t a_i a_v za) (ziw a_t a_i a_v za)] a_t a_i a_v za:zd Tryz.prog 33 (ze3 zd4 zeq a_t a_i a_v za) (ziw a_t a_i a_v za):=by
 unfold ze3
 exact W (.o 4 19 (.o 0 23 (.b .a (.b .a (.b .a (.b (.o 1 56 .a (.b (.o 2 55 .a .a) .a)) (.b (.o 1 72 .a (.b (.o 2 71 .a .a) .a)) (.b (.o 1 83 .a .a) (.b .a (.w [88] (.b (.o 24 98 (.o 11 111 (.o 1 121 .a (.b (.o 2 120 .a .a) .a)) (.b (.o 12 110 .a .a) .a)) .a) (.b (.o 0 141 (.b .a (.l [10] (.b (.d 1024 .a) .a))) (.b .a (.o 1 140 .a .a))) (.b (.d 68719476738 (.o 32 169 (.o 24 177 (.o 18 183 (.o 1 200 .a .a) .a) .a) .a)) (.w [201] .a .a)))) .a)))))))) .a) .a) Tryz.func33 e
theorem zjm:∀ n,(∀ a_t a_i a_v za,zd Tryz.prog 80 (zfL n a_t a_i a_v za) (zh1 a_t a_i a_v za))/\(∀ a_t a_i a_v za,zd Tryz.prog 33 (zex n a_t a_i a_v za) (ziw a_t a_i a_v za))
 | 0=>⟨λ_ _ _ _=>⟨λr h=>by cases h⟩,λ_ _ _ _=>⟨λr h=>by cases h⟩⟩
 | n + 1=>by
  obtain ⟨h0,h1⟩:=zjm n
  exact ⟨λa_t a_i a_v za=>zo1 (zd4:=zfL n) (zeq:=zex n) a_t a_i a_v za,λa_t a_i a_v za=>zqU (zd4:=zfL n) (zeq:=zex n) a_t a_i a_v za⟩
instance r12_fits_g n a_t a_i a_v za:zd Tryz.prog 33 (zex n a_t a_i a_v za) (ziw a_t a_i a_v za):=(zjm n).2 a_t a_i a_v za

instance r12_Fits_g a_t a_i a_v:zd Tryz.prog 13 (zga a_t a_i a_v) (.mk [isv a_t,isv a_i,isv a_v] [] λr=>.mk [isv r] []):=by
 unfold zga
 exact W (.o 1 15 .a .a) Tryz.func13 e

instance octets_TakeGroups_g a_b:zd Tryz.prog 240 (zhh a_b) (.mk [isv a_b] [] λr=>.mk [isv r.1,isv r.2.1,isv r.2.2] []):=by
 unfold zhh
 exact W (.l [5,10] (.b (.o 5 20 (.o 0 25 .a .a) .a) .a)) Tryz.func240 e

instance tlv_number_g a_b:zd Tryz.prog 227 (zlF a_b) (.mk [isv a_b] [] λr=>.mk [isv r.1,isv r.2.1,isv r.2.2] []):=by
 unfold zlF
 exact W (.b .a (.b .a (.o 1 34 .a .a))) Tryz.func227 e

instance octets_taken_g a_b:zd Tryz.prog 244 (zke a_b) (.mk [isv a_b] [] λr=>.mk [isv r] []):=by
 unfold zke
 exact W (.l [3,8] .a) Tryz.func244 e

instance octets_TakeUnsigned_g a_b:zd Tryz.prog 241 (zfZ a_b) (.mk [isv a_b] [] λr=>.mk [isv r.1,isv r.2] []):=by
 unfold zfZ
 exact W (.b .a (.o 0 20 .a (.b .a (.o 1 19 .a .a)))) Tryz.func241 e

instance tlv_length_g a_b:zd Tryz.prog 228 (zlK a_b) (.mk [isv a_b] [] λr=>.mk [isv r.1,isv r.2.1,isv r.2.2] []):=by
 unfold zlK
 exact W (.b .a (.b .a (.o 1 30 (.b .a (.b .a (.o 4 49 (.o 0 53 .a .a) .a))) .a))) Tryz.func228 e

instance tlv_TakeHead_g a_b:zd Tryz.prog 206 (zkb a_b) (.mk [isv a_b] [] λr=>.mk [isv r.1,isv r.2.1,isv r.2.2.1,isv r.2.2.2.1,isv r.2.2.2.2] []):=by
 unfold zkb
 exact W (.q 1 (.b .a (.b .a (.b .a (.d 131072 .a))))) Tryz.func206 e

instance tlv_Take_g a_b:zd Tryz.prog 180 (znH a_b) (.mk [isv a_b] [] λr=>.mk [isv r.1,isv r.2.1,isv r.2.2.1,isv r.2.2.2.1,isv r.2.2.2.2] []):=by
 unfold znH
 exact W (.q 1 (.o 0 29 (.w [11] (.b .a (.e (.v 0 (.v 1 (.v 2 (.v 3 (.v 4 (.v 5 (.v 6 (.v 7 (.v 9 (.v 10 (.v 11 (.t 8 (.t 12 (.v 13 (.v 14 (.v 15 (.v 16 .nil))))))))))))))))) .a)) .a) .a)) Tryz.func180 e

instance table_Loose_g a_t a_k:zd Tryz.prog 158 (zgD a_t a_k) (.mk [isv a_t,isv a_k] [] λr=>.mk [isv r] []):=by
 unfold zgD
 exact W (.o 7 18 (.o 1 24 .a .a) .a) Tryz.func158 e

instance table_Last_g a_t:zd Tryz.prog 181 (zlL a_t) (.mk [isv a_t] [] λr=>.mk [isv r] []):=by
 unfold zlL
 exact W (.l [3] (.o 0 18 .a .a)) Tryz.func181 e

instance table_types_begins_c1_g a_x a_a1:zd Tryz.prog 230 (zfo a_x a_a1) (.b λzgt=>.t λt_a_a11=>.mk [isv a_x,zal zgt (Fld.id (zaa Tag))] [zj zgt ((zaa.mk t_a_a11 a_a1):(zaa Tag)),zO t_a_a11] λr=>.t λu1=>.mk [] [zj zgt ((zaa.mk u1 r)),zO u1]):=by
 unfold zfo
 exact W (.b (.e (.v 1 (.v 2 (.v 3 (.v 4 (.alt 0 (.t 5 (.t 6 (.t 7 .nil))) (.t 5 (.t 0 (.t 6 (.t 7 .nil))))))))) (.b .a .a)) .a) Tryz.func230 e

abbrev zeK (a_t:zeZ) (zfi:Int) (zep:Int) (zdX:(List Tag)):AC (zeZ × Int × (List Tag)):=.b λzl2=>.b λzkW=>.b λzjR=>.t λt_a_do__01=>.mk [zal zl2 (Fld.id zeZ),isv zfi,zal zkW (Fld.id Int),zdV 230 [zal zjR (Fld.id (zaa Tag))]] [zj zl2 (a_t:zeZ),zj zkW (zep:Int),zj zjR ((zaa.mk t_a_do__01 zdX):(zaa Tag)),zO t_a_do__01] λr=>.t λu1=>.mk [] [zj zl2 (r.1),zj zkW (r.2.1),zj zjR ((zaa.mk u1 r.2.2)),zO u1]
theorem zkE {zeh:zeZ->Int->Int->(List Tag)->Option (zeZ × Int × (List Tag))} [∀ a_t zfi zep zdX,zd Tryz.prog 229 (zeh a_t zfi zep zdX) (zeK a_t zfi zep zdX)] a_t zfi zep zdX:zd Tryz.prog 229 (zf2 zeh a_t zfi zep zdX) (zeK a_t zfi zep zdX):=by
 unfold zf2
 exact W (.o 6 21 (.o 0 27 (.b .a (.b .a (.k (.b 0 λzjR=>.b 2 λzkW=>.b 3 λzl2=>.m [true,true,true,true] (.t λt0=>.v (λq13:Int × (List Tag) × Int × zeZ=>[(50,isv q13.1)]) λq13=>[zj zjR ((zaa.mk t0 q13.2.1):(zaa Tag)),zO t0,zj zkW (q13.2.2.1:Int),zj zl2 (q13.2.2.2:zeZ)])) .a))) .a) .a) Tryz.func229 e
theorem zgA:∀ n,(∀ a_t zfi zep zdX,zd Tryz.prog 229 (zfs n a_t zfi zep zdX) (zeK a_t zfi zep zdX))
 | 0=>λ_ _ _ _=>⟨λr h=>by cases h⟩
 | n + 1=>by
  have:=zgA n
  exact λa_t zfi zep zdX=>zkE (zeh:=zfs n) a_t zfi zep zdX
instance table_types_inner_g n a_t zfi zep zdX:zd Tryz.prog 229 (zfs n a_t zfi zep zdX) (zeK a_t zfi zep zdX):=(zgA n) a_t zfi zep zdX

instance table_types_begins_g a_t zfi:zd Tryz.prog 209 (zgw a_t zfi) (.b λzl2=>.mk [zal zl2 (Fld.id zeZ),isv zfi] [zj zl2 (a_t:zeZ)] λr=>.mk [isv r.1] [zj zl2 (r.2)]):=by
 unfold zgw
 exact W (.q 2 (.q 1 .a)) Tryz.func209 e

instance table_Begins_g a_t a_i:zd Tryz.prog 185 (zjX a_t a_i) (.mk [isv a_t,isv a_i] [] λr=>.mk [isv r] []):=by
 unfold zjX
 exact W (.q 0 (.q 0 (.q 1 .a))) Tryz.func185 e

instance slices_Index_Lapi_Tag_api_Tag_g a_s a_v:zd Tryz.prog 208 (zdB a_s a_v) (.mk [isv a_s,isv a_v] [] λr=>.mk [isv r] []):=by
 unfold zdB
 exact W (.l [8] (.b (.d 0 .a) .a)) Tryz.func208 e

instance slices_Contains_Lapi_Tag_api_Tag_g a_s a_v:zd Tryz.prog 184 (zda a_s a_v) (.mk [isv a_s,isv a_v] [] λr=>.mk [isv r] []):=by
 unfold zda
 exact W .a Tryz.func184 e

instance value_checker_foreign_c1_g a_f a_a1 a_a2:zd Tryz.prog 183 (zeG a_f a_a1 a_a2) (.b λzgt=>.mk [isv a_f,zbn (zfY.mk zgt),zbn (a_a2)] [zj zgt (a_a1:zy)] λr=>.mk [isv r.1] [zj zgt (r.2)]):=by
 unfold zeG
 exact W (.e (.v 0 (.v 1 (.v 2 (.v 3 (.v 5 (.v 6 (.v 8 (.t 4 (.t 7 (.t 9 (.v 10 .nil))))))))))) .a) Tryz.func183 e

instance slices_IndexFunc_Lapi_Field_api_Field_g a_s za9 zbd:zd Tryz.prog 207 (zcC a_s za9 zbd) (.b λzdY=>.mk [isv a_s,zdV 183 [zbn (zfY.mk zdY),zbn (zbd)]] [zj zdY (za9:zy)] λr=>.mk [isv r.1] [zj zdY (r.2)]):=by
 unfold zcC
 exact W (.k (.b 0 λzdY=>.m [true] (.v (λq1:Int × zy=>[(8,isv q1.1)]) λq1=>[zj zdY (q1.2:zy)])) .a) Tryz.func207 e

instance slices_ContainsFunc_Lapi_Field_api_Field_g a_s za9 zbd:zd Tryz.prog 182 (zcq a_s za9 zbd) (.b λzdY=>.mk [isv a_s,zdV 183 [zbn (zfY.mk zdY),zbn (zbd)]] [zj zdY (za9:zy)] λr=>.mk [isv r.1] [zj zdY (r.2)]):=by
 unfold zcq
 exact W .a Tryz.func182 e

end
end Go.Proofs.Q
