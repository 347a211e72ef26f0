/- Walks, printed by mill.py and grow.py. -/
import Derived.Test.YthafpblconbjkaaGreatDoorNbI
set_option linter.unusedVariables false
set_option linter.unusedSimpArgs false
set_option maxRecDepth 4000
set_option maxHeartbeats 4000000
namespace Go.Proofs.Q
open Go.Sy
theorem zs7 {a_m r} (h:zgS a_m=some r):Ctr Tryz.prog 16 [isv a_m] [] (Pt [isv r.1,isv r.2.1,isv r.2.2] []):=by
 unfold zgS at h
 refine zer Tryz.func16 e λw0 S0 hT=>ws (oT (tB e (oT (zhB _ ze26 λb1=>oa e (an e (ws (oV (zan ty50 e) (zau h λy2 hy2 h=>oT (tC (cw (P:=Tryz.prog) (f:=40) hy2) hT (s1 e) k0 (om e (oV (zll e e) (oV (zll e e) (oV (zll e e) (oa e (oa e (an e (ss (om e (oV (zk8 e e) (rn (zcr h e (λ_ h=>?_) (λ_ h=>wk (ws (oV (zan ty50 e) (oV (zkf (z:=((a_m,(Vh.mk none 0),(0:Int)):zfo)) e bu101 zzM (.cons zp8 zyI e hI .nil)) (oT (zxo (y:=((a_m,(Vh.mk none 0),(0:Int)):zfo)) e hI λb3=>zbk (ziX (α:=zg)) (an e (zeQ ?_)))))))))))))))))))))))))))))
 ·exact ws (oV (zkf (z:=(zZ.mk (Str.mk []) ([]:(List Str)) ([]:(List Int)) ([]:(List zg)))) e bu26 ze26 .nil) (om e (om e (oT (tS zpg e e p0 ⟨⟨[]⟩,[],[],[]⟩ (oa e (ar e (zhk (zdC (.cell e .here zpg (.tmp e (.tmp e .nil))) k0 (iS h ▸ ⟨e,e⟩))))))))))
 refine jw h (Nat × Tok) (λq5 g5=>[(9,zar g5.1 (Fld.id (Str × (List Str) × (zaa Int) × (List zg))))]) (λq5 g5=>[zj g5.1 ((q5.name,q5.names,(zaa.mk g5.2 q5.roots),q5.types):(Str × (List Str) × (zaa Int) × (List zg))),zO g5.2]) k0 (λq5 g5 h=>?_) λJ6 h hJ6=>zeN (.v 0 (.v 1 (.v 2 (.v 3 (.alt 4 (.v 5 (.t 6 (.t 7 .nil))) (.t 6 (.t 4 (.v 5 (.t 7 .nil))))))))) zlA (by kernel_rfl) (zbe e (vI e zaz.f0 zBi a_m.name) (zbe e (zan ty9 e) (zbe e (vI e zaz.f2 zxx a_m.names) (zbe e (zan ty22 e) (zbF h λq8 h=>zq9 ?_ (rT e (zhB _ zqm λb12=>zo5 (zef) (rT e (zqg (m:=a_m.names) ztL e e hI q8 λt14=>zbe e (zkf (z:=((a_m.name,(([]:(List Str)) ++ a_m.names),(zaa.mk none ([]:(List Int))),([]:(List zg))):(Str × (List Str) × (zaa Int) × (List zg)))) e bu26 zqm (.cons zpk zw3 e hI (.cons zod zxz e zb9 .nil))) (zo5 (zef) (rT e (tS zpg e e p3 (a_m.name,([] ++ a_m.names),⟨none,[]⟩,[]) (zgP (hJ6 h (b12,none) 7))))))))))))))
 ·refine ss (an e (zed (lP h (Tok × Vt) (g5.2,none) (λq16 g16=>[(10,isv q16.1)]) (λq16 g16=>[zj g5.1 ((q16.2.1.name,q16.2.1.names,(zaa.mk g16.1 q16.2.1.roots),q16.2.1.types):(Str × (List Str) × (zaa Int) × (List zg))),zO g16.1,zj b3 (zeV q16.2.2 g16.2),zN g16.2 (q16.2.2.l:List zg)]) (zeq (j:=10) e hI zhE) (a0 (a0 (a1 k1))) λL17 q16 g16 Q50 h hL17 eL17 rL17=>ss (om e (oV (vI e zaz.f2 zxx a_m.names) (oV (zan ty22 e) (oV (vN e sl22) (oV (zmB e e) (rn (zcr h e (λ_ h=>?_) (λ_ h=>xn (eL17 _ _ (zeK (zc5 (ws (om e (oV (zg7 e) (oV (zpu e zpS zyK) (oT (zhm (R:=zbu g16.2 (q16.2.2.l.length)) ty24 e p2 zuj (oV (zpu e zrr zwy) (zbk (zhn 64 (.there (.there (.there .here))) e (by first | rfl | simp)) (oT (tS ty24 e e p0 (q16.2.1.name,q16.2.1.names,⟨g16.1,q16.2.1.roots⟩,q16.2.2.l) (rn (ws (oT (zhm (y:=((q16.2.1.name,q16.2.1.names,(zaa.mk g16.1 q16.2.1.roots),q16.2.2.l):(Str × (List Str) × (zaa Int) × (List zg)))) (R:=isv (((q16.2.1.name,q16.2.1.names,(zaa.mk g16.1 q16.2.1.roots),q16.2.2.l)):((Str × (List Str) × (zaa Int) × (List zg))))) zpg e .here (by exact hI) (zbk (zbo (R':=isv ((zZ.mk q16.2.1.name q16.2.1.names q16.2.1.roots q16.2.2.l))) 66 e (Cv.isv e λS=>(λcs h=>zZ.cv (x:=(zZ.mk q16.2.1.name q16.2.1.names q16.2.1.roots q16.2.2.l)) cs (((Cv.pair Cv.id (Cv.pair Cv.id (Cv.pair Cv.tl Cv.id))):Cv S ((q16.2.1.name,q16.2.1.names,(zaa.mk g16.1 q16.2.1.roots),q16.2.2.l):(Str × (List Str) × (zaa Int) × (List zg))) (zZ.to (zZ.mk q16.2.1.name q16.2.1.names q16.2.1.roots q16.2.2.l))) cs h)))) (oT (tS zpg e e p3 ⟨q16.2.1.name,q16.2.1.names,q16.2.1.roots,q16.2.2.l⟩ (oa e ?_))))))))))))))))))))))))))))))))
  ·refine wk (zeQ (zed (zeQ (jw h (Tok × Vt) (λq34 g34=>[]) (λq34 g34=>[zj g5.1 ((q34.1.name,q34.1.names,(zaa.mk g34.1 q34.1.roots),q34.1.types):(Str × (List Str) × (zaa Int) × (List zg))),zO g34.1,zj b3 (zeV q34.2 g34.2),zN g34.2 (q34.2.l:List zg)]) (a0 (a1 k2)) (λq34 g34 h=>?_) λJ35 h hJ35=>zeN (.v 0 (.v 2 (.v 3 (.v 4 (.v 5 (.v 6 (.v 7 (.alt 1 (.t 8 (.t 9 (.t 10 (.v 11 (.t 12 .nil))))) (.t 8 (.alt 1 (.t 9 (.t 10 (.v 11 (.t 12 .nil)))) (.t 9 (.t 1 (.t 10 (.v 11 (.t 12 .nil))))))))))))))) zlA (by kernel_rfl) (zbe e (zpu e zkA zq6) (rm e e (zbe e (vI e zaz.f3 zBg a_m.types) (zbe e (zan zmS e) (rm e e (zau h λy36 hy36 h=>zbe e (vX e e zvS hy36) (zbe e (zan ty3 e) (zau h λy37 hy37 h=>zbF h λq41 h=>zq9 ?_ (rT e (tC1 (cw (P:=Tryz.prog) (f:=41) hy37 _ _) hT (s3 e e e) (a2 (a2 k0)) (λv42=>zq9 ?_ (rT e (zcf (l:=([y37.1]:(List Int))) zqC (.cons e hI .nil) e e (rT e (zhm (R:=zbK g16.1 q16.2.1.roots) zmS e p2 zoz (rT e (ziY (l:=q16.2.1.roots) (m:=([y37.1]:(List Int))) ziN e hI e zb9 (.there (.there (.there .here))) q41 λt46=>zbe e (zpu e zkA zq6) (rT e (tR zmS e e zsp p3 (q16.2.1.name,q16.2.1.names,⟨t46,(q16.2.1.roots ++ ([y37.1]:(List Int)))⟩,q16.2.1.types) e (zgP (hJ35 h (t46,v42) 12)))))))))))))))))))))))))
   ·refine ws (om e (oV (zg7 e) (oV (zpu e zm3 zt9) (oT (tL ty37 e p2 q34.2.e (oV (zk8 e e) (rn (zcr h e (λ_ h=>?_) (λ_ h=>zna (zgq (zc5 (zdS (om e (zfj h λq49 h=>oV (zpJ e e q49) (oa e (zkK (hL17 h (g34.1,g34.2) 14)))))))))))))))))
    exact zeQ (zws 8 (.there (.there .here)) e (λo47 hn48=>zeN (.v 0 (.v 1 (.v 2 (.v 3 (.v 4 (.v 5 (.t 6 (.v 7 (.v 8 .nil))))))))) zlA (by kernel_rfl) (zbe e (zkf (z:=(zZ.mk (Str.mk []) ([]:(List Str)) ([]:(List Int)) ([]:(List zg)))) e bu26 ze26 .nil) (rm e e (rm e e (zbe e (znq e) (zbe e (zBN e zm3 zt9) (zbe e (vP ty37 e m0 q34.2.e) (rT e (tS zpg e e p3 ⟨⟨[]⟩,[],[],[]⟩ (zbe e (zjL e) (zbe e (zjL e) (zgP (zoG 8 hn48 e (zc5 (zoL (bn (rL17 _ (bn (zdC (.cell e (.there .here) zpg (.tmp e (.tmp e .nil))) k0 (iS h ▸ ⟨e,e⟩)))))))))))))))))))))
   ·exact rT e (zhm (R:=zbK g16.1 q16.2.1.roots) zmS e p0 zoz (rT e (tC1 (cw (P:=Tryz.prog) (f:=41) hy37 _ _) hT (s3 e e e) (a2 (a2 k0)) (λv38=>rT e (zcf (l:=([y37.1]:(List Int))) zqC (.cons e hI .nil) e e (rT e (ziY (l:=q16.2.1.roots) (m:=([y37.1]:(List Int))) ziN e hI e zb9 (.there (.there (.there .here))) q41 λt40=>zbe e (zpu e zkA zq6) (rT e (tR zmS e e zsp p3 (q16.2.1.name,q16.2.1.names,⟨t40,(q16.2.1.roots ++ ([y37.1]:(List Int)))⟩,q16.2.1.types) e (zgP (hJ35 h (t40,v38) 12)))))))))))
   exact rT e (zhm (R:=zbK g16.1 q16.2.1.roots) zmS e p2 zoz (rT e (zcf (l:=([y37.1]:(List Int))) zqC (.cons e hI .nil) e e (rT e (ziY (l:=q16.2.1.roots) (m:=([y37.1]:(List Int))) ziN e hI e zb9 (.there (.there (.there .here))) q41 λt44=>zbe e (zpu e zkA zq6) (rT e (tR zmS e e zsp p3 (q16.2.1.name,q16.2.1.names,⟨t44,(q16.2.1.roots ++ ([y37.1]:(List Int)))⟩,q16.2.1.types) e (zgP (hJ35 h (t44,v42) 12)))))))))
  exact ar e (zdC (.cell e .here zpg (.tmp e (.tmp e .nil))) k0 (iS h ▸ ⟨e,e⟩))
 exact rT e (zqg (m:=a_m.names) ztL e e hI q8 λt7=>zbe e (zkf (z:=((a_m.name,(([]:(List Str)) ++ a_m.names),(zaa.mk none ([]:(List Int))),([]:(List zg))):(Str × (List Str) × (zaa Int) × (List zg)))) e bu26 zqm (.cons zpk zw3 e hI (.cons zod zxz e zb9 .nil))) (rT e (zhB _ zqm λb9=>zo5 (zef) (zo5 (zef) (rT e (tS zpg e e p2 (a_m.name,([] ++ a_m.names),⟨none,[]⟩,[]) (zgP (hJ6 h (b9,none) 7))))))))


instance r10_Make_g a_m:zd Tryz.prog 16 (zgS a_m) (.mk [isv a_m] [] λr=>.mk [isv r.1,isv r.2.1,isv r.2.2] []):=⟨λr h=>by
 exact zs7 h⟩

section
attribute [local irreducible] isv zbn zar zbK zbu zeh zeA zgz zgk zdX zdG zcP zj zO zN cal br ck asr jp lp zs
instance oghamplay_Table_g za4:zd Tryz.prog 5 (zci za4) (.mk [isv za4] [] λr=>.mk [isv r.1,isv r.2] []):=by
 unfold zci
 exact W (.q 1 (.b .a (.b .a (.d 512 (.o 2 37 .a .a))))) Tryz.func5 e

end
section
attribute [local irreducible] isv zbn zar zbK zbu zeh zeA zgz zgk zdX zdG zcP zj zO zN cal br ck asr jp lp zs
instance oghamplay_Root_g a_t zfF:zd Tryz.prog 6 (zfr a_t zfF) (.mk [isv a_t,isv zfF] [] λr=>.mk [isv r.1,isv r.2] []):=by
 unfold zfr
 exact W (.b .a (.d 0 .a)) Tryz.func6 e

abbrev zlc (a_v:Val) (zbJ:Int):AC (Bool × Int):=.b λzeG=>.mk [isv a_v,zar zeG (Fld.id Int)] [zj zeG (zbJ:Int)] λr=>.mk [isv r.1] [zj zeG (r.2)]
theorem zsP {zkW:Val->Int->Option (Bool × Int)} [∀ a_v zbJ,zd Tryz.prog 29 (zkW a_v zbJ) (zlc a_v zbJ)] a_v zbJ:zd Tryz.prog 29 (zjR zkW a_v zbJ) (zlc a_v zbJ):=by
 unfold zjR
 exact W (.e (.v 0 (.v 1 (.v 2 (.v 5 (.v 6 (.v 7 (.v 8 (.v 10 (.v 11 (.v 12 (.t 3 (.v 4 (.v 9 (.v 13 (.v 14 (.t 15 .nil)))))))))))))))) (.k (.b 0 λzeG=>.m [true] (.v (λq6:Int × Int=>[(5,isv q6.1)]) λq6=>[zj zeG (q6.2:Int)])) (.o 0 32 (.b (.e (.v 0 (.v 1 (.v 2 (.v 4 (.v 5 (.v 6 (.v 7 (.v 8 (.v 9 (.v 10 (.v 11 (.t 3 (.v 12 (.v 13 (.t 14 .nil))))))))))))))) .a) (.b .a (.k (.b 0 λzeG=>.m [true] (.v (λq33:Int × Int=>[(6,isv q33.1)]) λq33=>[zj zeG (q33.2:Int)])) .a))) .a))) Tryz.func29 e
theorem zlE:∀ n,(∀ a_v zbJ,zd Tryz.prog 29 (zli n a_v zbJ) (zlc a_v zbJ))
 | 0=>λ_ _=>⟨λr h=>by cases h⟩
 | n + 1=>by
  have:=zlE n
  exact λa_v zbJ=>zsP (zkW:=zli n) a_v zbJ
instance h_small_g n a_v zbJ:zd Tryz.prog 29 (zli n a_v zbJ) (zlc a_v zbJ):=(zlE n) a_v zbJ

instance h_Small_g a_v zq4:zd Tryz.prog 11 (zmH a_v zq4) (.mk [isv a_v,isv zq4] [] λr=>.mk [isv r] []):=by
 unfold zmH
 exact W (.q 0 (.q 1 .a)) Tryz.func11 e

instance h_Bytes_g a_a a_b:zd Tryz.prog 25 (zmv a_a a_b) (.mk [isv a_a,isv a_b] [] λr=>.mk [isv r] []):=by
 unfold zmv
 exact W .a Tryz.func25 e

instance h_Raw_g a_a a_b:zd Tryz.prog 28 (zsw a_a a_b) (.mk [isv a_a,isv a_b] [] λr=>.mk [isv r] []):=by
 unfold zsw
 exact W (.o 1 16 .a .a) Tryz.func28 e

instance h_Same_api_Raw_g a_a a_b:zd Tryz.prog 27 (zgV a_a a_b) (.mk [isv a_a,isv a_b,zdX 28 []] [] λr=>.mk [isv r] []):=by
 unfold zgV
 exact W (.b .a (.l [7] (.b (.d 512 .a) .a))) Tryz.func27 e

abbrev zeZ (a_a:(List Val)) (a_b:(List Val)):AC (Bool):=.mk [isv a_a,isv a_b,zdX 10 []] [] λr=>.mk [isv r] []
abbrev zjE (a_a:Val) (a_b:Val):AC (Bool):=.mk [isv a_a,isv a_b] [] λr=>.mk [isv r] []
theorem zlr {zb4:(List Val)->(List Val)->Option (Bool)} {zfX:Val->Val->Option (Bool)} [∀ a_a a_b,zd Tryz.prog 26 (zb4 a_a a_b) (zeZ a_a a_b)] [∀ a_a a_b,zd Tryz.prog 10 (zfX a_a a_b) (zjE a_a a_b)] a_a a_b:zd Tryz.prog 26 (zd7 zb4 zfX a_a a_b) (zeZ a_a a_b):=by
 unfold zd7
 exact W (.b .a (.l [7] (.b (.d 512 .a) .a))) Tryz.func26 e
theorem ztv {zb4:(List Val)->(List Val)->Option (Bool)} {zfX:Val->Val->Option (Bool)} [∀ a_a a_b,zd Tryz.prog 26 (zb4 a_a a_b) (zeZ a_a a_b)] [∀ a_a a_b,zd Tryz.prog 10 (zfX a_a a_b) (zjE a_a a_b)] a_a a_b:zd Tryz.prog 10 (zjQ zb4 zfX a_a a_b) (zjE a_a a_b):=by
 unfold zjQ
 exact W (.o 29 16 (.o 22 23 (.o 15 30 (.o 8 37 (.o 1 44 .a .a) .a) .a) .a) .a) Tryz.func10 e
theorem zgI:∀ n,(∀ a_a a_b,zd Tryz.prog 26 (zeM n a_a a_b) (zeZ a_a a_b))/\(∀ a_a a_b,zd Tryz.prog 10 (zfJ n a_a a_b) (zjE a_a a_b))
 | 0=>⟨λ_ _=>⟨λr h=>by cases h⟩,λ_ _=>⟨λr h=>by cases h⟩⟩
 | n + 1=>by
  obtain ⟨h0,h1⟩:=zgI n
  exact ⟨λa_a a_b=>zlr (zb4:=zeM n) (zfX:=zfJ n) a_a a_b,λa_a a_b=>ztv (zb4:=zeM n) (zfX:=zfJ n) a_a a_b⟩
instance h_Value_g n a_a a_b:zd Tryz.prog 10 (zfJ n a_a a_b) (zjE a_a a_b):=(zgI n).2 a_a a_b

abbrev ziS (a_v:Val):AC (Int):=.mk [isv a_v] [] λr=>.mk [isv r] []
theorem zqT {ziv:Val->Option (Int)} [∀ a_v,zd Tryz.prog 32 (ziv a_v) (ziS a_v)] a_v:zd Tryz.prog 32 (zhs ziv a_v) (ziS a_v):=by
 unfold zhs
 exact W (.l [3,4] .a) Tryz.func32 e
theorem zkp:∀ n,(∀ a_v,zd Tryz.prog 32 (zhX n a_v) (ziS a_v))
 | 0=>λ_=>⟨λr h=>by cases h⟩
 | n + 1=>by
  have:=zkp n
  exact λa_v=>zqT (ziv:=zhX n) a_v
instance r12_Count_g n a_v:zd Tryz.prog 32 (zhX n a_v) (ziS a_v):=(zkp n) a_v

instance r11_there_g a_t a_i:zd Tryz.prog 164 (zlm a_t a_i) (.mk [isv a_t,isv a_i] [] λr=>.mk [isv r] []):=by
 unfold zlm
 exact W (.o 1 13 .a .a) Tryz.func164 e

end
end Go.Proofs.Q
