/- Walks, printed by mill.py and grow.py. -/
import Derived.Test.YthafpblconbjkaaGreatDoorNbI
set_option linter.unusedVariables false
set_option linter.unusedSimpArgs false
set_option maxRecDepth 4000
set_option maxHeartbeats 4000000
namespace Go.Proofs.Q
open Go.Sy
theorem ztC {a_m r} (h:zgS a_m=some r):Ctr Tryz.prog 16 [isv a_m] [] (Pt [isv r.1,isv r.2.1,isv r.2.2] []):=by
 unfold zgS at h
 refine zen Tryz.func16 e λw0 S0 hT=>ws (oT (tB e (oT (zhF _ ze26 λb1=>oa e (an e (ws (oV (zan ty50 e) (zav h λy2 hy2 h=>oT (tC (cw (P:=Tryz.prog) (f:=40) hy2) hT (s1 e) k0 (om e (oV (zlk e e) (oV (zlk e e) (oV (zlk e e) (oa e (oa e (an e (ss (om e (oV (zk2 e e) (rn (zcp h e (λ_ h=>?_) (λ_ h=>wk (ws (oV (zan ty50 e) (oV (zjX (z:=((a_m,(Vh.mk none 0),(0:Int)):zfr)) e bu101 zyI (.cons zpY zy2 e hI .nil)) (oT (zwH (y:=((a_m,(Vh.mk none 0),(0:Int)):zfr)) e hI λb3=>zbi (ziF (α:=zg)) (an e (zeL ?_)))))))))))))))))))))))))))))
 ·exact ws (oV (zjX (z:=(zab.mk (Str.mk []) ([]:(List Str)) ([]:(List Int)) ([]:(List zg)))) e bu26 ze26 .nil) (om e (om e (oT (tS zn2 e e p0 ⟨⟨[]⟩,[],[],[]⟩ (oa e (ar e (zhi (zdB (.cell e .here zn2 (.tmp e (.tmp e .nil))) k0 (iS h ▸ ⟨e,e⟩))))))))))
 refine jw h (Nat × Tok) (λq5 g5=>[(9,zar g5.1 (Fld.id (Str × (List Str) × (zZ Int) × (List zg))))]) (λq5 g5=>[zj g5.1 ((q5.name,q5.names,(zZ.mk g5.2 q5.roots),q5.types):(Str × (List Str) × (zZ Int) × (List zg))),zO g5.2]) k0 (λq5 g5 h=>?_) λJ6 h hJ6=>zeO (.v 0 (.v 1 (.v 2 (.v 3 (.alt 4 (.v 5 (.t 6 (.t 7 .nil))) (.t 6 (.t 4 (.v 5 (.t 7 .nil))))))))) zlE (by kernel_rfl) (zbd e (vI e zaB.f0 zAE a_m.name) (zbd e (zan ty9 e) (zbd e (vI e zaB.f2 zxQ a_m.names) (zbd e (zan ty22 e) (zbF h λq8 h=>zqJ ?_ (rT e (zhF _ zqE λb12=>zoD (zed) (rT e (zqj (m:=a_m.names) zt4 e e hI q8 λt14=>zbd e (zjX (z:=((a_m.name,(([]:(List Str)) ++ a_m.names),(zZ.mk none ([]:(List Int))),([]:(List zg))):(Str × (List Str) × (zZ Int) × (List zg)))) e bu26 zqE (.cons zot zv5 e hI (.cons zoi zwx e zb6 .nil))) (zoD (zed) (rT e (tS zn2 e e p3 (a_m.name,([] ++ a_m.names),⟨none,[]⟩,[]) (zgV (hJ6 h (b12,none) 7))))))))))))))
 ·refine ss (an e (zec (lP h (Tok × Vt) (g5.2,none) (λq16 g16=>[(10,isv q16.1)]) (λq16 g16=>[zj g5.1 ((q16.2.1.name,q16.2.1.names,(zZ.mk g16.1 q16.2.1.roots),q16.2.1.types):(Str × (List Str) × (zZ Int) × (List zg))),zO g16.1,zj b3 (zeT q16.2.2 g16.2),zM g16.2 (q16.2.2.l:List zg)]) (zel (j:=10) e hI zhG) (a0 (a0 (a1 k1))) λL17 q16 g16 Q50 h hL17 eL17 rL17=>ss (om e (oV (vI e zaB.f2 zxQ a_m.names) (oV (zan ty22 e) (oV (vN e sl22) (oV (zl3 e e) (rn (zcp h e (λ_ h=>?_) (λ_ h=>xn (eL17 _ _ (zeJ (zc7 (ws (om e (oV (zhd e) (oV (zpp e zpy zyS) (oT (zhh (R:=zbs g16.2 (q16.2.2.l.length)) ty24 e p2 ztH (oV (zpp e zsj zwj) (zbi (zhn 64 (.there (.there (.there .here))) e (by first | rfl | simp)) (oT (tS ty24 e e p0 (q16.2.1.name,q16.2.1.names,⟨g16.1,q16.2.1.roots⟩,q16.2.2.l) (rn (ws (oT (zhh (y:=((q16.2.1.name,q16.2.1.names,(zZ.mk g16.1 q16.2.1.roots),q16.2.2.l):(Str × (List Str) × (zZ Int) × (List zg)))) (R:=isv (((q16.2.1.name,q16.2.1.names,(zZ.mk g16.1 q16.2.1.roots),q16.2.2.l)):((Str × (List Str) × (zZ Int) × (List zg))))) zn2 e .here (by exact hI) (zbi (zbm (R':=isv ((zab.mk q16.2.1.name q16.2.1.names q16.2.1.roots q16.2.2.l))) 66 e (Cv.isv e λS=>(λcs h=>zab.cv (x:=(zab.mk q16.2.1.name q16.2.1.names q16.2.1.roots q16.2.2.l)) cs (((Cv.pair Cv.id (Cv.pair Cv.id (Cv.pair Cv.tl Cv.id))):Cv S ((q16.2.1.name,q16.2.1.names,(zZ.mk g16.1 q16.2.1.roots),q16.2.2.l):(Str × (List Str) × (zZ Int) × (List zg))) (zab.to (zab.mk q16.2.1.name q16.2.1.names q16.2.1.roots q16.2.2.l))) cs h)))) (oT (tS zn2 e e p3 ⟨q16.2.1.name,q16.2.1.names,q16.2.1.roots,q16.2.2.l⟩ (oa e ?_))))))))))))))))))))))))))))))))
  ·refine wk (zeL (zec (zeL (jw h (Tok × Vt) (λq34 g34=>[]) (λq34 g34=>[zj g5.1 ((q34.1.name,q34.1.names,(zZ.mk g34.1 q34.1.roots),q34.1.types):(Str × (List Str) × (zZ Int) × (List zg))),zO g34.1,zj b3 (zeT q34.2 g34.2),zM g34.2 (q34.2.l:List zg)]) (a0 (a1 k2)) (λq34 g34 h=>?_) λJ35 h hJ35=>zeO (.v 0 (.v 2 (.v 3 (.v 4 (.v 5 (.v 6 (.v 7 (.alt 1 (.t 8 (.t 9 (.t 10 (.v 11 (.t 12 .nil))))) (.t 8 (.alt 1 (.t 9 (.t 10 (.v 11 (.t 12 .nil)))) (.t 9 (.t 1 (.t 10 (.v 11 (.t 12 .nil))))))))))))))) zlE (by kernel_rfl) (zbd e (zpp e zkS zqt) (rm e e (zbd e (vI e zaB.f3 zAy a_m.types) (zbd e (zan zmP e) (rm e e (zav h λy36 hy36 h=>zbd e (vX e e zu5 hy36) (zbd e (zan ty3 e) (zav h λy37 hy37 h=>zbF h λq41 h=>zqJ ?_ (rT e (tC1 (cw (P:=Tryz.prog) (f:=41) hy37 _ _) hT (s3 e e e) (a2 (a2 k0)) (λv42=>zqJ ?_ (rT e (zcc (l:=([y37.1]:(List Int))) zqx (.cons e hI .nil) e e (rT e (zhh (R:=zbI g16.1 q16.2.1.roots) zmP e p2 zoZ (rT e (ziX (l:=q16.2.1.roots) (m:=([y37.1]:(List Int))) ziL e hI e zb6 (.there (.there (.there .here))) q41 λt46=>zbd e (zpp e zkS zqt) (rT e (tR zmP e e zrp p3 (q16.2.1.name,q16.2.1.names,⟨t46,(q16.2.1.roots ++ ([y37.1]:(List Int)))⟩,q16.2.1.types) e (zgV (hJ35 h (t46,v42) 12)))))))))))))))))))))))))
   ·refine ws (om e (oV (zhd e) (oV (zpp e zmI ztZ) (oT (tL ty37 e p2 q34.2.e (oV (zk2 e e) (rn (zcp h e (λ_ h=>?_) (λ_ h=>zm9 (zgu (zc7 (zdQ (om e (zfw h λq49 h=>oV (zpL e e q49) (oa e (zkX (hL17 h (g34.1,g34.2) 14)))))))))))))))))
    exact zeL (zxm 8 (.there (.there .here)) e (λo47 hn48=>zeO (.v 0 (.v 1 (.v 2 (.v 3 (.v 4 (.v 5 (.t 6 (.v 7 (.v 8 .nil))))))))) zlE (by kernel_rfl) (zbd e (zjX (z:=(zab.mk (Str.mk []) ([]:(List Str)) ([]:(List Int)) ([]:(List zg)))) e bu26 ze26 .nil) (rm e e (rm e e (zbd e (zng e) (zbd e (zBr e zmI ztZ) (zbd e (vP ty37 e m0 q34.2.e) (rT e (tS zn2 e e p3 ⟨⟨[]⟩,[],[],[]⟩ (zbd e (zjo e) (zbd e (zjo e) (zgV (zoA 8 hn48 e (zc7 (zoy (bn (rL17 _ (bn (zdB (.cell e (.there .here) zn2 (.tmp e (.tmp e .nil))) k0 (iS h ▸ ⟨e,e⟩)))))))))))))))))))))
   ·exact rT e (zhh (R:=zbI g16.1 q16.2.1.roots) zmP e p0 zoZ (rT e (tC1 (cw (P:=Tryz.prog) (f:=41) hy37 _ _) hT (s3 e e e) (a2 (a2 k0)) (λv38=>rT e (zcc (l:=([y37.1]:(List Int))) zqx (.cons e hI .nil) e e (rT e (ziX (l:=q16.2.1.roots) (m:=([y37.1]:(List Int))) ziL e hI e zb6 (.there (.there (.there .here))) q41 λt40=>zbd e (zpp e zkS zqt) (rT e (tR zmP e e zrp p3 (q16.2.1.name,q16.2.1.names,⟨t40,(q16.2.1.roots ++ ([y37.1]:(List Int)))⟩,q16.2.1.types) e (zgV (hJ35 h (t40,v38) 12)))))))))))
   exact rT e (zhh (R:=zbI g16.1 q16.2.1.roots) zmP e p2 zoZ (rT e (zcc (l:=([y37.1]:(List Int))) zqx (.cons e hI .nil) e e (rT e (ziX (l:=q16.2.1.roots) (m:=([y37.1]:(List Int))) ziL e hI e zb6 (.there (.there (.there .here))) q41 λt44=>zbd e (zpp e zkS zqt) (rT e (tR zmP e e zrp p3 (q16.2.1.name,q16.2.1.names,⟨t44,(q16.2.1.roots ++ ([y37.1]:(List Int)))⟩,q16.2.1.types) e (zgV (hJ35 h (t44,v42) 12)))))))))
  exact ar e (zdB (.cell e .here zn2 (.tmp e (.tmp e .nil))) k0 (iS h ▸ ⟨e,e⟩))
 exact rT e (zqj (m:=a_m.names) zt4 e e hI q8 λt7=>zbd e (zjX (z:=((a_m.name,(([]:(List Str)) ++ a_m.names),(zZ.mk none ([]:(List Int))),([]:(List zg))):(Str × (List Str) × (zZ Int) × (List zg)))) e bu26 zqE (.cons zot zv5 e hI (.cons zoi zwx e zb6 .nil))) (rT e (zhF _ zqE λb9=>zoD (zed) (zoD (zed) (rT e (tS zn2 e e p2 (a_m.name,([] ++ a_m.names),⟨none,[]⟩,[]) (zgV (hJ6 h (b9,none) 7))))))))


instance r10_Make_g a_m:zd Tryz.prog 16 (zgS a_m) (.mk [isv a_m] [] λr=>.mk [isv r.1,isv r.2.1,isv r.2.2] []):=⟨λr h=>by
 exact ztC h⟩

section
attribute [local irreducible] isv zbl zar zbI zbs zef zez zgw zgg zdV zdE zcO zj zO zM cal br ck asr jp lp zs
instance oghamplay_Table_g za3:zd Tryz.prog 5 (zcg za3) (.mk [isv za3] [] λr=>.mk [isv r.1,isv r.2] []):=by
 unfold zcg
 exact W (.q 1 (.b .a (.b .a (.d 512 (.o 2 37 .a .a))))) Tryz.func5 e

end
section
attribute [local irreducible] isv zbl zar zbI zbs zef zez zgw zgg zdV zdE zcO zj zO zM cal br ck asr jp lp zs
instance oghamplay_Root_g a_t zfH:zd Tryz.prog 6 (zfj a_t zfH) (.mk [isv a_t,isv zfH] [] λr=>.mk [isv r.1,isv r.2] []):=by
 unfold zfj
 exact W (.b .a (.d 0 .a)) Tryz.func6 e

abbrev zle (a_v:Val) (zbz:Int):AC (Bool × Int):=.b λzeF=>.mk [isv a_v,zar zeF (Fld.id Int)] [zj zeF (zbz:Int)] λr=>.mk [isv r.1] [zj zeF (r.2)]
theorem zsO {zkL:Val->Int->Option (Bool × Int)} [∀ a_v zbz,zd Tryz.prog 29 (zkL a_v zbz) (zle a_v zbz)] a_v zbz:zd Tryz.prog 29 (zjD zkL a_v zbz) (zle a_v zbz):=by
 unfold zjD
 exact W (.e (.v 0 (.v 1 (.v 2 (.v 5 (.v 6 (.v 7 (.v 8 (.v 10 (.v 11 (.v 12 (.t 3 (.v 4 (.v 9 (.v 13 (.v 14 (.t 15 .nil)))))))))))))))) (.k (.b 0 λzeF=>.m [true] (.v (λq6:Int × Int=>[(5,isv q6.1)]) λq6=>[zj zeF (q6.2:Int)])) (.o 0 32 (.b (.e (.v 0 (.v 1 (.v 2 (.v 4 (.v 5 (.v 6 (.v 7 (.v 8 (.v 9 (.v 10 (.v 11 (.t 3 (.v 12 (.v 13 (.t 14 .nil))))))))))))))) .a) (.b .a (.k (.b 0 λzeF=>.m [true] (.v (λq33:Int × Int=>[(6,isv q33.1)]) λq33=>[zj zeF (q33.2:Int)])) .a))) .a))) Tryz.func29 e
theorem zlB:∀ n,(∀ a_v zbz,zd Tryz.prog 29 (zk6 n a_v zbz) (zle a_v zbz))
 | 0=>λ_ _=>⟨λr h=>by cases h⟩
 | n + 1=>by
  have:=zlB n
  exact λa_v zbz=>zsO (zkL:=zk6 n) a_v zbz
instance h_small_g n a_v zbz:zd Tryz.prog 29 (zk6 n a_v zbz) (zle a_v zbz):=(zlB n) a_v zbz

instance h_Small_g a_v zq1:zd Tryz.prog 11 (zmC a_v zq1) (.mk [isv a_v,isv zq1] [] λr=>.mk [isv r] []):=by
 unfold zmC
 exact W (.q 0 (.q 1 .a)) Tryz.func11 e

instance h_Bytes_g a_a a_b:zd Tryz.prog 25 (zl6 a_a a_b) (.mk [isv a_a,isv a_b] [] λr=>.mk [isv r] []):=by
 unfold zl6
 exact W .a Tryz.func25 e

instance h_Raw_g a_a a_b:zd Tryz.prog 28 (zrh a_a a_b) (.mk [isv a_a,isv a_b] [] λr=>.mk [isv r] []):=by
 unfold zrh
 exact W (.o 1 16 .a .a) Tryz.func28 e

instance h_Same_api_Raw_g a_a a_b:zd Tryz.prog 27 (zgT a_a a_b) (.mk [isv a_a,isv a_b,zdV 28 []] [] λr=>.mk [isv r] []):=by
 unfold zgT
 exact W (.b .a (.l [7] (.b (.d 512 .a) .a))) Tryz.func27 e

abbrev zeR (a_a:(List Val)) (a_b:(List Val)):AC (Bool):=.mk [isv a_a,isv a_b,zdV 10 []] [] λr=>.mk [isv r] []
abbrev zjm (a_a:Val) (a_b:Val):AC (Bool):=.mk [isv a_a,isv a_b] [] λr=>.mk [isv r] []
theorem zlp {zb0:(List Val)->(List Val)->Option (Bool)} {zfU:Val->Val->Option (Bool)} [∀ a_a a_b,zd Tryz.prog 26 (zb0 a_a a_b) (zeR a_a a_b)] [∀ a_a a_b,zd Tryz.prog 10 (zfU a_a a_b) (zjm a_a a_b)] a_a a_b:zd Tryz.prog 26 (zd3 zb0 zfU a_a a_b) (zeR a_a a_b):=by
 unfold zd3
 exact W (.b .a (.l [7] (.b (.d 512 .a) .a))) Tryz.func26 e
theorem ztu {zb0:(List Val)->(List Val)->Option (Bool)} {zfU:Val->Val->Option (Bool)} [∀ a_a a_b,zd Tryz.prog 26 (zb0 a_a a_b) (zeR a_a a_b)] [∀ a_a a_b,zd Tryz.prog 10 (zfU a_a a_b) (zjm a_a a_b)] a_a a_b:zd Tryz.prog 10 (zjA zb0 zfU a_a a_b) (zjm a_a a_b):=by
 unfold zjA
 exact W (.o 29 16 (.o 22 23 (.o 15 30 (.o 8 37 (.o 1 44 .a .a) .a) .a) .a) .a) Tryz.func10 e
theorem zgE:∀ n,(∀ a_a a_b,zd Tryz.prog 26 (zeD n a_a a_b) (zeR a_a a_b))/\(∀ a_a a_b,zd Tryz.prog 10 (zfE n a_a a_b) (zjm a_a a_b))
 | 0=>⟨λ_ _=>⟨λr h=>by cases h⟩,λ_ _=>⟨λr h=>by cases h⟩⟩
 | n + 1=>by
  obtain ⟨h0,h1⟩:=zgE n
  exact ⟨λa_a a_b=>zlp (zb0:=zeD n) (zfU:=zfE n) a_a a_b,λa_a a_b=>ztu (zb0:=zeD n) (zfU:=zfE n) a_a a_b⟩
instance h_Value_g n a_a a_b:zd Tryz.prog 10 (zfE n a_a a_b) (zjm a_a a_b):=(zgE n).2 a_a a_b

abbrev ziS (a_v:Val):AC (Int):=.mk [isv a_v] [] λr=>.mk [isv r] []
theorem zqz {zid:Val->Option (Int)} [∀ a_v,zd Tryz.prog 32 (zid a_v) (ziS a_v)] a_v:zd Tryz.prog 32 (zhm zid a_v) (ziS a_v):=by
 unfold zhm
 exact W (.l [3,4] .a) Tryz.func32 e
theorem zki:∀ n,(∀ a_v,zd Tryz.prog 32 (zhU n a_v) (ziS a_v))
 | 0=>λ_=>⟨λr h=>by cases h⟩
 | n + 1=>by
  have:=zki n
  exact λa_v=>zqz (zid:=zhU n) a_v
instance r12_Count_g n a_v:zd Tryz.prog 32 (zhU n a_v) (ziS a_v):=(zki n) a_v

instance r11_there_g a_t a_i:zd Tryz.prog 164 (zlg a_t a_i) (.mk [isv a_t,isv a_i] [] λr=>.mk [isv r] []):=by
 unfold zlg
 exact W (.o 1 13 .a .a) Tryz.func164 e

end
end Go.Proofs.Q
