/- Walks, printed by mill.py and grow.py. -/
import Derived.Test.YthafpblconbjkaaGreatDoorPqI
set_option linter.unusedVariables false
set_option linter.unusedSimpArgs false
set_option maxRecDepth 4000
set_option maxHeartbeats 4000000
namespace Go.Proofs.Q
open Go.Sy
theorem zsE {a_m r} (h:zhl a_m=some r):Ctr Tryz.prog 16 [isv a_m] [] (Pt [isv r.1,isv r.2.1,isv r.2.2] []):=by
 unfold zhl at h
 refine zeu Tryz.func16 e λw0 S0 hT=>ws (oT (tB e (oT (zhZ _ ze26 λb1=>oa e (an e (ws (oV (zao ty50 e) (zat h λy2 hy2 h=>oT (tC (cw (P:=Tryz.prog) (f:=40) hy2) hT (s1 e) k0 (om e (oV (zle e e) (oV (zle e e) (oV (zle e e) (oa e (oa e (an e (ss (om e (oV (zkK e e) (rn (zcu h e (λ_ h=>?_) (λ_ h=>wk (ws (oV (zao ty50 e) (oV (zj5 (z:=((a_m,(Vh.mk none 0),(0:Int)):zfy)) e bu101 zxg (.cons zo8 zx6 e hI .nil)) (oT (zva (y:=((a_m,(Vh.mk none 0),(0:Int)):zfy)) e hI λb3=>zbj (ziX (α:=zg)) (an e (zeT ?_)))))))))))))))))))))))))))))
 ·exact ws (oV (zj5 (z:=(zZ.mk (Str.mk []) ([]:(List Str)) ([]:(List Int)) ([]:(List zg)))) e bu26 ze26 .nil) (om e (om e (oT (tS zoz e e p0 ⟨⟨[]⟩,[],[],[]⟩ (oa e (ar e (zhD (zdy (.cell e .here zoz (.tmp e (.tmp e .nil))) k0 (iS h ▸ ⟨e,e⟩))))))))))
 refine jw h (Nat × Tok) (λq5 g5=>[(9,zal g5.1 (Fld.id (Str × (List Str) × (zaa Int) × (List zg))))]) (λq5 g5=>[zj g5.1 ((q5.name,q5.names,(zaa.mk g5.2 q5.roots),q5.types):(Str × (List Str) × (zaa Int) × (List zg))),zO g5.2]) k0 (λq5 g5 h=>?_) λJ6 h hJ6=>zeU (.v 0 (.v 1 (.v 2 (.v 3 (.alt 4 (.v 5 (.t 6 (.t 7 .nil))) (.t 6 (.t 4 (.v 5 (.t 7 .nil))))))))) zlA (by kernel_rfl) (zbe e (vI e zaA.f0 zyS a_m.name) (zbe e (zao ty9 e) (zbe e (vI e zaA.f2 zu3 a_m.names) (zbe e (zao ty22 e) (zbC h λq8 h=>zpY ?_ (rT e (zhZ _ zqz λb12=>znR (zel) (rT e (zp8 (m:=a_m.names) zs8 e e hI q8 λt14=>zbe e (zj5 (z:=((a_m.name,(([]:(List Str)) ++ a_m.names),(zaa.mk none ([]:(List Int))),([]:(List zg))):(Str × (List Str) × (zaa Int) × (List zg)))) e bu26 zqz (.cons zog zvh e hI (.cons zoe zwL e zb7 .nil))) (znR (zel) (rT e (tS zoz e e p3 (a_m.name,([] ++ a_m.names),⟨none,[]⟩,[]) (zg5 (hJ6 h (b12,none) 7))))))))))))))
 ·refine ss (an e (zej (lP h (Tok × Vt) (g5.2,none) (λq16 g16=>[(10,isv q16.1)]) (λq16 g16=>[zj g5.1 ((q16.2.1.name,q16.2.1.names,(zaa.mk g16.1 q16.2.1.roots),q16.2.1.types):(Str × (List Str) × (zaa Int) × (List zg))),zO g16.1,zj b3 (zfa q16.2.2 g16.2),zI g16.2 (q16.2.2.l:List zg)]) (zev (j:=10) e hI zh4) (a0 (a0 (a1 k1))) λL17 q16 g16 Q50 h hL17 eL17 rL17=>ss (om e (oV (vI e zaA.f2 zu3 a_m.names) (oV (zao ty22 e) (oV (vN e sl22) (oV (zmh e e) (rn (zcu h e (λ_ h=>?_) (λ_ h=>xn (eL17 _ _ (zeR (zc7 (ws (om e (oV (zhC e) (oV (zo0 e zpi zx3) (oT (zhE (R:=zbw g16.2 (q16.2.2.l.length)) ty24 e p2 zs1 (oV (zo0 e zrR zwk) (zbj (zhK 64 (.there (.there (.there .here))) e (by first | rfl | simp)) (oT (tS ty24 e e p0 (q16.2.1.name,q16.2.1.names,⟨g16.1,q16.2.1.roots⟩,q16.2.2.l) (rn (ws (oT (zhE (y:=((q16.2.1.name,q16.2.1.names,(zaa.mk g16.1 q16.2.1.roots),q16.2.2.l):(Str × (List Str) × (zaa Int) × (List zg)))) (R:=isv (((q16.2.1.name,q16.2.1.names,(zaa.mk g16.1 q16.2.1.roots),q16.2.2.l)):((Str × (List Str) × (zaa Int) × (List zg))))) zoz e .here (by exact hI) (zbj (zbp (R':=isv ((zZ.mk q16.2.1.name q16.2.1.names q16.2.1.roots q16.2.2.l))) 66 e (Cv.isv e λS=>(λcs h=>zZ.cv (x:=(zZ.mk q16.2.1.name q16.2.1.names q16.2.1.roots q16.2.2.l)) cs (((Cv.pair Cv.id (Cv.pair Cv.id (Cv.pair Cv.tl Cv.id))):Cv S ((q16.2.1.name,q16.2.1.names,(zaa.mk g16.1 q16.2.1.roots),q16.2.2.l):(Str × (List Str) × (zaa Int) × (List zg))) (zZ.to (zZ.mk q16.2.1.name q16.2.1.names q16.2.1.roots q16.2.2.l))) cs h)))) (oT (tS zoz e e p3 ⟨q16.2.1.name,q16.2.1.names,q16.2.1.roots,q16.2.2.l⟩ (oa e ?_))))))))))))))))))))))))))))))))
  ·refine wk (zeT (zej (zeT (jw h (Tok × Vt) (λq34 g34=>[]) (λq34 g34=>[zj g5.1 ((q34.1.name,q34.1.names,(zaa.mk g34.1 q34.1.roots),q34.1.types):(Str × (List Str) × (zaa Int) × (List zg))),zO g34.1,zj b3 (zfa q34.2 g34.2),zI g34.2 (q34.2.l:List zg)]) (a0 (a1 k2)) (λq34 g34 h=>?_) λJ35 h hJ35=>zeU (.v 0 (.v 2 (.v 3 (.v 4 (.v 5 (.v 6 (.v 7 (.alt 1 (.t 8 (.t 9 (.t 10 (.v 11 (.t 12 .nil))))) (.t 8 (.alt 1 (.t 9 (.t 10 (.v 11 (.t 12 .nil)))) (.t 9 (.t 1 (.t 10 (.v 11 (.t 12 .nil))))))))))))))) zlA (by kernel_rfl) (zbe e (zo0 e zkz zpU) (rm e e (zbe e (vI e zaA.f3 zyN a_m.types) (zbe e (zao zmU e) (rm e e (zat h λy36 hy36 h=>zbe e (vX e e zuR hy36) (zbe e (zao ty3 e) (zat h λy37 hy37 h=>zbC h λq41 h=>zpY ?_ (rT e (tC1 (cw (P:=Tryz.prog) (f:=41) hy37 _ _) hT (s3 e e e) (a2 (a2 k0)) (λv42=>zpY ?_ (rT e (zcj (l:=([y37.1]:(List Int))) zp7 (.cons e hI .nil) e e (rT e (zhE (R:=zbK g16.1 q16.2.1.roots) zmU e p2 zoL (rT e (zjf (l:=q16.2.1.roots) (m:=([y37.1]:(List Int))) ziS e hI e zb7 (.there (.there (.there .here))) q41 λt46=>zbe e (zo0 e zkz zpU) (rT e (tR zmU e e zr2 p3 (q16.2.1.name,q16.2.1.names,⟨t46,(q16.2.1.roots ++ ([y37.1]:(List Int)))⟩,q16.2.1.types) e (zg5 (hJ35 h (t46,v42) 12)))))))))))))))))))))))))
   ·refine ws (om e (oV (zhC e) (oV (zo0 e zmO zs6) (oT (tL ty37 e p2 q34.2.e (oV (zkK e e) (rn (zcu h e (λ_ h=>?_) (λ_ h=>zm5 (zgB (zc7 (zdU (om e (zfx h λq49 h=>oV (zpl e e q49) (oa e (zkU (hL17 h (g34.1,g34.2) 14)))))))))))))))))
    exact zeT (zvi 8 (.there (.there .here)) e (λo47 hn48=>zeU (.v 0 (.v 1 (.v 2 (.v 3 (.v 4 (.v 5 (.t 6 (.v 7 (.v 8 .nil))))))))) zlA (by kernel_rfl) (zbe e (zj5 (z:=(zZ.mk (Str.mk []) ([]:(List Str)) ([]:(List Int)) ([]:(List zg)))) e bu26 ze26 .nil) (rm e e (rm e e (zbe e (zna e) (zbe e (zzQ e zmO zs6) (zbe e (vP ty37 e m0 q34.2.e) (rT e (tS zoz e e p3 ⟨⟨[]⟩,[],[],[]⟩ (zbe e (zjD e) (zbe e (zjD e) (zg5 (znK 8 hn48 e (zc7 (znZ (bn (rL17 _ (bn (zdy (.cell e (.there .here) zoz (.tmp e (.tmp e .nil))) k0 (iS h ▸ ⟨e,e⟩)))))))))))))))))))))
   ·exact rT e (zhE (R:=zbK g16.1 q16.2.1.roots) zmU e p0 zoL (rT e (tC1 (cw (P:=Tryz.prog) (f:=41) hy37 _ _) hT (s3 e e e) (a2 (a2 k0)) (λv38=>rT e (zcj (l:=([y37.1]:(List Int))) zp7 (.cons e hI .nil) e e (rT e (zjf (l:=q16.2.1.roots) (m:=([y37.1]:(List Int))) ziS e hI e zb7 (.there (.there (.there .here))) q41 λt40=>zbe e (zo0 e zkz zpU) (rT e (tR zmU e e zr2 p3 (q16.2.1.name,q16.2.1.names,⟨t40,(q16.2.1.roots ++ ([y37.1]:(List Int)))⟩,q16.2.1.types) e (zg5 (hJ35 h (t40,v38) 12)))))))))))
   exact rT e (zhE (R:=zbK g16.1 q16.2.1.roots) zmU e p2 zoL (rT e (zcj (l:=([y37.1]:(List Int))) zp7 (.cons e hI .nil) e e (rT e (zjf (l:=q16.2.1.roots) (m:=([y37.1]:(List Int))) ziS e hI e zb7 (.there (.there (.there .here))) q41 λt44=>zbe e (zo0 e zkz zpU) (rT e (tR zmU e e zr2 p3 (q16.2.1.name,q16.2.1.names,⟨t44,(q16.2.1.roots ++ ([y37.1]:(List Int)))⟩,q16.2.1.types) e (zg5 (hJ35 h (t44,v42) 12)))))))))
  exact ar e (zdy (.cell e .here zoz (.tmp e (.tmp e .nil))) k0 (iS h ▸ ⟨e,e⟩))
 exact rT e (zp8 (m:=a_m.names) zs8 e e hI q8 λt7=>zbe e (zj5 (z:=((a_m.name,(([]:(List Str)) ++ a_m.names),(zaa.mk none ([]:(List Int))),([]:(List zg))):(Str × (List Str) × (zaa Int) × (List zg)))) e bu26 zqz (.cons zog zvh e hI (.cons zoe zwL e zb7 .nil))) (rT e (zhZ _ zqz λb9=>znR (zel) (znR (zel) (rT e (tS zoz e e p2 (a_m.name,([] ++ a_m.names),⟨none,[]⟩,[]) (zg5 (hJ6 h (b9,none) 7))))))))


instance r10_Make_g a_m:zd Tryz.prog 16 (zhl a_m) (.mk [isv a_m] [] λr=>.mk [isv r.1,isv r.2.1,isv r.2.2] []):=⟨λr h=>by
 exact zsE h⟩

section
attribute [local irreducible] isv zbn zal zbK zbw zem zeI zgQ zf1 zdV zdI zcO zj zO zI cal br ck asr jp lp zq
instance oghamplay_Table_g zaZ:zd Tryz.prog 5 (zck zaZ) (.mk [isv zaZ] [] λr=>.mk [isv r.1,isv r.2] []):=by
 unfold zck
 exact W (.q 1 (.b .a (.b .a (.d 512 (.o 2 37 .a .a))))) Tryz.func5 e

end
section
attribute [local irreducible] isv zbn zal zbK zbw zem zeI zgQ zf1 zdV zdI zcO zj zO zI cal br ck asr jp lp zq
instance oghamplay_Root_g a_t zfS:zd Tryz.prog 6 (zfK a_t zfS) (.mk [isv a_t,isv zfS] [] λr=>.mk [isv r.1,isv r.2] []):=by
 unfold zfK
 exact W (.b .a (.d 0 .a)) Tryz.func6 e

instance h_Bytes_g a_a a_b:zd Tryz.prog 25 (zms a_a a_b) (.mk [isv a_a,isv a_b] [] λr=>.mk [isv r] []):=by
 unfold zms
 exact W .a Tryz.func25 e

instance h_Raw_g a_a a_b:zd Tryz.prog 28 (zqV a_a a_b) (.mk [isv a_a,isv a_b] [] λr=>.mk [isv r] []):=by
 unfold zqV
 exact W (.o 1 16 .a .a) Tryz.func28 e

instance h_Same_api_Raw_g a_a a_b:zd Tryz.prog 27 (zg0 a_a a_b) (.mk [isv a_a,isv a_b,zdV 28 []] [] λr=>.mk [isv r] []):=by
 unfold zg0
 exact W (.b .a (.l [7] (.b (.d 512 .a) .a))) Tryz.func27 e

abbrev ze7 (a_a:(List Val)) (a_b:(List Val)):AC (Bool):=.mk [isv a_a,isv a_b,zdV 10 []] [] λr=>.mk [isv r] []
abbrev zjH (a_a:Val) (a_b:Val):AC (Bool):=.mk [isv a_a,isv a_b] [] λr=>.mk [isv r] []
theorem zlr {zb3:(List Val)->(List Val)->Option (Bool)} {zge:Val->Val->Option (Bool)} [∀ a_a a_b,zd Tryz.prog 26 (zb3 a_a a_b) (ze7 a_a a_b)] [∀ a_a a_b,zd Tryz.prog 10 (zge a_a a_b) (zjH a_a a_b)] a_a a_b:zd Tryz.prog 26 (zee zb3 zge a_a a_b) (ze7 a_a a_b):=by
 unfold zee
 exact W (.b .a (.l [7] (.b (.d 512 .a) .a))) Tryz.func26 e
theorem zsb {zb3:(List Val)->(List Val)->Option (Bool)} {zge:Val->Val->Option (Bool)} [∀ a_a a_b,zd Tryz.prog 26 (zb3 a_a a_b) (ze7 a_a a_b)] [∀ a_a a_b,zd Tryz.prog 10 (zge a_a a_b) (zjH a_a a_b)] a_a a_b:zd Tryz.prog 10 (zjp zb3 zge a_a a_b) (zjH a_a a_b):=by
 unfold zjp
 exact W (.o 29 16 (.o 22 23 (.o 15 30 (.o 8 37 (.o 1 44 .a .a) .a) .a) .a) .a) Tryz.func10 e
theorem zg3:∀ n,(∀ a_a a_b,zd Tryz.prog 26 (zeQ n a_a a_b) (ze7 a_a a_b))/\(∀ a_a a_b,zd Tryz.prog 10 (zg4 n a_a a_b) (zjH a_a a_b))
 | 0=>⟨λ_ _=>⟨λr h=>by cases h⟩,λ_ _=>⟨λr h=>by cases h⟩⟩
 | n + 1=>by
  obtain ⟨h0,h1⟩:=zg3 n
  exact ⟨λa_a a_b=>zlr (zb3:=zeQ n) (zge:=zg4 n) a_a a_b,λa_a a_b=>zsb (zb3:=zeQ n) (zge:=zg4 n) a_a a_b⟩
instance h_Value_g n a_a a_b:zd Tryz.prog 10 (zg4 n a_a a_b) (zjH a_a a_b):=(zg3 n).2 a_a a_b

abbrev zi3 (a_v:Val):AC (Int):=.mk [isv a_v] [] λr=>.mk [isv r] []
theorem zqg {zij:Val->Option (Int)} [∀ a_v,zd Tryz.prog 32 (zij a_v) (zi3 a_v)] a_v:zd Tryz.prog 32 (zhR zij a_v) (zi3 a_v):=by
 unfold zhR
 exact W (.l [3,4] .a) Tryz.func32 e
theorem zko:∀ n,(∀ a_v,zd Tryz.prog 32 (zh8 n a_v) (zi3 a_v))
 | 0=>λ_=>⟨λr h=>by cases h⟩
 | n + 1=>by
  have:=zko n
  exact λa_v=>zqg (zij:=zh8 n) a_v
instance r12_Count_g n a_v:zd Tryz.prog 32 (zh8 n a_v) (zi3 a_v):=(zko n) a_v

instance r11_there_g a_t a_i:zd Tryz.prog 164 (zlb a_t a_i) (.mk [isv a_t,isv a_i] [] λr=>.mk [isv r] []):=by
 unfold zlb
 exact W (.o 1 13 .a .a) Tryz.func164 e

end
end Go.Proofs.Q
