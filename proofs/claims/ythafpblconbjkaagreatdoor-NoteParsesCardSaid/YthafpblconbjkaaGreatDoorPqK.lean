/- Walks, printed by mill.py and grow.py. -/
import Derived.Test.YthafpblconbjkaaGreatDoorPqJ
set_option linter.unusedVariables false
set_option linter.unusedSimpArgs false
set_option maxRecDepth 4000
set_option maxHeartbeats 4000000
namespace Go.Proofs.Q
open Go.Sy
theorem zq7 {a_t a_i r} (h:zgM a_t a_i=some r):Ctr Tryz.prog 128 [isv a_t,isv a_i] [] (Pt [isv r] []):=by
 unfold zgM at h
 refine zeu Tryz.func128 e λw0 S0 hT=>ws (oT (tB e (oa e (zbj (zel) (zbj (ziX (α:=NL Int)) (zbj (zbp 4 e zlv) (rn (ss (oV (zao zoz e) (om e (zat h λy3 hy3 h=>oT (tC (cw (P:=Tryz.prog) (f:=164) hy3) hT (s2 e e) k0 (oV (zvI e) (rn (zcu h e (λ_ h=>?_) (λ_ h=>wk (ws (oV (vI e zZ.f3 zwk a_t.types) (oV (zao ty24 e) (om e (zat h λy6 hy6 h=>oV (vX e e sl24 hy6) (oV (zao zvL e) (oT (zhZ _ zyB λb7=>oT (tS zvL e e p0 y6 (zbj (zns 5 .here e) (rn (ss (oV (vI e zg.f0 ziT y6.kind) ?_)))))))))))))))))))))))))))))
 ·exact ws (oa e (zbj (zel) (zbj (ziX (α:=NL Int)) (zbj (zbp 4 e zlv) (rn (znZ (zhD (zg1 (zhK 4 .here e (by first | rfl | simp)) (zg1 (zbp 4 e (zk8 (t:=none) (L:=(([]:(List (List Int))):List (List Int))))) (zdy (r1 e) k0 (iS h ▸ ⟨e,e⟩)))))))))))
 refine oV (zao ty3 e) (oV (zkK e e) (om e (jO 4 25 h (λq8 h=>?_) λJ9 h hJ9=>oI h (λg10 h=>?_) λg10 h=>oN g10 (oN g10 (oN g10 (oV (zcb e g10 e) (hJ9 h 4)))))))
 ·refine om e (jO 4 30 h (λq11 h=>?_) λJ12 h hJ12=>oI h (λg13 h=>?_) λg13 h=>oN g13 (oN g13 (oN g13 (oV (zcb e g13 e) (hJ12 h 4)))))
  ·refine rn (zcu h e (λ_ h=>?_) (λ_ h=>wk (ws (oa e (zbj (zel) (zbj (ziX (α:=NL Int)) (zbj (zbp 6 e zlv) (rn (ss (oV (vI e zg.f5 zqs y6.root) (oV (zao ty3 e) (an e (zej (lP h (Vt × Tok) (none,none) (λq18 g18=>[(6,zbw g18.1 (q18.1.length)),(7,isv q18.2)]) (λq18 g18=>[zI g18.1 (zgf g18.2 (q18.1:List (List Int))),zO g18.2]) (zev (j:=6) e (ziH (by first | rfl | simp)) (zev (j:=7) e hI zh4)) k2 λL19 q18 g18 Q78 h hL19 eL19 rL19=>ss (om e (oV (vI e zg.f4 zlk y6.fields) (oV (zao zo4 e) (oV (vN e zpy) (oV (zmh e e) (rn (zcu h e (λ_ h=>?_) (λ_ h=>xn (eL19 _ _ (zeR (zc7 (ws (om e (ar e ?_))))))))))))))))))))))))))))
   ·exact ws (oa e (zbj (zel) (zbj (ziX (α:=NL Int)) (zbj (zbp 4 e zlv) (rn (znZ (zhD (zg1 (zhK 4 .here e (by first | rfl | simp)) (zg1 (zbp 4 e (zk8 (t:=none) (L:=(([]:(List (List Int))):List (List Int))))) (zdy (r1 e) k0 (iS h ▸ ⟨e,e⟩)))))))))))
   ·refine wk (zeT (jw h (Vt × Tok) (λq49 g49=>[(6,zbw g49.1 (q49.length))]) (λq49 g49=>[zI g49.1 (zgf g49.2 (q49:List (List Int))),zO g49.2]) k2 (λq49 g49 h=>?_) λJ50 h hJ50=>zej (ws (oV (vI e zg.f4 zlk y6.fields) (oV (zao zo4 e) (om e (zat h λy51 hy51 h=>oV (vX e e zpy hy51) (oV (vI e zaF.f5 znA y51.group) (oV (zao ty3 e) (an e (ws (oV (vI e zg.f0 ziT y6.kind) (oV (zao ty3 e) (oV (zkK e e) (om e (jO 3 52 h (λq52 h=>?_) λJ53 h hJ53=>oI h (λg54 h=>?_) λg54 h=>oN g54 (oN g54 (oV (zcb e g54 e) (hJ53 h 3)))))))))))))))))))
    ·exact zdU (om e (zfx h λq77 h=>oV (zpl e e q77) (oa e (zkU (hL19 h (g49.1,g49.2) 11)))))
    ·refine om e (jO 5 58 h (λq55 h=>?_) λJ56 h hJ56=>oI h (λg57 h=>?_) λg57 h=>oN g57 (oN g57 (oN g57 (oN g57 (oV (zcb e g57 e) (hJ56 h 5))))))
     ·refine om e (jO 10 69 h (λq58 h=>?_) λJ59 h hJ59=>oI h (λg60 h=>?_) λg60 h=>oN g60 (oN g60 (oN g60 (oN g60 (oN g60 (oN g60 (oN g60 (oN g60 (oN g60 (oV (zcb e g60 e) (hJ59 h 10)))))))))))
      ·refine rn (zcu h e (λ_ h=>?_) (λ_ h=>zdU (om e (om e (oT (zcj (l:=([q18.2]:(List Int))) zp7 (.cons e hI .nil) e e (zbj (zel) (oT (zcj (l:=[NL.mk (([q18.2]:(List Int))) (some none)]) zyr (.cons e zql .nil) e e (zbC h λq76 h=>oT (zqy (m:=[NL.mk (([q18.2]:(List Int))) (some none)]) zpA e e zb7 (.there .here) (by first | rfl | simp) (by rw [zfT];exact q76) λv75=>zbj (zqN .here) (zbj (zbp (R':=zbw v75 (q18.1 ++ [([q18.2]:(List Int))]).length) 88 e (ziH (by simp))) (oa e (rb (hJ50 h (v75,none) 23)))))))))))))))
       refine zdU (om e (om e (oV (zoK zmg e) (zfx h λq63 h=>oV (zpH e e q63) (om e (om e (oV (zoK zmg e) (zfx h λq64 h=>oV (zpH e e q64) (zcf h λq65 h=>oV (zmV (α:=NL Int) zmg e e q65.1 q65.2) (zcf h λq66 h=>zat h λy67 hy67 h=>oT (znt zmU e .here (zip q66 hy67) (zbj (zbp 79 e zv5) (om e (oT (zcj (l:=([q18.2]:(List Int))) zp7 (.cons e hI .nil) e e (zbC h λq70 h=>oT (zjf (l:=y67) (m:=([q18.2]:(List Int))) ziS e hI e zb7 (.there .here) q70 λt69=>zcf h λq71 h=>oV (zmV (α:=NL Int) zmg e e q71.1 q71.2) (zcf h λq72 h=>zat h λy73 hy73 h=>zbj (zbp 82 e zql) (oT (zoJ zmU e e (.there .here) (zip q72 hy73) (zbj (zrV .here (zmH q72)) (zbj (zbp (R':=zbw g18.1 (q18.1.set ((((q18.1.length:Nat):Int) - (1:Int)).toNat) (y67 ++ ([q18.2]:(List Int)))).length) 6 e (ziH (by simp))) (zbj (zbp (R':=zbw g18.1 (q18.1.set ((((q18.1.length:Nat):Int) - (1:Int)).toNat) (y67 ++ ([q18.2]:(List Int)))).length) 70 e (ziH (by simp))) ?_)))))))))))))))))))))))
       exact zbj (zbp (R':=zbw g18.1 (q18.1.set ((((q18.1.length:Nat):Int) - (1:Int)).toNat) (y67 ++ ([q18.2]:(List Int)))).length) 71 e (ziH (by simp))) (zbj (zbp (R':=zbw g18.1 (q18.1.set ((((q18.1.length:Nat):Int) - (1:Int)).toNat) (y67 ++ ([q18.2]:(List Int)))).length) 74 e (ziH (by simp))) (zbj (zbp (R':=zbw g18.1 (q18.1.set ((((q18.1.length:Nat):Int) - (1:Int)).toNat) (y67 ++ ([q18.2]:(List Int)))).length) 75 e (ziH (by simp))) (rb (hJ50 h (g18.1,t69) 37))))
      exact oG g60 (vI e zg.f4 zlk y6.fields) (oG g60 (zao zo4 e) (oG g60 (zc0 e) (zfx h λq61 h=>oG g60 (zpH e e q61) (zat h λy62 hy62 h=>oG g60 (vX e e zpy hy62) (oG g60 (vI e zaF.f5 znA y62.group) (oG g60 (zao ty3 e) (oG g60 (zc0 e) (oG g60 (zou e e) (oV (zb8 e g60 e) (hJ59 h 10))))))))))
     exact oG g57 (zc0 e) (oG g57 (vI e zg.f5 zqs y6.root) (oG g57 (zao ty3 e) (oG g57 (zl6 e e) (oV (zb8 e g57 e) (hJ56 h 5)))))
    exact oG g54 (zc0 e) (oG g54 (zl6 e e) (oV (zb8 e g54 e) (hJ53 h 3)))
   exact zg1 (zhK 4 .here e (by first | rfl | simp)) (zg1 (zbp 4 e (zk8 (t:=g18.2) (L:=(q18.1:List (List Int))))) (zdy (r1 e) k0 (iS h ▸ ⟨e,e⟩)))
  exact oG g13 (vI e zg.f0 ziT y6.kind) (oG g13 (zao ty3 e) (oG g13 (zkK e e) (oV (zb8 e g13 e) (hJ12 h 4))))
 exact oG g10 (vI e zg.f0 ziT y6.kind) (oG g10 (zao ty3 e) (oG g10 (zkK e e) (oV (zb8 e g10 e) (hJ9 h 4))))


instance r11_Slots_g a_t a_i:zd Tryz.prog 128 (zgM a_t a_i) (.mk [isv a_t,isv a_i] [] λr=>.mk [isv r] []):=⟨λr h=>by
 exact zq7 h⟩

section
attribute [local irreducible] isv zbn zal zbK zbw zem zeI zgQ zf1 zdV zdI zcO zj zO zI cal br ck asr jp lp zq
instance r02_TakeGroups_g a_b:zd Tryz.prog 223 (zfI a_b) (.mk [isv a_b] [] λr=>.mk [isv r.1,isv r.2.1,isv r.2.2] []):=by
 unfold zfI
 exact W (.l [5,6] (.b (.o 4 20 (.o 0 24 .a .a) .a) .a)) Tryz.func223 e

instance r02_Unsigned_g a_v:zd Tryz.prog 239 (zgR a_v) (.mk [isv a_v] [] λr=>.mk [isv r] []):=by
 unfold zgR
 exact W (.k (.m [] (.t λt0=>.v (λq2:UInt64 × (List UInt8)=>[(0,isv q2.1),(3,zbK t0 q2.2)]) λq2=>[zO t0])) .a) Tryz.func239 e

instance r02_TakeUnsigned_g a_b:zd Tryz.prog 224 (zeP a_b) (.mk [isv a_b] [] λr=>.mk [isv r.1,isv r.2] []):=by
 unfold zeP
 exact W (.b .a (.b .a (.l [4,5] .a))) Tryz.func224 e

instance r03_TakeHead_g a_b:zd Tryz.prog 199 (zg2 a_b) (.mk [isv a_b] [] λr=>.mk [isv r.1,isv r.2.1,isv r.2.2.1,isv r.2.2.2.1,isv r.2.2.2.2] []):=by
 unfold zg2
 exact W (.q 1 (.b .a (.d 6144 (.q 0 (.q 1 (.j 0 (.b 0 λb5=>.m [true] (.v (λq7:Int × Tag=>[(9,isv q7.1)]) λq7=>[zj b5 (q7.2:Tag)])) (.b .a (.w [9,13] .a (.b (.o 0 84 (.b .a (.b .a (.o 4 108 (.o 0 112 .a .a) .a))) .a) .a))) (.b (.b .a (.o 0 56 .a .a)) .a))))))) Tryz.func199 e

instance h_CopyBytes_g a_b:zd Tryz.prog 200 (ziU a_b) (.mk [isv a_b] [] λr=>.mk [isv r] []):=by
 unfold ziU
 exact W .a Tryz.func200 e

instance r03_Take_g a_b:zd Tryz.prog 165 (zkT a_b) (.mk [isv a_b] [] λr=>.mk [isv r.1,isv r.2.1,isv r.2.2.1,isv r.2.2.2.1,isv r.2.2.2.2] []):=by
 unfold zkT
 exact W (.q 1 (.b .a (.b .a (.e (.v 0 (.v 1 (.v 2 (.v 3 (.v 4 (.v 5 (.v 6 (.v 7 (.v 9 (.v 10 (.v 11 (.t 8 (.t 12 (.v 13 (.v 14 (.v 15 (.v 16 .nil))))))))))))))))) .a)))) Tryz.func165 e

abbrev zhd (a_l:(List zg)) (a_i:Int):AC ((List Tag)):=.mk [isv a_l,isv a_i] [] λr=>.mk [isv r] []
theorem zni {zgi:(List zg)->Int->Option ((List Tag))} [∀ a_l a_i,zd Tryz.prog 202 (zgi a_l a_i) (zhd a_l a_i)] a_l a_i:zd Tryz.prog 202 (zfE zgi a_l a_i) (zhd a_l a_i):=by
 unfold zfE
 exact W (.b .a (.k (.m [] (.t λt0=>.v (λq4:(List Tag) × Int=>[(5,zbK t0 q4.1),(6,isv q4.2)]) λq4=>[zO t0])) .a)) Tryz.func202 e
theorem ziD:∀ n,(∀ a_l a_i,zd Tryz.prog 202 (zfO n a_l a_i) (zhd a_l a_i))
 | 0=>λ_ _=>⟨λr h=>by cases h⟩
 | n + 1=>by
  have:=ziD n
  exact λa_l a_i=>zni (zgi:=zfO n) a_l a_i
instance r10_begins_1_g n a_l a_i:zd Tryz.prog 202 (zfO n a_l a_i) (zhd a_l a_i):=(ziD n) a_l a_i

instance r10_Begins_g a_t a_i:zd Tryz.prog 168 (ziz a_t a_i) (.mk [isv a_t,isv a_i] [] λr=>.mk [isv r] []):=by
 unfold ziz
 exact W (.o 0 13 .a .a) Tryz.func168 e

instance r12_starts_g a_t a_i a_b:zd Tryz.prog 129 (zhs a_t a_i a_b) (.mk [isv a_t,isv a_i,isv a_b] [] λr=>.mk [isv r.1,isv r.2] []):=by
 unfold zhs
 exact W (.q 0 (.q 1 (.o 0 30 (.b .a (.w [13] (.l [14] (.b (.e (.v 0 (.v 1 (.v 2 (.v 3 (.v 4 (.v 5 (.v 6 (.v 7 (.v 8 (.v 9 (.v 10 (.v 12 (.t 11 (.t 13 .nil)))))))))))))) .a) .a)) .a)) .a))) Tryz.func129 e

instance r12_Item_g a_x a_n_:zd Tryz.prog 78 (zgb a_x a_n_) (.mk [isv a_x,isv a_n_] [] λr=>.mk [isv r] []):=by
 unfold zgb
 exact W (.l [5] .a) Tryz.func78 e

instance r12_open_g a_b:zd Tryz.prog 130 (zjF a_b) (.mk [isv a_b] [] λr=>.mk [isv r] []):=by
 unfold zjF
 exact W (.o 1 10 .a .a) Tryz.func130 e

instance r12_unknown_g a_t a_i a_v:zd Tryz.prog 75 (zhM a_t a_i a_v) (.mk [isv a_t,isv a_i,isv a_v] [] λr=>.mk [isv r] []):=by
 unfold zhM
 exact W (.o 12 28 (.o 6 34 (.o 0 40 (.b .a (.w [8] (.o 1 62 (.b (.o 1 76 .a .a) (.b (.o 1 91 .a .a) (.b (.o 22 104 (.o 1 125 .a (.b (.o 13 113 (.o 2 124 .a (.b .a (.o 3 123 .a .a))) .a) .a)) .a) .a))) .a) .a)) .a) .a) (.b .a (.o 13 27 .a .a))) Tryz.func75 e

end
end Go.Proofs.Q
