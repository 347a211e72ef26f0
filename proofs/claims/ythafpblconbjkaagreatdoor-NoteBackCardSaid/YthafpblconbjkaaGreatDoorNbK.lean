/- Walks, printed by mill.py and grow.py. -/
import Derived.Test.YthafpblconbjkaaGreatDoorNbJ
set_option linter.unusedVariables false
set_option linter.unusedSimpArgs false
set_option maxRecDepth 4000
set_option maxHeartbeats 4000000
namespace Go.Proofs.Q
open Go.Sy
theorem zsh {a_t a_i r} (h:zgj a_t a_i=some r):Ctr Tryz.prog 128 [isv a_t,isv a_i] [] (Pt [isv r] []):=by
 unfold zgj at h
 refine zen Tryz.func128 e λw0 S0 hT=>ws (oT (tB e (oa e (zbi (zed) (zbi (ziF (α:=NL Int)) (zbi (zbm 4 e zlC) (rn (ss (oV (zan zn2 e) (om e (zav h λy3 hy3 h=>oT (tC (cw (P:=Tryz.prog) (f:=164) hy3) hT (s2 e e) k0 (oV (zxD e) (rn (zcp h e (λ_ h=>?_) (λ_ h=>wk (ws (oV (vI e zab.f3 zwj a_t.types) (oV (zan ty24 e) (om e (zav h λy6 hy6 h=>oV (vX e e sl24 hy6) (oV (zan zwE e) (oT (zhF _ zzR λb7=>oT (tS zwE e e p0 y6 (zbi (znO 5 .here e) (rn (ss (oV (vI e zg.f0 ziM y6.kind) ?_)))))))))))))))))))))))))))))
 ·exact ws (oa e (zbi (zed) (zbi (ziF (α:=NL Int)) (zbi (zbm 4 e zlC) (rn (zoy (zhi (zgW (zhn 4 .here e (by first | rfl | simp)) (zgW (zbm 4 e (zkG (t:=none) (L:=(([]:(List (List Int))):List (List Int))))) (zdB (r1 e) k0 (iS h ▸ ⟨e,e⟩)))))))))))
 refine oV (zan ty3 e) (oV (zk2 e e) (om e (jO 4 25 h (λq8 h=>?_) λJ9 h hJ9=>oI h (λg10 h=>?_) λg10 h=>oN g10 (oN g10 (oN g10 (oV (zb5 e g10 e) (hJ9 h 4)))))))
 ·refine om e (jO 4 30 h (λq11 h=>?_) λJ12 h hJ12=>oI h (λg13 h=>?_) λg13 h=>oN g13 (oN g13 (oN g13 (oV (zb5 e g13 e) (hJ12 h 4)))))
  ·refine rn (zcp h e (λ_ h=>?_) (λ_ h=>wk (ws (oa e (zbi (zed) (zbi (ziF (α:=NL Int)) (zbi (zbm 6 e zlC) (rn (ss (oV (vI e zg.f5 zqC y6.root) (oV (zan ty3 e) (an e (zec (lP h (Vt × Tok) (none,none) (λq18 g18=>[(6,zbs g18.1 (q18.1.length)),(7,isv q18.2)]) (λq18 g18=>[zM g18.1 (zfP g18.2 (q18.1:List (List Int))),zO g18.2]) (zel (j:=6) e (zh6 (by first | rfl | simp)) (zel (j:=7) e hI zhG)) k2 λL19 q18 g18 Q78 h hL19 eL19 rL19=>ss (om e (oV (vI e zg.f4 zld y6.fields) (oV (zan zpW e) (oV (vN e zpG) (oV (zl3 e e) (rn (zcp h e (λ_ h=>?_) (λ_ h=>xn (eL19 _ _ (zeJ (zc7 (ws (om e (ar e ?_))))))))))))))))))))))))))))
   ·exact ws (oa e (zbi (zed) (zbi (ziF (α:=NL Int)) (zbi (zbm 4 e zlC) (rn (zoy (zhi (zgW (zhn 4 .here e (by first | rfl | simp)) (zgW (zbm 4 e (zkG (t:=none) (L:=(([]:(List (List Int))):List (List Int))))) (zdB (r1 e) k0 (iS h ▸ ⟨e,e⟩)))))))))))
   ·refine wk (zeL (jw h (Vt × Tok) (λq49 g49=>[(6,zbs g49.1 (q49.length))]) (λq49 g49=>[zM g49.1 (zfP g49.2 (q49:List (List Int))),zO g49.2]) k2 (λq49 g49 h=>?_) λJ50 h hJ50=>zec (ws (oV (vI e zg.f4 zld y6.fields) (oV (zan zpW e) (om e (zav h λy51 hy51 h=>oV (vX e e zpG hy51) (oV (vI e zaC.f5 znN y51.group) (oV (zan ty3 e) (an e (ws (oV (vI e zg.f0 ziM y6.kind) (oV (zan ty3 e) (oV (zk2 e e) (om e (jO 3 52 h (λq52 h=>?_) λJ53 h hJ53=>oI h (λg54 h=>?_) λg54 h=>oN g54 (oN g54 (oV (zb5 e g54 e) (hJ53 h 3)))))))))))))))))))
    ·exact zdQ (om e (zfw h λq77 h=>oV (zpL e e q77) (oa e (zkX (hL19 h (g49.1,g49.2) 11)))))
    ·refine om e (jO 5 58 h (λq55 h=>?_) λJ56 h hJ56=>oI h (λg57 h=>?_) λg57 h=>oN g57 (oN g57 (oN g57 (oN g57 (oV (zb5 e g57 e) (hJ56 h 5))))))
     ·refine om e (jO 10 69 h (λq58 h=>?_) λJ59 h hJ59=>oI h (λg60 h=>?_) λg60 h=>oN g60 (oN g60 (oN g60 (oN g60 (oN g60 (oN g60 (oN g60 (oN g60 (oN g60 (oV (zb5 e g60 e) (hJ59 h 10)))))))))))
      ·refine rn (zcp h e (λ_ h=>?_) (λ_ h=>zdQ (om e (om e (oT (zcc (l:=([q18.2]:(List Int))) zqx (.cons e hI .nil) e e (zbi (zed) (oT (zcc (l:=[NL.mk (([q18.2]:(List Int))) (some none)]) zzX (.cons e zq2 .nil) e e (zbF h λq76 h=>oT (zq5 (m:=[NL.mk (([q18.2]:(List Int))) (some none)]) zp1 e e zb6 (.there .here) (by first | rfl | simp) (by rw [zfB];exact q76) λv75=>zbi (zsk .here) (zbi (zbm (R':=zbs v75 (q18.1 ++ [([q18.2]:(List Int))]).length) 88 e (zh6 (by simp))) (oa e (rb (hJ50 h (v75,none) 23)))))))))))))))
       refine zdQ (om e (om e (oV (zo4 zmA e) (zfw h λq63 h=>oV (zpw e e q63) (om e (om e (oV (zo4 zmA e) (zfw h λq64 h=>oV (zpw e e q64) (zcd h λq65 h=>oV (zna (α:=NL Int) zmA e e q65.1 q65.2) (zcd h λq66 h=>zav h λy67 hy67 h=>oT (znK zmP e .here (zh8 q66 hy67) (zbi (zbm 79 e zxi) (om e (oT (zcc (l:=([q18.2]:(List Int))) zqx (.cons e hI .nil) e e (zbF h λq70 h=>oT (ziX (l:=y67) (m:=([q18.2]:(List Int))) ziL e hI e zb6 (.there .here) q70 λt69=>zcd h λq71 h=>oV (zna (α:=NL Int) zmA e e q71.1 q71.2) (zcd h λq72 h=>zav h λy73 hy73 h=>zbi (zbm 82 e zq2) (oT (zo8 zmP e e (.there .here) (zh8 q72 hy73) (zbi (zr8 .here (zmX q72)) (zbi (zbm (R':=zbs g18.1 (q18.1.set ((((q18.1.length:Nat):Int) - (1:Int)).toNat) (y67 ++ ([q18.2]:(List Int)))).length) 6 e (zh6 (by simp))) (zbi (zbm (R':=zbs g18.1 (q18.1.set ((((q18.1.length:Nat):Int) - (1:Int)).toNat) (y67 ++ ([q18.2]:(List Int)))).length) 70 e (zh6 (by simp))) ?_)))))))))))))))))))))))
       exact zbi (zbm (R':=zbs g18.1 (q18.1.set ((((q18.1.length:Nat):Int) - (1:Int)).toNat) (y67 ++ ([q18.2]:(List Int)))).length) 71 e (zh6 (by simp))) (zbi (zbm (R':=zbs g18.1 (q18.1.set ((((q18.1.length:Nat):Int) - (1:Int)).toNat) (y67 ++ ([q18.2]:(List Int)))).length) 74 e (zh6 (by simp))) (zbi (zbm (R':=zbs g18.1 (q18.1.set ((((q18.1.length:Nat):Int) - (1:Int)).toNat) (y67 ++ ([q18.2]:(List Int)))).length) 75 e (zh6 (by simp))) (rb (hJ50 h (g18.1,t69) 37))))
      exact oG g60 (vI e zg.f4 zld y6.fields) (oG g60 (zan zpW e) (oG g60 (zc0 e) (zfw h λq61 h=>oG g60 (zpw e e q61) (zav h λy62 hy62 h=>oG g60 (vX e e zpG hy62) (oG g60 (vI e zaC.f5 znN y62.group) (oG g60 (zan ty3 e) (oG g60 (zc0 e) (oG g60 (zoO e e) (oV (zb7 e g60 e) (hJ59 h 10))))))))))
     exact oG g57 (zc0 e) (oG g57 (vI e zg.f5 zqC y6.root) (oG g57 (zan ty3 e) (oG g57 (zmE e e) (oV (zb7 e g57 e) (hJ56 h 5)))))
    exact oG g54 (zc0 e) (oG g54 (zmE e e) (oV (zb7 e g54 e) (hJ53 h 3)))
   exact zgW (zhn 4 .here e (by first | rfl | simp)) (zgW (zbm 4 e (zkG (t:=g18.2) (L:=(q18.1:List (List Int))))) (zdB (r1 e) k0 (iS h ▸ ⟨e,e⟩)))
  exact oG g13 (vI e zg.f0 ziM y6.kind) (oG g13 (zan ty3 e) (oG g13 (zk2 e e) (oV (zb7 e g13 e) (hJ12 h 4))))
 exact oG g10 (vI e zg.f0 ziM y6.kind) (oG g10 (zan ty3 e) (oG g10 (zk2 e e) (oV (zb7 e g10 e) (hJ9 h 4))))


instance r11_Slots_g a_t a_i:zd Tryz.prog 128 (zgj a_t a_i) (.mk [isv a_t,isv a_i] [] λr=>.mk [isv r] []):=⟨λr h=>by
 exact zsh h⟩

section
attribute [local irreducible] isv zbl zar zbI zbs zef zez zgw zgg zdV zdE zcO zj zO zM cal br ck asr jp lp zs
instance r02_TakeGroups_g a_b:zd Tryz.prog 223 (ziw a_b) (.mk [isv a_b] [] λr=>.mk [isv r.1,isv r.2.1,isv r.2.2] []):=by
 unfold ziw
 exact W (.l [5,6] (.b (.o 4 20 (.o 0 24 .a .a) .a) .a)) Tryz.func223 e

instance r02_Unsigned_g a_v:zd Tryz.prog 239 (zkc a_v) (.mk [isv a_v] [] λr=>.mk [isv r] []):=by
 unfold zkc
 exact W (.k (.m [] (.t λt0=>.v (λq2:UInt64 × (List UInt8)=>[(0,isv q2.1),(3,zbI t0 q2.2)]) λq2=>[zO t0])) .a) Tryz.func239 e

instance r02_TakeUnsigned_g a_b:zd Tryz.prog 224 (zhf a_b) (.mk [isv a_b] [] λr=>.mk [isv r.1,isv r.2] []):=by
 unfold zhf
 exact W (.b .a (.b .a (.l [4,5] .a))) Tryz.func224 e

instance r03_TakeHead_g a_b:zd Tryz.prog 199 (zkd a_b) (.mk [isv a_b] [] λr=>.mk [isv r.1,isv r.2.1,isv r.2.2.1,isv r.2.2.2.1,isv r.2.2.2.2] []):=by
 unfold zkd
 exact W (.q 1 (.b .a (.d 6144 (.q 0 (.q 1 (.j 0 (.b 0 λb5=>.m [true] (.v (λq7:Int × Tag=>[(9,isv q7.1)]) λq7=>[zj b5 (q7.2:Tag)])) (.b .a (.w [9,13] .a (.b (.o 0 84 (.b .a (.b .a (.o 4 108 (.o 0 112 .a .a) .a))) .a) .a))) (.b (.b .a (.o 0 56 .a .a)) .a))))))) Tryz.func199 e

instance h_CopyBytes_g a_b:zd Tryz.prog 200 (zkx a_b) (.mk [isv a_b] [] λr=>.mk [isv r] []):=by
 unfold zkx
 exact W .a Tryz.func200 e

instance r03_Take_g a_b:zd Tryz.prog 165 (zoe a_b) (.mk [isv a_b] [] λr=>.mk [isv r.1,isv r.2.1,isv r.2.2.1,isv r.2.2.2.1,isv r.2.2.2.2] []):=by
 unfold zoe
 exact W (.q 1 (.b .a (.b .a (.e (.v 0 (.v 1 (.v 2 (.v 3 (.v 4 (.v 5 (.v 6 (.v 7 (.v 9 (.v 10 (.v 11 (.t 8 (.t 12 (.v 13 (.v 14 (.v 15 (.v 16 .nil))))))))))))))))) .a)))) Tryz.func165 e

abbrev zgX (a_l:(List zg)) (a_i:Int):AC ((List Tag)):=.mk [isv a_l,isv a_i] [] λr=>.mk [isv r] []
theorem znw {zfN:(List zg)->Int->Option ((List Tag))} [∀ a_l a_i,zd Tryz.prog 202 (zfN a_l a_i) (zgX a_l a_i)] a_l a_i:zd Tryz.prog 202 (zh9 zfN a_l a_i) (zgX a_l a_i):=by
 unfold zh9
 exact W (.b .a (.k (.m [] (.t λt0=>.v (λq4:(List Tag) × Int=>[(5,zbI t0 q4.1),(6,isv q4.2)]) λq4=>[zO t0])) .a)) Tryz.func202 e
theorem zil:∀ n,(∀ a_l a_i,zd Tryz.prog 202 (zhC n a_l a_i) (zgX a_l a_i))
 | 0=>λ_ _=>⟨λr h=>by cases h⟩
 | n + 1=>by
  have:=zil n
  exact λa_l a_i=>znw (zfN:=zhC n) a_l a_i
instance r10_begins_1_g n a_l a_i:zd Tryz.prog 202 (zhC n a_l a_i) (zgX a_l a_i):=(zil n) a_l a_i

instance r10_Begins_g a_t a_i:zd Tryz.prog 168 (zlT a_t a_i) (.mk [isv a_t,isv a_i] [] λr=>.mk [isv r] []):=by
 unfold zlT
 exact W (.o 0 13 .a .a) Tryz.func168 e

instance r12_starts_g a_t a_i a_b:zd Tryz.prog 129 (zjT a_t a_i a_b) (.mk [isv a_t,isv a_i,isv a_b] [] λr=>.mk [isv r.1,isv r.2] []):=by
 unfold zjT
 exact W (.q 0 (.q 1 (.o 0 30 (.b .a (.w [13] (.l [14] (.b (.e (.v 0 (.v 1 (.v 2 (.v 3 (.v 4 (.v 5 (.v 6 (.v 7 (.v 8 (.v 9 (.v 10 (.v 12 (.t 11 (.t 13 .nil)))))))))))))) .a) .a)) .a)) .a))) Tryz.func129 e

instance r12_Item_g a_x a_n_:zd Tryz.prog 78 (zjt a_x a_n_) (.mk [isv a_x,isv a_n_] [] λr=>.mk [isv r] []):=by
 unfold zjt
 exact W (.l [5] .a) Tryz.func78 e

instance r12_open_g a_b:zd Tryz.prog 130 (zmy a_b) (.mk [isv a_b] [] λr=>.mk [isv r] []):=by
 unfold zmy
 exact W (.o 1 10 .a .a) Tryz.func130 e

instance r12_unknown_g a_t a_i a_v:zd Tryz.prog 75 (zkz a_t a_i a_v) (.mk [isv a_t,isv a_i,isv a_v] [] λr=>.mk [isv r] []):=by
 unfold zkz
 exact W (.o 12 28 (.o 6 34 (.o 0 40 (.b .a (.w [8] (.o 1 62 (.b (.o 1 76 .a .a) (.b (.o 1 91 .a .a) (.b (.o 22 104 (.o 1 125 .a (.b (.o 13 113 (.o 2 124 .a (.b .a (.o 3 123 .a .a))) .a) .a)) .a) .a))) .a) .a)) .a) .a) (.b .a (.o 13 27 .a .a))) Tryz.func75 e

end
end Go.Proofs.Q
