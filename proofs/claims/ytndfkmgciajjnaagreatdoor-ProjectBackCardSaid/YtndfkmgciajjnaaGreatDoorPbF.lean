/- Walks, printed by mill.py. -/
import Derived.Test.YtndfkmgciajjnaaGreatDoorPbA
import Derived.Test.YtndfkmgciajjnaaGreatDoorPbB
import Derived.Test.YtndfkmgciajjnaaGreatDoorPbC
import Derived.Test.YtndfkmgciajjnaaGreatDoorPbD
import Derived.Test.YtndfkmgciajjnaaGreatDoorPbE
set_option linter.unusedVariables false
set_option linter.unusedSimpArgs false

namespace Go.Proofs.Q
open Go.Sy
set_option maxRecDepth 4000
theorem zlu {a_t zcP r} (h:zd5 a_t zcP=some r):Ctr Tryz.prog 12 [isv a_t,isv zcP] [] (Pt [isv r.1,isv r.2] []):=by
 unfold zd5 at h
 refine zi Tryz.func12 e fun w0 S0 hT=>ws (oT (tB e (oa e (an e (ss (oV (vI e GTab.f2 zgc a_t.roots) (oV (za ty28 e) (oV (vN e sl28) (oV (zD e e) (rn (ze h e (fun _ h=>?_) (fun _ h=>wk (zE (zH (.v 0 (.v 1 (.v 2 (.v 3 (.v 4 (.v 5 (.v 6 (.v 7 (.v 8 (.v 9 (.v 10 (.v 11 (.v 12 (.v 13 .nil)))))))))))))) moOrd (by kernel_rfl) (zj e (vI e GTab.f2 zgc a_t.roots) (zj e (za ty28 e) (rm e e (zj e (zqP Tryz.underlying3 Tryz.underlying50 e) (zj e (vI e GTab.f2 zgc a_t.roots) (zj e (za ty28 e) (zj e (vN e sl28) (zj e (zqP Tryz.underlying3 Tryz.underlying50 e) (zag h fun q1 h=>zj e (zqU e e q1) (zy h fun q2 h=>zj e (ziW Tryz.underlying50 Tryz.underlying3 e q2) (zd h fun y3 hy3 h=>zj e (vX e e sl28 hy3) (zj e (za ty3 e) ?_))))))))))))))))))))))))))
 ·exact ws (oa e (ar e (zz (zf (r2 e e) k0 (iS h ▸ ⟨e,e⟩)))))
 exact zj e (zaj e) (zj e (zaj e) (z6 (zq (zaQ (zf (r2 e e) k0 (iS h ▸ ⟨e,e⟩))))))


theorem zmN {a_t zif r} (h:zhA a_t zif=some r):Ctr Tryz.prog 14 [isv a_t,isv zif] [] (Pt [isv r] []):=by
 unfold zhA at h
 refine zi Tryz.func14 e fun w0 S0 hT=>ws (oT (tB e (an e (ss (an e (zr (lO 5 h e fun L2 q1 Q15 h hL2 eL2 rL2=>ss (om e (oV (vI e GTab.f1 zkm a_t.names) (oV (za ty27 e) (oV (vN e sl27) (oV (z7 e e) (om e (jO 6 17 h (fun q9 h=>?_) fun J10 h hJ10=>oI h (fun g11 h=>?_) fun g11 h=>oN g11 (oN g11 (oN g11 (oN g11 (oN g11 (oV (zg e g11 e) (hJ10 h 6))))))))))))))))))))
 ·refine rn (ze h e (fun _ h=>?_) (fun _ h=>xn (eL2 _ _ (zw (zq (ws (ar e (zf (r1 e) k0 (iS h ▸ ⟨e,e⟩)))))))))
  refine wk (zE (zr (ws (oV (vI e GTab.f1 zkm a_t.names) (oV (za ty27 e) (om e (zd h fun y12 hy12 h=>oV (vX e e sl27 hy12) (oV (za ty9 e) (om e (oV (zb6 eq9 e e) (rn (ze h e (fun _ h=>?_) (fun _ h=>zJ (zx (zq (zm (om e (zy h fun q14 h=>oV (zX e e q14) (oa e (zK (hL2 h 18)))))))))))))))))))))
  exact ws (oV (vI e GTab.f2 zgc a_t.roots) (oV (za ty28 e) (om e (zd h fun y13 hy13 h=>oV (vX e e sl28 hy13) (oV (za ty3 e) (ar e (bn (rL2 _ (bn (zf (r1 e) k0 (iS h ▸ ⟨e,e⟩)))))))))))
 exact oG g11 (zo e) (oG g11 (vI e GTab.f2 zgc a_t.roots) (oG g11 (za ty28 e) (oG g11 (vN e sl28) (oG g11 (z7 e e) (oV (zh e g11 e) (hJ10 h 6))))))


theorem zjr {a_x a_y r} (h:zeF a_x a_y=some r):Ctr Tryz.prog 86 [isv a_x,isv a_y] [] (Pt [isv r] []):=by
 unfold zeF at h
 exact zi Tryz.func86 e fun w0 S0 hT=>ws (oT (tB e (oT (tB e (an e (ws (oV (za ty121 e) (oV (za ty121 e) (oV (zb6 eq121 e e) (ar e (zf (r1 e) k0 (iS h ▸ ⟨e,e⟩))))))))))))


theorem zlM {a_a a_b r} (h:ze1 a_a a_b=some r):Ctr Tryz.prog 85 [isv a_a,isv a_b,clov 86 []] [] (Pt [isv r] []):=by
 unfold ze1 at h
 refine zi Tryz.func85 e fun w0 S0 hT=>ws (an e (ss (om e (oV (vN e sl76) (om e (oV (vN e sl76) (oV (zaC e e) (rn (ze h e (fun _ h=>?_) (fun _ h=>wk (ss (an e (zr (lO 7 h e fun L2 q1 Q11 h hL2 eL2 rL2=>ss (om e (om e (oV (vN e sl76) (oV (z7 e e) (rn (ze h e (fun _ h=>?_) (fun _ h=>xn (eL2 _ _ (zw (zq (ws (ar e (zf (r1 e) k0 (iS h ▸ ⟨e,e⟩))))))))))))))))))))))))))))
 ·exact ws (ar e (zz (zf (r1 e) k0 (iS h ▸ ⟨e,e⟩))))
 refine wk (zE (zr (zE (zH (.v 0 (.v 1 (.v 2 (.v 3 (.v 4 (.v 5 (.v 6 (.v 7 (.v 8 (.t 9 (.v 10 .nil))))))))))) moOrd (by kernel_rfl) (rm e e (rm e e (rm e e (zd h fun y7 hy7 h=>zj e (vX e e sl76 hy7) (zj e (za ty121 e) (rm e e (rm e e (zd h fun y8 hy8 h=>zj e (vX e e sl76 hy8) (zj e (za ty121 e) (zd h fun y9 hy9 h=>rT e (zfT e (.same e (.same e .nil)) (zjr hy9) hT .nil (fun R H' hR=>?_))))))))))))))))
 obtain ⟨rfl,rfl⟩:=hR
 refine zj e (zal e) (z6 (zq (ze h e (fun _ h=>?_) (fun _ h=>zJ (zx (zq (zm (om e (zy h fun q10 h=>oV (zX e e q10) (oa e (zK (hL2 h 19))))))))))))
 exact ws (ar e (bn (rL2 _ (bn (zf (r1 e) k0 (iS h ▸ ⟨e,e⟩))))))


theorem zlj {a_a a_b r} (h:zdy a_a a_b=some r):Ctr Tryz.prog 54 [isv a_a,isv a_b] [] (Pt [isv r] []):=by
 unfold zdy at h
 exact zi Tryz.func54 e fun w0 S0 hT=>ws (an e (ws (om e (om e (zd h fun y1 hy1 h=>oT (tC (zlM hy1) hT (s3 e e e) k0 (ar e (zf (r1 e) k0 (iS h ▸ ⟨e,e⟩)))))))))


theorem ziO {a_x a_y r} (h:zek a_x a_y=some r):Ctr Tryz.prog 88 [isv a_x,isv a_y] [] (Pt [isv r] []):=by
 unfold zek at h
 exact zi Tryz.func88 e fun w0 S0 hT=>ws (oT (tB e (oT (tB e (an e (ws (oV (za ty124 e) (oV (za ty124 e) (oV (zb6 eq124 e e) (ar e (zf (r1 e) k0 (iS h ▸ ⟨e,e⟩))))))))))))


theorem zle {a_a a_b r} (h:zew a_a a_b=some r):Ctr Tryz.prog 87 [isv a_a,isv a_b,clov 88 []] [] (Pt [isv r] []):=by
 unfold zew at h
 refine zi Tryz.func87 e fun w0 S0 hT=>ws (an e (ss (om e (oV (vN e sl79) (om e (oV (vN e sl79) (oV (zaC e e) (rn (ze h e (fun _ h=>?_) (fun _ h=>wk (ss (an e (zr (lO 7 h e fun L2 q1 Q11 h hL2 eL2 rL2=>ss (om e (om e (oV (vN e sl79) (oV (z7 e e) (rn (ze h e (fun _ h=>?_) (fun _ h=>xn (eL2 _ _ (zw (zq (ws (ar e (zf (r1 e) k0 (iS h ▸ ⟨e,e⟩))))))))))))))))))))))))))))
 ·exact ws (ar e (zz (zf (r1 e) k0 (iS h ▸ ⟨e,e⟩))))
 refine wk (zE (zr (zE (zH (.v 0 (.v 1 (.v 2 (.v 3 (.v 4 (.v 5 (.v 6 (.v 7 (.v 8 (.t 9 (.v 10 .nil))))))))))) moOrd (by kernel_rfl) (rm e e (rm e e (rm e e (zd h fun y7 hy7 h=>zj e (vX e e sl79 hy7) (zj e (za ty124 e) (rm e e (rm e e (zd h fun y8 hy8 h=>zj e (vX e e sl79 hy8) (zj e (za ty124 e) (zd h fun y9 hy9 h=>rT e (zfT e (.same e (.same e .nil)) (ziO hy9) hT .nil (fun R H' hR=>?_))))))))))))))))
 obtain ⟨rfl,rfl⟩:=hR
 refine zj e (zal e) (z6 (zq (ze h e (fun _ h=>?_) (fun _ h=>zJ (zx (zq (zm (om e (zy h fun q10 h=>oV (zX e e q10) (oa e (zK (hL2 h 19))))))))))))
 exact ws (ar e (bn (rL2 _ (bn (zf (r1 e) k0 (iS h ▸ ⟨e,e⟩))))))


theorem zkb {a_a a_b r} (h:zdd a_a a_b=some r):Ctr Tryz.prog 55 [isv a_a,isv a_b] [] (Pt [isv r] []):=by
 unfold zdd at h
 exact zi Tryz.func55 e fun w0 S0 hT=>ws (an e (ws (om e (om e (zd h fun y1 hy1 h=>oT (tC (zle hy1) hT (s3 e e e) k0 (ar e (zf (r1 e) k0 (iS h ▸ ⟨e,e⟩)))))))))


theorem zlF {a_a a_b r} (h:zlg a_a a_b=some r):Ctr Tryz.prog 22 [isv a_a,isv a_b] [] (Pt [isv r] []):=by
 unfold zlg at h
 exact zi Tryz.func22 e fun w0 S0 hT=>ws (an e (ws (om e (oV (zsi (l:=a_a) Tryz.underlying22 Tryz.underlying5 Tryz.underlying9 e hI) (om e (oV (zsi (l:=a_b) Tryz.underlying22 Tryz.underlying5 Tryz.underlying9 e hI) (oV (zb6 eq9 e e) (ar e (zf (r1 e) k0 (iS h ▸ ⟨e,e⟩))))))))))


theorem zul {a_a a_b r} (h:zoG a_a a_b=some r):Ctr Tryz.prog 25 [isv a_a,isv a_b] [] (Pt [isv r] []):=by
 unfold zoG at h
 refine zi Tryz.func25 e fun w0 S0 hT=>ws (oT (tB e (oT (tB e (an e (ws (oV (vI e Raw.f0 zgg a_a.n) (oV (za ty3 e) (oV (vI e Raw.f0 zgg a_b.n) (oV (za ty3 e) (oV (zD e e) (om e (jO 6 16 h (fun q1 h=>?_) fun J2 h hJ2=>oI h (fun g3 h=>?_) fun g3 h=>oN g3 (oN g3 (oN g3 (oN g3 (oN g3 (oV (zg e g3 e) (hJ2 h 6)))))))))))))))))))
 ·exact ar e (zf (r1 e) k0 (iS h ▸ ⟨e,e⟩))
 exact oG g3 (vI e Raw.f1 zh3 a_a.b) (oG g3 (za ty22 e) (oG g3 (vI e Raw.f1 zh3 a_b.b) (oG g3 (za ty22 e) (zd h fun y4 hy4 h=>oH g3 (tC (zlF hy4) hT (s2 e e) k0 (oV (zh e g3 e) (hJ2 h 6)))))))


theorem zlH {a_a a_b r} (h:zdS a_a a_b=some r):Ctr Tryz.prog 24 [isv a_a,isv a_b,clov 25 []] [] (Pt [isv r] []):=by
 unfold zdS at h
 refine zi Tryz.func24 e fun w0 S0 hT=>ws (an e (ss (om e (oV (vN e sl24) (om e (oV (vN e sl24) (oV (zaC e e) (rn (ze h e (fun _ h=>?_) (fun _ h=>wk (ss (an e (zr (lO 7 h e fun L2 q1 Q11 h hL2 eL2 rL2=>ss (om e (om e (oV (vN e sl24) (oV (z7 e e) (rn (ze h e (fun _ h=>?_) (fun _ h=>xn (eL2 _ _ (zw (zq (ws (ar e (zf (r1 e) k0 (iS h ▸ ⟨e,e⟩))))))))))))))))))))))))))))
 ·exact ws (ar e (zz (zf (r1 e) k0 (iS h ▸ ⟨e,e⟩))))
 refine wk (zE (zr (zE (zH (.v 0 (.v 1 (.v 2 (.v 3 (.v 4 (.v 5 (.v 6 (.v 7 (.v 8 (.t 9 (.v 10 .nil))))))))))) moOrd (by kernel_rfl) (rm e e (rm e e (rm e e (zd h fun y7 hy7 h=>zj e (vX e e sl24 hy7) (zj e (za ty66 e) (rm e e (rm e e (zd h fun y8 hy8 h=>zj e (vX e e sl24 hy8) (zj e (za ty66 e) (zd h fun y9 hy9 h=>rT e (zfT e (.same e (.same e .nil)) (zul hy9) hT .nil (fun R H' hR=>?_))))))))))))))))
 obtain ⟨rfl,rfl⟩:=hR
 refine zj e (zal e) (z6 (zq (ze h e (fun _ h=>?_) (fun _ h=>zJ (zx (zq (zm (om e (zy h fun q10 h=>oV (zX e e q10) (oa e (zK (hL2 h 19))))))))))))
 exact ws (ar e (bn (rL2 _ (bn (zf (r1 e) k0 (iS h ▸ ⟨e,e⟩))))))


def zds (f':(List Val)→(List Val)→Option (Bool)):Prop :=
 ∀ {a_a a_b r},f' a_a a_b=some r→Ctr Tryz.prog 23 [isv a_a,isv a_b,clov 10 []] [] (Pt [isv r] [])
def zhM (f':Val→Val→Option (Bool)):Prop :=
 ∀ {a_a a_b r},f' a_a a_b=some r→Ctr Tryz.prog 10 [isv a_a,isv a_b] [] (Pt [isv r] [])
theorem zjW {zbz zfX} (zgB:zds zbz) (znx:zhM zfX):zds (zbH zbz zfX):=by
 intro a_a a_b r h
 unfold zbH at h
 refine zi Tryz.func23 e fun w0 S0 hT=>ws (an e (ss (om e (oV (vN e sl23) (om e (oV (vN e sl23) (oV (zaC e e) (rn (ze h e (fun _ h=>?_) (fun _ h=>wk (ss (an e (zr (lO 7 h e fun L2 q1 Q11 h hL2 eL2 rL2=>ss (om e (om e (oV (vN e sl23) (oV (z7 e e) (rn (ze h e (fun _ h=>?_) (fun _ h=>xn (eL2 _ _ (zw (zq (ws (ar e (zf (r1 e) k0 (iS h ▸ ⟨e,e⟩))))))))))))))))))))))))))))
 ·exact ws (ar e (zz (zf (r1 e) k0 (iS h ▸ ⟨e,e⟩))))
 refine wk (zE (zr (zE (zH (.v 0 (.v 1 (.v 2 (.v 3 (.v 4 (.v 5 (.v 6 (.v 7 (.v 8 (.t 9 (.v 10 .nil))))))))))) moOrd (by kernel_rfl) (rm e e (rm e e (rm e e (zd h fun y7 hy7 h=>zj e (vX e e sl23 hy7) (zj e (za ty26 e) (rm e e (rm e e (zd h fun y8 hy8 h=>zj e (vX e e sl23 hy8) (zj e (za ty26 e) (zd h fun y9 hy9 h=>rT e (zfT e (.same e (.same e .nil)) (znx hy9) hT .nil (fun R H' hR=>?_))))))))))))))))
 obtain ⟨rfl,rfl⟩:=hR
 refine zj e (zal e) (z6 (zq (ze h e (fun _ h=>?_) (fun _ h=>zJ (zx (zq (zm (om e (zy h fun q10 h=>oV (zX e e q10) (oa e (zK (hL2 h 19))))))))))))
 exact ws (ar e (bn (rL2 _ (bn (zf (r1 e) k0 (iS h ▸ ⟨e,e⟩))))))

theorem zpN {zbz zfX} (zgB:zds zbz) (znx:zhM zfX):zhM (zfM zbz zfX):=by
 intro a_a a_b r h
 unfold zfM at h
 refine zi Tryz.func10 e fun w0 S0 hT=>ws (oT (tB e (oT (tB e (an e (ws (oV (vI e Val.f0 zbu a_a.kind) (oV (za ty3 e) (oV (vI e Val.f0 zbu a_b.kind) (oV (za ty3 e) (oV (zD e e) (om e (jO 6 16 h (fun q1 h=>?_) fun J2 h hJ2=>oI h (fun g3 h=>?_) fun g3 h=>oN g3 (oN g3 (oN g3 (oN g3 (oN g3 (oV (zg e g3 e) (hJ2 h 6)))))))))))))))))))
 ·refine om e (jO 6 23 h (fun q4 h=>?_) fun J5 h hJ5=>oI h (fun g6 h=>?_) fun g6 h=>oN g6 (oN g6 (oN g6 (oN g6 (oN g6 (oV (zg e g6 e) (hJ5 h 6)))))))
  ·refine om e (jO 6 30 h (fun q8 h=>?_) fun J9 h hJ9=>oI h (fun g10 h=>?_) fun g10 h=>oN g10 (oN g10 (oN g10 (oN g10 (oN g10 (oV (zg e g10 e) (hJ9 h 6)))))))
   ·refine om e (jO 6 37 h (fun q12 h=>?_) fun J13 h hJ13=>oI h (fun g14 h=>?_) fun g14 h=>oN g14 (oN g14 (oN g14 (oN g14 (oN g14 (oV (zg e g14 e) (hJ13 h 6)))))))
    ·refine om e (jO 6 44 h (fun q15 h=>?_) fun J16 h hJ16=>oI h (fun g17 h=>?_) fun g17 h=>oN g17 (oN g17 (oN g17 (oN g17 (oN g17 (oV (zg e g17 e) (hJ16 h 6)))))))
     ·exact ar e (zf (r1 e) k0 (iS h ▸ ⟨e,e⟩))
     exact oG g17 (vI e Val.f5 zdF a_a.more) (oG g17 (za ty24 e) (oG g17 (vI e Val.f5 zdF a_b.more) (oG g17 (za ty24 e) (zd h fun y18 hy18 h=>oH g17 (tC (zlH hy18) hT (s3 e e e) k0 (oV (zh e g17 e) (hJ16 h 6)))))))
    exact oG g14 (vI e Val.f4 zcX a_a.rule) (oG g14 (za ty3 e) (oG g14 (vI e Val.f4 zcX a_b.rule) (oG g14 (za ty3 e) (oG g14 (zD e e) (oV (zh e g14 e) (hJ13 h 6))))))
   exact oG g10 (vI e Val.f3 zaL a_a.l) (oG g10 (za ty23 e) (oG g10 (vI e Val.f3 zaL a_b.l) (oG g10 (za ty23 e) (zd h fun y11 hy11 h=>oH g10 (tC (zgB hy11) hT (s3 e e e) k0 (oV (zh e g10 e) (hJ9 h 6)))))))
  exact oG g6 (vI e Val.f2 zbs a_a.b) (oG g6 (za ty22 e) (oG g6 (vI e Val.f2 zbs a_b.b) (oG g6 (za ty22 e) (zd h fun y7 hy7 h=>oH g6 (tC (zlF hy7) hT (s2 e e) k0 (oV (zh e g6 e) (hJ5 h 6)))))))
 exact oG g3 (vI e Val.f1 zaT a_a.n) (oG g3 (za ty2 e) (oG g3 (vI e Val.f1 zaT a_b.n) (oG g3 (za ty2 e) (oG g3 (zD e e) (oV (zh e g3 e) (hJ2 h 6))))))

theorem zfv:∀ n,zds (zda n)∧zhM (zey n)
  | 0=>⟨fun h=>(by cases h),fun h=>(by cases h)⟩
  | n + 1=>by
    obtain ⟨h0,h1⟩:=zfv n
    exact ⟨zjW h0 h1,zpN h0 h1⟩
theorem zjw (n:Nat):zhM (zey n):=(zfv n).2

def zgj (f':GTab→Int→GTab→Int→Option (Bool)):Prop :=
 ∀ {a_a a_i a_b a_k r},f' a_a a_i a_b a_k=some r→Ctr Tryz.prog 56 [isv a_a,isv a_i,isv a_b,isv a_k] [] (Pt [isv r] [])
def zgL (f':GTab→Int→GTab→Int→Option (Bool)):Prop :=
 ∀ {a_a a_i a_b a_k r},f' a_a a_i a_b a_k=some r→Ctr Tryz.prog 28 [isv a_a,isv a_i,isv a_b,isv a_k] [] (Pt [isv r] [])
theorem znr {zdm zec} (zlm:zgj zdm) (zkh:zgL zec):zgj (zfh zdm zec):=by
 intro a_a a_i a_b a_k r h
 unfold zfh at h
 refine zi Tryz.func56 e fun w0 S0 hT=>ws (oT (tB e (oT (tB e (an e (zE (jw h Unit (fun q1 g1=>[(9,immv (q1.1)),(10,immv (q1.2))]) (fun q1 g1=>[]) k0 (fun q1 g1 h=>?_) fun J2 h hJ2=>zH (.v 0 (.v 1 (.v 2 (.v 3 (.v 4 (.v 5 (.v 6 (.v 7 (.v 8 (.v 9 (.alt 10 (.t 11 (.t 12 (.t 13 .nil))) (.t 11 (.t 10 (.t 12 (.t 13 .nil))))))))))))))) moOrd (by kernel_rfl) (zj e (vI e GTab.f3 zbb a_a.types) (zj e (za ty29 e) (rm e e (zd h fun y3 hy3 h=>zj e (vX e e sl29 hy3) (zj e (za ty82 e) (zj e (vI e GTab.f3 zbb a_b.types) (zj e (za ty29 e) (rm e e (zd h fun y4 hy4 h=>zj e (vX e e sl29 hy4) (zj e (za ty82 e) (zdu ?_ (rT e (zC _ ze82 fun b7=>rT e (zC _ ze82 fun b8=>rT e (tS ty82 e e p0 y3 (zbG (z8 9 .here e) (rT e (tS ty82 e e p0 y4 (zbG (z8 10 .here e) (z6 (hJ2 h () 14))))))))))))))))))))))))))))
 ·refine ss (oV (vI e GTyp.f5 zem q1.1.root) (oV (za ty3 e) (oV (vI e GTyp.f5 zem q1.2.root) (oV (za ty3 e) (oV (zaC e e) (om e (jO 8 38 h (fun q9 h=>?_) fun J10 h hJ10=>oI h (fun g11 h=>?_) fun g11 h=>oG g11 (vI e GTyp.f4 zas q1.2.fields) (oG g11 (za ty80 e) (oG g11 (vN e sl80) (oG g11 (vI e GTyp.f4 zas q1.1.fields) (oG g11 (za ty80 e) (oG g11 (vN e sl80) (oG g11 (z7 e e) (oV (zg e g11 e) (hJ10 h 8)))))))))))))))
  ·refine om e (jO 13 52 h (fun q12 h=>?_) fun J13 h hJ13=>oI h (fun g14 h=>?_) fun g14 h=>oG g14 (vI e GTyp.f6 zfk q1.1.more) (oG g14 (za ty4 e) (oG g14 (zal e) (oG g14 (zo e) (jO 8 51 h (fun q15 h=>?_) fun J16 h hJ16=>oI h (fun g17 h=>?_) fun g17 h=>oN g17 (oN g17 (oN g17 (oN g17 (oN g17 (oN g17 (oN g17 (oG g14 (zg e g17 e) (hJ16 h 8)))))))))))))
   ·refine rn (ze h e (fun _ h=>?_) (fun _ h=>wk (ss (an e (zr (lO 11 h e fun L19 q18 Q98 h hL19 eL19 rL19=>ss (om e (oV (vI e GTyp.f4 zas q1.1.fields) (oV (za ty80 e) (oV (vN e sl80) (oV (z7 e e) (rn (ze h e (fun _ h=>?_) (fun _ h=>xn (eL19 _ _ (zw (zq (ws (oV (vI e GTyp.f4 zas q1.1.fields) (oV (za ty80 e) (oV (vN e sl80) (an e (zE (zH (.v 0 (.v 1 (.v 2 (.v 3 (.v 4 (.v 5 (.v 6 (.v 7 (.v 8 (.v 9 (.v 10 (.v 11 (.v 12 (.v 13 (.v 14 (.v 15 (.v 16 (.v 17 (.v 18 (.v 19 (.v 20 (.v 21 (.v 22 (.v 23 (.v 24 (.v 25 (.v 26 (.v 27 (.v 28 (.v 29 (.v 30 (.v 31 (.v 32 (.v 33 (.v 34 .nil))))))))))))))))))))))))))))))))))) moOrd (by kernel_rfl) (zj e (vI e GTyp.f4 zas q1.2.fields) (zj e (za ty80 e) (zj e (vN e sl80) (rm e e ?_))))))))))))))))))))))))))))
    ·exact ws (ar e (zz (zf (r1 e) k0 (iS h ▸ ⟨e,e⟩))))
    ·refine wk (zE (zr (zE (jw h Unit (fun q59 g59=>[(12,immv (q59.1)),(13,immv (q59.2))]) (fun q59 g59=>[]) k0 (fun q59 g59 h=>?_) fun J60 h hJ60=>zH (.v 0 (.v 1 (.v 2 (.v 3 (.v 4 (.v 5 (.v 6 (.v 7 (.v 8 (.v 9 (.alt 10 (.t 11 (.t 12 (.t 13 .nil))) (.t 11 (.t 10 (.t 12 (.t 13 .nil))))))))))))))) moOrd (by kernel_rfl) (zj e (vI e GTyp.f4 zas q1.1.fields) (zj e (za ty80 e) (rm e e (zd h fun y61 hy61 h=>zj e (vX e e sl80 hy61) (zj e (za ty88 e) (zj e (vI e GTyp.f4 zas q1.2.fields) (zj e (za ty80 e) (rm e e (zd h fun y62 hy62 h=>zj e (vX e e sl80 hy62) (zj e (za ty88 e) (zdu ?_ (rT e (zC _ ze88 fun b65=>rT e (zC _ ze88 fun b66=>rT e (tS ty88 e e p0 y61 (zbG (z8 12 .here e) (rT e (tS ty88 e e p0 y62 (zbG (z8 13 .here e) (z6 (hJ60 h () 14)))))))))))))))))))))))))
     ·refine ws (oV (vI e GFld.f0 zms q59.1.name) (oV (za ty9 e) (oV (vI e GFld.f0 zms q59.2.name) (oV (za ty9 e) (oV (zgX eq9 e e) (om e (jO 6 81 h (fun q67 h=>?_) fun J68 h hJ68=>oI h (fun g69 h=>?_) fun g69 h=>oG g69 (vI e GFld.f2 zjf q59.1.optional) (oG g69 (za ty4 e) (oG g69 (vI e GFld.f2 zjf q59.2.optional) (oG g69 (za ty4 e) (oG g69 (zgX eq4 e e) (oV (zg e g69 e) (hJ68 h 6)))))))))))))
      ·refine om e (jO 6 88 h (fun q70 h=>?_) fun J71 h hJ71=>oI h (fun g72 h=>?_) fun g72 h=>oG g72 (vI e GFld.f3 zgF q59.1.has) (oG g72 (za ty4 e) (oG g72 (vI e GFld.f3 zgF q59.2.has) (oG g72 (za ty4 e) (oG g72 (zgX eq4 e e) (oV (zg e g72 e) (hJ71 h 6)))))))
       ·refine om e (jO 7 96 h (fun q73 h=>?_) fun J74 h hJ74=>oI h (fun g75 h=>?_) fun g75 h=>oG g75 (vI e GFld.f4 zki q59.1.dflt) (oG g75 (za ty26 e) (oG g75 (vI e GFld.f4 zki q59.2.dflt) (oG g75 (za ty26 e) (zd h fun y76 hy76 h=>oH g75 (tC (zjw fuel hy76) hT (s2 e e) k0 (oG g75 (zal e) (oV (zg e g75 e) (hJ74 h 7)))))))))
        ·refine om e (jO 6 103 h (fun q77 h=>?_) fun J78 h hJ78=>oI h (fun g79 h=>?_) fun g79 h=>oG g79 (vI e GFld.f5 zgf q59.1.group) (oG g79 (za ty3 e) (oG g79 (vI e GFld.f5 zgf q59.2.group) (oG g79 (za ty3 e) (oG g79 (zaC e e) (oV (zg e g79 e) (hJ78 h 6)))))))
         ·refine om e (jO 9 113 h (fun q80 h=>?_) fun J81 h hJ81=>oI h (fun g82 h=>?_) fun g82 h=>oG g82 (za ty31 e) (oG g82 (vI e GFld.f1 zcf q59.1.ty) (oG g82 (za ty3 e) (oG g82 (za ty31 e) (oG g82 (vI e GFld.f1 zcf q59.2.ty) (oG g82 (za ty3 e) (zd h fun y83 hy83 h=>oH g82 (tC (zkh hy83) hT (s4 e e e e) k0 (oG g82 (zal e) (oV (zg e g82 e) (hJ81 h 9)))))))))))
          ·refine rn (ze h e (fun _ h=>?_) (fun _ h=>zJ (zx (zq (zm (om e (zy h fun q84 h=>oV (zX e e q84) (oa e (zK (hL19 h 26))))))))))
           exact ws (ar e (bn (rL19 _ (bn (zf (r1 e) k0 (iS h ▸ ⟨e,e⟩))))))
          exact oN g82 (oN g82 (oN g82 (oN g82 (oN g82 (oN g82 (oN g82 (oN g82 (oV (zh e g82 e) (hJ81 h 9)))))))))
         exact oN g79 (oN g79 (oN g79 (oN g79 (oN g79 (oV (zh e g79 e) (hJ78 h 6))))))
        exact oN g75 (oN g75 (oN g75 (oN g75 (oN g75 (oN g75 (oV (zh e g75 e) (hJ74 h 7)))))))
       exact oN g72 (oN g72 (oN g72 (oN g72 (oN g72 (oV (zh e g72 e) (hJ71 h 6))))))
      exact oN g69 (oN g69 (oN g69 (oN g69 (oN g69 (oV (zh e g69 e) (hJ68 h 6))))))
     exact rT e (zC _ ze88 fun b63=>rT e (zC _ ze88 fun b64=>rT e (tS ty88 e e p1 y61 (zbG (z8 12 .here e) (rT e (tS ty88 e e p0 y62 (zbG (z8 13 .here e) (z6 (hJ60 h () 14)))))))))
    refine zj e (zD e e) (rm e e (jD 3 125 h (fun q85 h=>?_) fun J86 h hJ86=>rJ h (fun g87 h=>?_) fun g87 h=>rG e g87 (zo e) (rG e g87 (zD e e) (zj e (zg e g87 e) (hJ86 h 3)))))
    ·refine rm e e (jD 8 134 h (fun q88 h=>?_) fun J89 h hJ89=>rJ h (fun g90 h=>?_) fun g90 h=>rG e g90 (vI e GTyp.f4 zas q1.2.fields) (rG e g90 (za ty80 e) (rG e g90 (zo e) (zd h fun y91 hy91 h=>rG e g90 (vX e e sl80 hy91) (rG e g90 (vI e GFld.f5 zgf y91.group) (rG e g90 (za ty3 e) (rG e g90 (zD e e) (zj e (zg e g90 e) (hJ89 h 8)))))))))
     ·refine rm e e (jD 15 150 h (fun q92 h=>?_) fun J93 h hJ93=>rJ h (fun g94 h=>?_) fun g94 h=>rG e g94 (vI e GTyp.f4 zas q1.2.fields) (rG e g94 (za ty80 e) (rG e g94 (zo e) (zd h fun y95 hy95 h=>rG e g94 (vX e e sl80 hy95) (rG e g94 (vI e GFld.f5 zgf y95.group) (rG e g94 (za ty3 e) (rG e g94 (vI e GTyp.f4 zas q1.1.fields) (rG e g94 (za ty80 e) (rG e g94 (zo e) (zy h fun q96 h=>rG e g94 (zcZ e e q96) (zd h fun y97 hy97 h=>rG e g94 (vX e e sl80 hy97) (rG e g94 (vI e GFld.f5 zgf y97.group) (rG e g94 (za ty3 e) (rG e g94 (zaC e e) (zj e (zg e g94 e) (hJ93 h 15))))))))))))))))
      ·exact zj e (zaj e) (z6 (zq (zaQ (zf (r1 e) k0 (iS h ▸ ⟨e,e⟩)))))
      exact rP e g94 (rP e g94 (rP e g94 (rP e g94 (rP e g94 (rP e g94 (rP e g94 (rP e g94 (rP e g94 (rP e g94 (rP e g94 (rP e g94 (rP e g94 (rP e g94 (zj e (zh e g94 e) (hJ93 h 15)))))))))))))))
     exact rP e g90 (rP e g90 (rP e g90 (rP e g90 (rP e g90 (rP e g90 (rP e g90 (zj e (zh e g90 e) (hJ89 h 8))))))))
    exact rP e g87 (rP e g87 (zj e (zh e g87 e) (hJ86 h 3)))
   ·exact oN g14 (oN g14 (oN g14 (oN g14 (oU (oU (oU (oU (oU (oU (oU (oN g14 (oV (zh e g14 e) (hJ13 h 13)))))))))))))
   ·exact oV (zg e g14 e) (hJ13 h 6)
   exact oG g17 (vI e GTyp.f4 zas q1.2.fields) (oG g17 (za ty80 e) (oG g17 (vN e sl80) (oG g17 (vI e GTyp.f4 zas q1.1.fields) (oG g17 (za ty80 e) (oG g17 (vN e sl80) (oG g17 (zaC e e) (oG g14 (zh e g17 e) (hJ16 h 8))))))))
  exact oN g11 (oN g11 (oN g11 (oN g11 (oN g11 (oN g11 (oN g11 (oV (zh e g11 e) (hJ10 h 8))))))))
 exact rT e (zC _ ze82 fun b5=>rT e (zC _ ze82 fun b6=>rT e (tS ty82 e e p1 y3 (zbG (z8 9 .here e) (rT e (tS ty82 e e p0 y4 (zbG (z8 10 .here e) (z6 (hJ2 h () 14)))))))))

theorem zoN {zdm zec} (zlm:zgj zdm) (zkh:zgL zec):zgL (zeM zdm zec):=by
 intro a_a a_i a_b a_k r h
 unfold zeM at h
 refine zi Tryz.func28 e fun w0 S0 hT=>ws (oT (tB e (oT (tB e (an e (ss (om e (oV (z7 e e) (om e (jO 6 19 h (fun q1 h=>?_) fun J2 h hJ2=>oI h (fun g3 h=>?_) fun g3 h=>oG g3 (zo e) (oG g3 (vI e GTab.f3 zbb a_a.types) (oG g3 (za ty29 e) (oG g3 (vN e sl29) (oG g3 (zbF e e) (oV (zg e g3 e) (hJ2 h 6))))))))))))))))
 ·refine om e (jO 3 23 h (fun q4 h=>?_) fun J5 h hJ5=>oI h (fun g6 h=>?_) fun g6 h=>oG g6 (zo e) (oG g6 (z7 e e) (oV (zg e g6 e) (hJ5 h 3))))
  ·refine om e (jO 6 30 h (fun q7 h=>?_) fun J8 h hJ8=>oI h (fun g9 h=>?_) fun g9 h=>oG g9 (zo e) (oG g9 (vI e GTab.f3 zbb a_b.types) (oG g9 (za ty29 e) (oG g9 (vN e sl29) (oG g9 (zbF e e) (oV (zg e g9 e) (hJ8 h 6)))))))
   ·refine rn (ze h e (fun _ h=>?_) (fun _ h=>wk (zE (jw h Unit (fun q10 g10=>[(9,immv (q10.1)),(10,immv (q10.2))]) (fun q10 g10=>[]) k0 (fun q10 g10 h=>?_) fun J11 h hJ11=>zH (.v 0 (.v 1 (.v 2 (.v 3 (.v 4 (.v 5 (.v 6 (.v 7 (.v 8 (.v 9 (.alt 10 (.t 11 (.t 12 (.t 13 .nil))) (.t 11 (.t 10 (.t 12 (.t 13 .nil))))))))))))))) moOrd (by kernel_rfl) (zj e (vI e GTab.f3 zbb a_a.types) (zj e (za ty29 e) (rm e e (zd h fun y12 hy12 h=>zj e (vX e e sl29 hy12) (zj e (za ty82 e) (zj e (vI e GTab.f3 zbb a_b.types) (zj e (za ty29 e) (rm e e (zd h fun y13 hy13 h=>zj e (vX e e sl29 hy13) (zj e (za ty82 e) (zdu ?_ (rT e (zC _ ze82 fun b16=>rT e (zC _ ze82 fun b17=>rT e (tS ty82 e e p0 y12 (zbG (z8 9 .here e) (rT e (tS ty82 e e p0 y13 (zbG (z8 10 .here e) (z6 (hJ11 h () 14)))))))))))))))))))))))))
    ·exact ws (ar e (zz (zf (r1 e) k0 (iS h ▸ ⟨e,e⟩))))
    ·refine ss (oV (vI e GTyp.f0 zbf q10.1.kind) (oV (za ty3 e) (oV (vI e GTyp.f0 zbf q10.2.kind) (oV (za ty3 e) (oV (zaC e e) (om e (jO 7 53 h (fun q18 h=>?_) fun J19 h hJ19=>oI h (fun g20 h=>?_) fun g20 h=>oG g20 (vI e GTyp.f1 ze4 q10.1.tags) (oG g20 (za ty76 e) (oG g20 (vI e GTyp.f1 ze4 q10.2.tags) (oG g20 (za ty76 e) (zd h fun y21 hy21 h=>oH g20 (tC (zlj hy21) hT (s2 e e) k0 (oG g20 (zal e) (oV (zg e g20 e) (hJ19 h 7)))))))))))))))
     ·refine om e (jO 6 60 h (fun q22 h=>?_) fun J23 h hJ23=>oI h (fun g24 h=>?_) fun g24 h=>oG g24 (vI e GTyp.f2 zdZ q10.1.con) (oG g24 (za ty78 e) (oG g24 (vI e GTyp.f2 zdZ q10.2.con) (oG g24 (za ty78 e) (oG g24 (zgX eq78 e e) (oV (zg e g24 e) (hJ23 h 6)))))))
      ·refine om e (jO 6 67 h (fun q25 h=>?_) fun J26 h hJ26=>oI h (fun g27 h=>?_) fun g27 h=>oG g27 (vI e GTyp.f6 zfk q10.1.more) (oG g27 (za ty4 e) (oG g27 (vI e GTyp.f6 zfk q10.2.more) (oG g27 (za ty4 e) (oG g27 (zgX eq4 e e) (oV (zg e g27 e) (hJ26 h 6)))))))
       ·refine rn (ze h e (fun _ h=>?_) (fun _ h=>wk (ss (oV (vI e GTyp.f0 zbf q10.1.kind) (oV (za ty3 e) (rn (zr (ws (oV (zD e e) (an e (ze h e (fun _ h=>?_) (fun _ h=>ws (oV (zD e e) (an e (ze h e (fun _ h=>?_) (fun _ h=>ss (oV (zD e e) (an e (jW 119 h (fun q43 h=>?_) fun J44 h hJ44=>ze h e (fun _ h=>?_) (fun _ h=>ws (oV (zD e e) (an e (ze h e (fun _ h=>?_) (fun _ h=>zm (oV (zD e e) (oa e (zK (hJ44 h 4))))))))))))))))))))))))))))
        ·exact ws (ar e (zz (zf (r1 e) k0 (iS h ▸ ⟨e,e⟩))))
        ·exact ws (oV (za ty31 e) (oV (vI e GTyp.f7 zku q10.1.of) (oV (za ty3 e) (oV (za ty31 e) (oV (vI e GTyp.f7 zku q10.2.of) (oV (za ty3 e) (zd h fun y28 hy28 h=>oT (tC (zkh hy28) hT (s4 e e e e) k0 (ar e (bn (zf (r1 e) k0 (iS h ▸ ⟨e,e⟩))))))))))))
        ·refine zE (zH (.v 0 (.v 1 (.v 2 (.v 3 (.v 4 (.v 5 (.v 6 (.v 7 (.v 8 (.v 9 (.v 10 (.v 11 (.v 12 (.v 13 (.v 14 (.v 15 (.v 16 (.v 17 (.v 18 (.v 19 (.v 20 (.v 21 (.v 22 (.t 23 (.v 24 (.v 25 (.v 26 (.v 27 (.v 28 (.v 29 (.v 30 (.v 31 (.v 32 (.v 33 (.v 34 (.v 35 (.v 36 (.v 37 (.v 38 .nil))))))))))))))))))))))))))))))))))))))) moOrd (by kernel_rfl) (zj e (vI e GTyp.f5 zem q10.1.root) (zj e (za ty3 e) (zj e (vI e GTyp.f5 zem q10.2.root) (zj e (za ty3 e) (zj e (zD e e) (rm e e (jD 8 94 h (fun q29 h=>?_) fun J30 h hJ30=>rJ h (fun g31 h=>?_) fun g31 h=>rP e g31 (rP e g31 (rP e g31 (rP e g31 (rP e g31 (rP e g31 (rP e g31 (zj e (zg e g31 e) (hJ30 h 8))))))))))))))))
         ·refine rm e e (jD 10 105 h (fun q32 h=>?_) fun J33 h hJ33=>rJ h (fun g34 h=>?_) fun g34 h=>rP e g34 (rP e g34 (rP e g34 (rP e g34 (rP e g34 (rP e g34 (rP e g34 (rP e g34 (zcO e e (dj:=95) e g34 (zj e (zg e g34 e) (hJ33 h 10)))))))))))
          ·refine rm e e (jD 12 118 h (fun q37 h=>?_) fun J38 h hJ38=>rJ h (fun g39 h=>?_) fun g39 h=>rP e g39 (rP e g39 (rP e g39 (rU e (rU e (rU e (rU e (rU e (rU e (rU e (rP e g39 (zj e (zg e g39 e) (hJ38 h 12)))))))))))))
           ·exact zj e (zaj e) (z6 (zq (zaQ (bn (zf (r1 e) k0 (iS h ▸ ⟨e,e⟩))))))
           refine rG e g39 (vI e GTyp.f6 zfk q10.1.more) (rG e g39 (za ty4 e) (rG e g39 (zo e) (jD 8 117 h (fun q40 h=>?_) fun J41 h hJ41=>rJ h (fun g42 h=>?_) fun g42 h=>rG e g42 (vI e GTyp.f3 zeo q10.1.items) (rG e g42 (za ty79 e) (rG e g42 (vN e sl79) (rG e g42 (vI e GTyp.f3 zeo q10.2.items) (rG e g42 (za ty79 e) (rG e g42 (vN e sl79) (rG e g42 (zD e e) (rG e g39 (zg e g42 e) (hJ41 h 8)))))))))))
           ·exact zj e (zh e g39 e) (hJ38 h 5)
           exact rP e g42 (rP e g42 (rP e g42 (rP e g42 (rP e g42 (rP e g42 (rP e g42 (rG e g39 (zh e g42 e) (hJ41 h 8))))))))
          exact rG e g34 (vI e GTyp.f3 zeo q10.2.items) (rG e g34 (za ty79 e) (rG e g34 (vI e GTyp.f3 zeo q10.1.items) (rG e g34 (za ty79 e) (rG e g34 (vN e sl79) (zad h fun q35 h=>rG e g34 (zfz (l:=q10.2.items) e hI sl79 (.inl ⟨e,e⟩) (.inr ⟨_,e,e⟩) q35.1 q35.2.1 q35.2.2) (rG e g34 (vI e GTyp.f3 zeo q10.1.items) (rG e g34 (za ty79 e) (zd h fun y36 hy36 h=>rH e g34 (tC (zkb hy36) hT (s2 e e) k0 (zj e (zh e g34 e) (hJ33 h 10)))))))))))
         exact rG e g31 (vI e GTyp.f3 zeo q10.2.items) (rG e g31 (za ty79 e) (rG e g31 (vN e sl79) (rG e g31 (vI e GTyp.f3 zeo q10.1.items) (rG e g31 (za ty79 e) (rG e g31 (vN e sl79) (rG e g31 (zbF e e) (zj e (zh e g31 e) (hJ30 h 8))))))))
        ·refine ze h e (fun _ h=>?_) (fun _ h=>zJ (zx (zq (ws (ar e (zf (r1 e) k0 (iS h ▸ ⟨e,e⟩)))))))
         exact ws (oV (za ty31 e) (om e (oV (za ty31 e) (om e (zd h fun y45 hy45 h=>oT (tC (zlm hy45) hT (s4 e e e e) k0 (ar e (bn (zf (r1 e) k0 (iS h ▸ ⟨e,e⟩))))))))))
        ·exact zJ (hJ44 h 0)
        exact zJ (hJ44 h 2)
       exact oN g27 (oN g27 (oN g27 (oN g27 (oN g27 (oV (zh e g27 e) (hJ26 h 6))))))
      exact oN g24 (oN g24 (oN g24 (oN g24 (oN g24 (oV (zh e g24 e) (hJ23 h 6))))))
     exact oN g20 (oN g20 (oN g20 (oN g20 (oN g20 (oN g20 (oV (zh e g20 e) (hJ19 h 7)))))))
    exact rT e (zC _ ze82 fun b14=>rT e (zC _ ze82 fun b15=>rT e (tS ty82 e e p1 y12 (zbG (z8 9 .here e) (rT e (tS ty82 e e p0 y13 (zbG (z8 10 .here e) (z6 (hJ11 h () 14)))))))))
   exact oN g9 (oN g9 (oN g9 (oN g9 (oN g9 (oV (zh e g9 e) (hJ8 h 6))))))
  exact oN g6 (oN g6 (oV (zh e g6 e) (hJ5 h 3)))
 exact oN g3 (oN g3 (oN g3 (oN g3 (oN g3 (oV (zh e g3 e) (hJ2 h 6))))))

theorem zhF:∀ n,zgj (zik n)∧zgL (zf8 n)
  | 0=>⟨fun h=>(by cases h),fun h=>(by cases h)⟩
  | n + 1=>by
    obtain ⟨h0,h1⟩:=zhF n
    exact ⟨znr h0 h1,zoN h0 h1⟩
theorem zql (n:Nat):zgL (zf8 n):=(zhF n).2

theorem zrV {a_a a_b r} (h:zk9 a_a a_b=some r):Ctr Tryz.prog 13 [isv a_a,isv a_b] [] (Pt [isv r.1,isv r.2] []):=by
 unfold zk9 at h
 refine zi Tryz.func13 e fun w0 S0 hT=>ws (oT (tB e (oT (tB e (oa e (an e (ss (oV (vI e GTab.f0 znT a_a.name) (oV (za ty9 e) (oV (vI e GTab.f0 znT a_b.name) (oV (za ty9 e) (oV (zgX eq9 e e) (rn (ze h e (fun _ h=>?_) (fun _ h=>wk (ss (an e (zr (lO 6 h e fun L2 q1 Q19 h hL2 eL2 rL2=>ss (om e (oV (vI e GTab.f1 zkm a_a.names) (oV (za ty27 e) (oV (vN e sl27) (oV (z7 e e) (om e (jO 6 23 h (fun q11 h=>?_) fun J12 h hJ12=>oI h (fun g13 h=>?_) fun g13 h=>oN g13 (oN g13 ?_)))))))))))))))))))))))))))
 ·exact ws (oa e (ar e (zz (zf (r2 e e) k0 (iS h ▸ ⟨e,e⟩)))))
 ·refine rn (ze h e (fun _ h=>?_) (fun _ h=>xn (eL2 _ _ (zw (zq (ws (oa e (ar e (zf (r2 e e) k0 (iS h ▸ ⟨e,e⟩))))))))))
  refine wk (zE (zr (zE (zH (.v 0 (.v 1 (.v 2 (.v 3 (.v 4 (.v 5 (.v 6 (.v 7 (.v 8 (.v 9 (.v 10 (.v 11 (.v 12 (.t 13 (.t 14 (.v 15 .nil)))))))))))))))) moOrd (by kernel_rfl) (zj e (za ty31 e) (zj e (vI e GTab.f2 zgc a_a.roots) (zj e (za ty28 e) (rm e e (zd h fun y14 hy14 h=>zj e (vX e e sl28 hy14) (zj e (za ty3 e) (zj e (za ty31 e) (zj e (za ty31 e) (zj e (vI e GTab.f1 zkm a_a.names) (zj e (za ty27 e) (rm e e (zd h fun y15 hy15 h=>zj e (vX e e sl27 hy15) (zj e (za ty9 e) (zd h fun y16 hy16 h=>rT e (tC (zmN hy16) hT (s2 e e) k0 (zd h fun y17 hy17 h=>rT e (tC (zql fuel hy17) hT (s4 e e e e) k0 (zj e (zal e) (z6 (zq (ze h e (fun _ h=>?_) (fun _ h=>zJ (zx ?_)))))))))))))))))))))))))))
  ·exact ws (om e (oa e (ar e (bn (rL2 _ (bn (zf (r2 e e) k0 (iS h ▸ ⟨e,e⟩))))))))
  exact zq (zm (om e (zy h fun q18 h=>oV (zX e e q18) (oa e (zK (hL2 h 27))))))
 ·exact oG g13 (zo e) (oG g13 (vI e GTab.f2 zgc a_a.roots) (oG g13 (za ty28 e) (oG g13 (vN e sl28) (oG g13 (z7 e e) (oV (zh e g13 e) (hJ12 h 6))))))
 exact oN g13 (oN g13 (oN g13 (oV (zg e g13 e) (hJ12 h 6))))


theorem zlQ {zgn zft zcP r} (h:zdV zgn zft zcP=some r):Ctr Tryz.prog 4 [isv zgn,isv zft,isv zcP] [] (Pt [isv r.1,isv r.2.1,isv r.2.2.1,isv r.2.2.2.1,isv r.2.2.2.2] []):=by
 unfold zdV at h
 refine zi Tryz.func4 e fun w0 S0 hT=>ws (oT (zC _ ze31 fun b1=>oa e (oT (zC _ ze31 fun b2=>oa e (an e (ws (om e (zd h fun y3 hy3 h=>oT (tC (ze2 hy3) hT (s1 e) k0 (om e (oV (zA e e) (oV (zA e e) (oT (zC _ ze31 fun b4=>oT (tS ty31 e e p0 y3.1 (zI (z8 11 .here e) (an e (ws (om e (zd h fun y5 hy5 h=>oT (tC (ze2 hy5) hT (s1 e) k0 (om e (oV (zA e e) (oV (zA e e) (oT (zC _ ze31 fun b6=>oT (tS ty31 e e p0 y5.1 (zI (z8 13 .here e) (an e (ws ?_))))))))))))))))))))))))))))))
 refine oV (za ty31 e) (om e (zd h fun y7 hy7 h=>oT (tC (zlu hy7) hT (s2 e e) k0 (om e (oV (zA e e) (oV (zA e e) (oa e (an e (ss (om e (oV (zal e) (om e (jO 3 41 h (fun q8 h=>?_) fun J9 h hJ9=>oI h (fun g10 h=>?_) fun g10 h=>oG g10 (zo e) (oG g10 (zal e) (oV (zg e g10 e) (hJ9 h 3))))))))))))))))
 ·refine om e (jO 3 45 h (fun q11 h=>?_) fun J12 h hJ12=>oI h (fun g13 h=>?_) fun g13 h=>oG g13 (zo e) (oG g13 (zal e) (oV (zg e g13 e) (hJ12 h 3))))
  ·refine rn (ze h e (fun _ h=>?_) (fun _ h=>wk (ws (oV (za ty31 e) (oV (za ty31 e) (zd h fun y14 hy14 h=>oT (tC (zrV hy14) hT (s2 e e) k0 (om e (oV (zA e e) (oV (zA e e) (oa e (an e (zE (zH (.v 0 (.v 1 (.v 2 (.v 3 (.v 4 (.v 5 (.v 6 (.v 7 (.v 8 (.v 9 (.v 10 (.v 11 (.v 12 (.t 13 (.v 14 .nil))))))))))))))) moOrd (by kernel_rfl) (zj e (za ty31 e) (zj e (vI e GTab.f1 zkm y3.1.names) (zj e (za ty27 e) (rm e e (zj e (zqP Tryz.underlying3 Tryz.underlying50 e) (zj e (vI e GTab.f2 zgc y3.1.roots) (zj e (za ty28 e) (zj e (vN e sl28) (zj e (zqP Tryz.underlying3 Tryz.underlying50 e) (zag h fun q15 h=>zj e (zqU e e q15) (zy h fun q16 h=>zj e (ziW Tryz.underlying50 Tryz.underlying3 e q16) (zd h fun y17 hy17 h=>zj e (vX e e sl27 hy17) ?_))))))))))))))))))))))))))
   ·exact zE (zH (.v 0 (.v 1 (.t 2 (.v 3 (.t 4 (.v 5 (.v 6 .nil))))))) moOrd (by kernel_rfl) (zj e (za ty31 e) (zj e (za ty31 e) (rT e (tS ty31 e e p1 y3.1 (zj e (zaj e) (rT e (tS ty31 e e p1 y5.1 (zj e (zaj e) (zj e (zaj e) (z6 (zq (zaQ (zz (zf (.cell e (.there .here) ty31 (.tmp e (.cell e .here ty31 (.tmp e (.tmp e .nil))))) k0 (iS h ▸ ⟨e,e⟩))))))))))))))))
   refine zj e (za ty9 e) (zd h fun y18 hy18 h=>rT e (tC (zmN hy18) hT (s2 e e) k0 (zj e (zaj e) (z6 (zq (zE (zH (.v 0 (.v 1 (.v 2 (.v 3 (.v 4 (.v 5 (.v 6 (.v 7 (.v 8 (.v 9 (.t 10 (.v 11 (.t 12 (.v 13 (.v 14 .nil))))))))))))))) moOrd (by kernel_rfl) (zj e (za ty31 e) (rm e e (zj e (za ty31 e) (rm e e (rm e e (zj e (zD e e) (rm e e (jD 3 77 h (fun q19 h=>?_) fun J20 h hJ20=>rJ h (fun g21 h=>?_) fun g21 h=>rP e g21 (rP e g21 (zj e (zg e g21 e) (hJ20 h 3))))))))))))))))))
   ·exact rT e (tS ty31 e e p1 y3.1 (zj e (zaj e) (rT e (tS ty31 e e p1 y5.1 (zj e (zaj e) (zj e (zaj e) (z6 (zq (zaQ (zf (.cell e (.there .here) ty31 (.tmp e (.cell e .here ty31 (.tmp e (.tmp e .nil))))) k0 (iS h ▸ ⟨e,e⟩)))))))))))
   exact rG e g21 (zo e) (rG e g21 (zbF e e) (zj e (zh e g21 e) (hJ20 h 3)))
  exact oN g13 (oN g13 (oV (zh e g13 e) (hJ12 h 3)))
 exact oN g10 (oN g10 (oV (zh e g10 e) (hJ9 h 3)))


def zjC (f':Val→Int→Option (Bool × Int)):Prop :=
 ∀ {a_v zcy zdw r},f' a_v zcy=some r→Ctr Tryz.prog 15 [isv a_v,ptrv zdw (Fld.id Int)] [boxE zdw (zcy:Int)] (Pt [isv r.1] [boxE zdw (r.2)])
theorem zpV {zkU} (zr7:zjC zkU):zjC (zht zkU):=by
 intro a_v zcy zdw r h
 unfold zht at h
 refine zi Tryz.func15 e fun w0 S0 hT=>ws (oT (tB e (an e (zE (zH (.v 0 (.v 1 (.v 2 (.v 5 (.v 6 (.v 7 (.v 8 (.v 10 (.v 11 (.v 12 (.t 3 (.v 4 (.v 9 (.v 13 (.v 14 (.t 15 .nil)))))))))))))))) moOrd (by kernel_rfl) (rm e e (rm e e (zj e (zs e) (zj e (vI e Val.f2 zbs a_v.b) (zj e (za ty22 e) (zj e (vN e sl22) (zag h fun q1 h=>zy h fun q2 h=>zj e (zsI e e q1 q2) (zj e (vI e Val.f5 zdF a_v.more) (zj e (za ty24 e) (zj e (vN e sl24) (rT e (tL ty3 e p0 zcy (zy h fun q3 h=>zj e (zcZ e e q3) (zy h fun q4 h=>zj e (zcZ e e q4) (zy h fun q5 h=>zj e (zcZ e e q5) (zj e (zs e) (rT e (tS ty3 e e p0 (((zcy - 1) - ((a_v.b.length:Int).tdiv 50)) - (a_v.more.length:Int)) (z6 (zq (ss ?_))))))))))))))))))))))))))
 refine an e (zr (lP h Unit () (fun q6 g6=>[(5,isv q6.1)]) (fun q6 g6=>[boxE zdw (q6.2:Int)]) (zB (j:=5) e hI zan) k1 fun L7 q6 g6 Q42 h hL7 eL7 rL7=>ss (om e (oV (vI e Val.f5 zdF a_v.more) (oV (za ty24 e) (oV (vN e sl24) (oV (z7 e e) (om e (jO 5 32 h (fun q25 h=>?_) fun J26 h hJ26=>oI h (fun g27 h=>?_) fun g27 h=>oN g27 (oN g27 (oN g27 (oN g27 (oV (zg e g27 e) (hJ26 h 5))))))))))))))
 ·refine rn (ze h e (fun _ h=>?_) (fun _ h=>xn (eL7 _ _ (zw (zq (ss (om e (oV (zs e) (oT (tL ty3 e p0 q6.2 (oV (z7 e e) (rn (ze h e (fun _ h=>?_) (fun _ h=>wk (ss (an e (zr (lP h Unit () (fun q33 g33=>[(6,isv q33.1)]) (fun q33 g33=>[boxE zdw (q33.2:Int)]) (zB (j:=6) e hI zan) k1 fun L34 q33 g33 Q41 h hL34 eL34 rL34=>ss (om e (oV (vI e Val.f3 zaL a_v.l) (oV (za ty23 e) (oV (vN e sl23) (oV (z7 e e) (rn (ze h e (fun _ h=>?_) (fun _ h=>xn (eL34 _ _ (zw (zq ?_)))))))))))))))))))))))))))))
  ·refine wk (zE (zr (zH (.v 0 (.v 1 (.v 2 (.v 4 (.v 5 (.v 6 (.v 7 (.v 8 (.v 9 (.v 10 (.v 11 (.t 3 (.v 12 (.v 13 (.t 14 .nil))))))))))))))) moOrd (by kernel_rfl) (rm e e (rm e e (zj e (zs e) (zj e (vI e Val.f5 zdF a_v.more) (zj e (za ty24 e) (rm e e (zd h fun y28 hy28 h=>zj e (vX e e sl24 hy28) (zj e (vI e Raw.f1 zh3 y28.b) (zj e (za ty22 e) (zj e (vN e sl22) (zag h fun q29 h=>zy h fun q30 h=>zj e (zsI e e q29 q30) (rT e (tL ty3 e p0 q6.2 (zy h fun q31 h=>zj e (zcZ e e q31) (zj e (zs e) (rT e (tS ty3 e e p0 (q6.2 - ((y28.b.length:Int).tdiv 50)) (z6 (zx (zq (zm (om e (zy h fun q32 h=>oV (zX e e q32) ?_))))))))))))))))))))))))))
   exact oa e (zK (hL7 h () 25))
  ·exact ws (ar e (zz (zf (r1 e) k1 (iS h ▸ ⟨e,e⟩))))
  ·refine wk (zE (zr (ws (oV (vI e Val.f3 zaL a_v.l) (oV (za ty23 e) (om e (zd h fun y38 hy38 h=>oV (vX e e sl23 hy38) (oV (za ty26 e) (om e (zd h fun y39 hy39 h=>oT (tC (zr7 hy39) hT (s2 e e) k1 (oV (zal e) (rn (ze h e (fun _ h=>?_) (fun _ h=>zJ (zx (zq (zm (om e (zy h fun q40 h=>oV (zX e e q40) (oa e (zK (hL34 h () 17)))))))))))))))))))))))
   exact ws (ar e (bn (rL34 _ (bn (zf (r1 e) k1 (iS h ▸ ⟨e,e⟩))))))
  exact ws (ar e (zf (r1 e) k1 (iS h ▸ ⟨e,e⟩)))
 exact oG g27 (zo e) (oG g27 (zs e) (oH g27 (tL ty3 e p0 q6.2 (oG g27 (zbF e e) (oV (zh e g27 e) (hJ26 h 5))))))

theorem zj4:∀ n,zjC (zkO n)
  | 0=>fun h=>(by cases h)
  | n + 1=>zpV (zj4 n)
theorem zrr (n:Nat):zjC (zkO n):=(zj4 n)

theorem zr0 {a_v zm7 r} (h:zkG a_v zm7=some r):Ctr Tryz.prog 5 [isv a_v,isv zm7] [] (Pt [isv r] []):=by
 unfold zkG at h
 exact zi Tryz.func5 e fun w0 S0 hT=>ws (oT (tB e (an e (ws (om e (oT (zC _ ze3 fun b1=>oT (tS ty3 e e p0 zm7 (rn (ws (oV (za ty26 e) (zd h fun y2 hy2 h=>oT (tC (zrr fuel hy2) hT (s2 e e) k1 (ar e (zf (r1 e) k0 (iS h ▸ ⟨e,e⟩))))))))))))))))


def zha (f':Val→Option (Int)):Prop :=
 ∀ {a_v r},f' a_v=some r→Ctr Tryz.prog 16 [isv a_v] [] (Pt [isv r] [])
theorem zn7 {zib} (zpn:zha zib):zha (zgb zib):=by
 intro a_v r h
 unfold zgb at h
 refine zi Tryz.func16 e fun w0 S0 hT=>ws (oT (tB e (an e (ws (an e (ss (an e (zr (lP h Unit () (fun q1 g1=>[(3,isv q1.1),(4,isv q1.2)]) (fun q1 g1=>[]) (zB (j:=3) e hI (zB (j:=4) e hI zan)) k0 fun L2 q1 g1 Q11 h hL2 eL2 rL2=>ss (om e (oV (vI e Val.f3 zaL a_v.l) (oV (za ty23 e) (oV (vN e sl23) (oV (z7 e e) (rn (ze h e (fun _ h=>?_) (fun _ h=>xn (eL2 _ _ (zw (zq (ws (om e (ar e (zf (r1 e) k0 (iS h ▸ ⟨e,e⟩)))))))))))))))))))))))))
 exact wk (zE (zr (zm (om e (oV (vI e Val.f3 zaL a_v.l) (oV (za ty23 e) (om e (zd h fun y7 hy7 h=>oV (vX e e sl23 hy7) (oV (za ty26 e) (zd h fun y8 hy8 h=>oT (tC (zpn hy8) hT (s1 e) k0 (zy h fun q9 h=>oV (zX e e q9) (oa e (rb (zq (zm (om e (zy h fun q10 h=>oV (zX e e q10) (oa e (zK (hL2 h () 19)))))))))))))))))))))

theorem ziF:∀ n,zha (zhQ n)
  | 0=>fun h=>(by cases h)
  | n + 1=>zn7 (ziF n)
theorem zpv (n:Nat):zha (zhQ n):=(ziF n)

theorem zpp {a_t a_i r} (h:zjI a_t a_i=some r):Ctr Tryz.prog 89 [isv a_t,isv a_i] [] (Pt [isv r] []):=by
 unfold zjI at h
 refine zi Tryz.func89 e fun w0 S0 hT=>ws (oT (tB e (an e (ws (om e (oV (zbF e e) (om e (jO 6 13 h (fun q1 h=>?_) fun J2 h hJ2=>oI h (fun g3 h=>?_) fun g3 h=>oN g3 (oN g3 (oN g3 (oN g3 (oN g3 (oV (zg e g3 e) (hJ2 h 6))))))))))))))
 ·exact ar e (zf (r1 e) k0 (iS h ▸ ⟨e,e⟩))
 exact oG g3 (zo e) (oG g3 (vI e GTab.f3 zbb a_t.types) (oG g3 (za ty29 e) (oG g3 (vN e sl29) (oG g3 (z7 e e) (oV (zh e g3 e) (hJ2 h 6))))))


theorem zi0 {a_t a_i r} (h:zfE a_t a_i=some r):Ctr Tryz.prog 57 [isv a_t,isv a_i] [] (Pt [isv r] []):=by
 unfold zfE at h
 refine zi Tryz.func57 e fun w0 S0 hT=>ws (oT (tB e (oa e (zI (zau) (zI (zee (α:=NL Int)) (zI (zaA 4 e nilvV) (rn (ss (oV (za ty31 e) (om e (zd h fun y3 hy3 h=>oT (tC (zpp hy3) hT (s2 e e) k0 (oV (zal e) (rn (ze h e (fun _ h=>?_) (fun _ h=>wk (ws (oV (vI e GTab.f3 zbb a_t.types) (oV (za ty29 e) (om e (zd h fun y6 hy6 h=>oV (vX e e sl29 hy6) (oV (za ty82 e) (oT (zC _ ze82 fun b7=>oT (tS ty82 e e p0 y6 (zI (z8 5 .here e) (rn (ss (oV (vI e GTyp.f0 zbf y6.kind) ?_)))))))))))))))))))))))))))))
 ·exact ws (oa e (zI (zau) (zI (zee (α:=NL Int)) (zI (zaA 4 e nilvV) (rn (zaQ (zz (zfP (zhG 4 .here e (by first | rfl | simp)) (zfP (zaA 4 e (ziZ (t:=none) (L:=(([]:(List (List Int))):List (List Int))))) (zf (r1 e) k0 (iS h ▸ ⟨e,e⟩)))))))))))
 refine oV (za ty3 e) (oV (zaC e e) (om e (jO 4 25 h (fun q8 h=>?_) fun J9 h hJ9=>oI h (fun g10 h=>?_) fun g10 h=>oN g10 (oN g10 (oN g10 (oV (zg e g10 e) (hJ9 h 4)))))))
 ·refine om e (jO 4 30 h (fun q11 h=>?_) fun J12 h hJ12=>oI h (fun g13 h=>?_) fun g13 h=>oN g13 (oN g13 (oN g13 (oV (zg e g13 e) (hJ12 h 4)))))
  ·refine rn (ze h e (fun _ h=>?_) (fun _ h=>wk (ws (oa e (zI (zau) (zI (zee (α:=NL Int)) (zI (zaA 6 e nilvV) (rn (ss (oV (vI e GTyp.f5 zem y6.root) (oV (za ty3 e) (an e (zr (lP h (Vt × Tok) (none,none) (fun q18 g18=>[(6,vecv g18.1 (q18.1.length)),(7,isv q18.2)]) (fun q18 g18=>[vecE g18.1 (nestL g18.2 (q18.1:List (List Int))),tokE g18.2]) (zB (j:=6) e (vecvE (by first | rfl | simp)) (zB (j:=7) e hI zan)) k2 fun L19 q18 g18 Q78 h hL19 eL19 rL19=>ss (om e (oV (vI e GTyp.f4 zas y6.fields) (oV (za ty80 e) (oV (vN e sl80) (oV (z7 e e) (rn (ze h e (fun _ h=>?_) (fun _ h=>xn (eL19 _ _ (zw (zq (ws (om e (ar e ?_))))))))))))))))))))))))))))
   ·exact ws (oa e (zI (zau) (zI (zee (α:=NL Int)) (zI (zaA 4 e nilvV) (rn (zaQ (zz (zfP (zhG 4 .here e (by first | rfl | simp)) (zfP (zaA 4 e (ziZ (t:=none) (L:=(([]:(List (List Int))):List (List Int))))) (zf (r1 e) k0 (iS h ▸ ⟨e,e⟩)))))))))))
   ·refine wk (zE (jw h (Vt × Tok) (fun q49 g49=>[(6,vecv g49.1 (q49.length))]) (fun q49 g49=>[vecE g49.1 (nestL g49.2 (q49:List (List Int))),tokE g49.2]) k2 (fun q49 g49 h=>?_) fun J50 h hJ50=>zr (ws (oV (vI e GTyp.f4 zas y6.fields) (oV (za ty80 e) (om e (zd h fun y51 hy51 h=>oV (vX e e sl80 hy51) (oV (vI e GFld.f5 zgf y51.group) (oV (za ty3 e) (an e (ws (oV (vI e GTyp.f0 zbf y6.kind) (oV (za ty3 e) (oV (zaC e e) (om e (jO 3 52 h (fun q52 h=>?_) fun J53 h hJ53=>oI h (fun g54 h=>?_) fun g54 h=>oN g54 (oN g54 (oV (zg e g54 e) (hJ53 h 3)))))))))))))))))))
    ·exact zm (om e (zy h fun q77 h=>oV (zX e e q77) (oa e (zK (hL19 h (g49.1,g49.2) 11)))))
    ·refine om e (jO 5 58 h (fun q55 h=>?_) fun J56 h hJ56=>oI h (fun g57 h=>?_) fun g57 h=>oN g57 (oN g57 (oN g57 (oN g57 (oV (zg e g57 e) (hJ56 h 5))))))
     ·refine om e (jO 10 69 h (fun q58 h=>?_) fun J59 h hJ59=>oI h (fun g60 h=>?_) fun g60 h=>oN g60 (oN g60 (oN g60 (oN g60 (oN g60 (oN g60 (oN g60 (oN g60 (oN g60 (oV (zg e g60 e) (hJ59 h 10)))))))))))
      ·refine rn (ze h e (fun _ h=>?_) (fun _ h=>zm (om e (om e (oT (zN (l:=([q18.2]:(List Int))) el28 (.cons e hI .nil) e e (zI (zau) (oT (zN (l:=[NL.mk (([q18.2]:(List Int))) (some none)]) el125 (.cons e zoB .nil) e e (zag h fun q76 h=>oT (zjA (m:=[NL.mk (([q18.2]:(List Int))) (some none)]) zlq e e zG (.there .here) (by first | rfl | simp) (by rw [zd7];exact q76) fun v75=>zI (zpx .here) (zI (zaA (R':=vecv v75 (q18.1 ++ [([q18.2]:(List Int))]).length) 88 e (vecvE (by simp))) (oa e (rb (hJ50 h (v75,none) 23)))))))))))))))
       refine zm (om e (om e (oV (zjm sl125 e) (zy h fun q63 h=>oV (zcZ e e q63) (om e (om e (oV (zjm sl125 e) (zy h fun q64 h=>oV (zcZ e e q64) (zad h fun q65 h=>oV (zco (α:=NL Int) sl125 e e q65.1 q65.2) (zad h fun q66 h=>zd h fun y67 hy67 h=>oT (zc1 ty28 e .here (zgS q66 hy67) (zI (zaA 79 e zto) (om e (oT (zN (l:=([q18.2]:(List Int))) el28 (.cons e hI .nil) e e (zag h fun q70 h=>oT (za7 (l:=y67) (m:=([q18.2]:(List Int))) zeA e hI e zG (.there .here) q70 fun t69=>zad h fun q71 h=>oV (zco (α:=NL Int) sl125 e e q71.1 q71.2) (zad h fun q72 h=>zd h fun y73 hy73 h=>zI (zaA 82 e zoB) (oT (zfc ty28 e e (.there .here) (zgS q72 hy73) (zI (zoQ .here (zlJ q72)) (zI (zaA (R':=vecv g18.1 (q18.1.set ((((q18.1.length:Nat):Int) - (1:Int)).toNat) (y67 ++ ([q18.2]:(List Int)))).length) 6 e (vecvE (by simp))) (zI (zaA (R':=vecv g18.1 (q18.1.set ((((q18.1.length:Nat):Int) - (1:Int)).toNat) (y67 ++ ([q18.2]:(List Int)))).length) 70 e (vecvE (by simp))) ?_)))))))))))))))))))))))
       exact zI (zaA (R':=vecv g18.1 (q18.1.set ((((q18.1.length:Nat):Int) - (1:Int)).toNat) (y67 ++ ([q18.2]:(List Int)))).length) 71 e (vecvE (by simp))) (zI (zaA (R':=vecv g18.1 (q18.1.set ((((q18.1.length:Nat):Int) - (1:Int)).toNat) (y67 ++ ([q18.2]:(List Int)))).length) 74 e (vecvE (by simp))) (zI (zaA (R':=vecv g18.1 (q18.1.set ((((q18.1.length:Nat):Int) - (1:Int)).toNat) (y67 ++ ([q18.2]:(List Int)))).length) 75 e (vecvE (by simp))) (rb (hJ50 h (g18.1,t69) 37))))
      exact oG g60 (vI e GTyp.f4 zas y6.fields) (oG g60 (za ty80 e) (oG g60 (zo e) (zy h fun q61 h=>oG g60 (zcZ e e q61) (zd h fun y62 hy62 h=>oG g60 (vX e e sl80 hy62) (oG g60 (vI e GFld.f5 zgf y62.group) (oG g60 (za ty3 e) (oG g60 (zo e) (oG g60 (zD e e) (oV (zh e g60 e) (hJ59 h 10))))))))))
     exact oG g57 (zo e) (oG g57 (vI e GTyp.f5 zem y6.root) (oG g57 (za ty3 e) (oG g57 (zbc e e) (oV (zh e g57 e) (hJ56 h 5)))))
    exact oG g54 (zo e) (oG g54 (zbc e e) (oV (zh e g54 e) (hJ53 h 3)))
   exact zfP (zhG 4 .here e (by first | rfl | simp)) (zfP (zaA 4 e (ziZ (t:=g18.2) (L:=(q18.1:List (List Int))))) (zf (r1 e) k0 (iS h ▸ ⟨e,e⟩)))
  exact oG g13 (vI e GTyp.f0 zbf y6.kind) (oG g13 (za ty3 e) (oG g13 (zaC e e) (oV (zh e g13 e) (hJ12 h 4))))
 exact oG g10 (vI e GTyp.f0 zbf y6.kind) (oG g10 (za ty3 e) (oG g10 (zaC e e) (oV (zh e g10 e) (hJ9 h 4))))


theorem zlP {a_b r} (h:zd0 a_b=some r):Ctr Tryz.prog 141 [isv a_b] [] (Pt [isv r.1,isv r.2.1,isv r.2.2] []):=by
 unfold zd0 at h
 refine zi Tryz.func141 e fun w0 S0 hT=>ws (oa e (oa e (an e (ws (an e (ss (an e (zr (lP h Unit () (fun q1 g1=>[(5,isv q1.1),(6,isv q1.2)]) (fun q1 g1=>[]) (zB (j:=5) e hI (zB (j:=6) e hI zan)) k0 fun L2 q1 g1 Q27 h hL2 eL2 rL2=>ss (om e (om e (oV (vN e sl22) (oV (z7 e e) (rn (ze h e (fun _ h=>?_) (fun _ h=>xn (eL2 _ _ (zw (zq (ws (oa e (oa e (ar e (zf (.tmp e (.tmp e (.tmp e .nil))) k0 (iS h ▸ ⟨e,e⟩)))))))))))))))))))))))))
 refine wk (zE (zr (ss (om e (oV (zD e e) (om e (jO 5 20 h (fun q15 h=>?_) fun J16 h hJ16=>oI h (fun g17 h=>?_) fun g17 h=>oN g17 (oN g17 (oN g17 (oN g17 (oV (zg e g17 e) (hJ16 h 5))))))))))))
 ·refine om e (jO 3 24 h (fun q19 h=>?_) fun J20 h hJ20=>oI h (fun g21 h=>?_) fun g21 h=>oG g21 (zo e) (oG g21 (ztL e e) (oV (zg e g21 e) (hJ20 h 3))))
  ·refine rn (ze h e (fun _ h=>?_) (fun _ h=>wk (ws (om e (zag h fun q22 h=>oV (zfo e e q22) (om e (om e (zd h fun y23 hy23 h=>oV (vX e e sl22 hy23) (oV (za ty5 e) (oV (zkl e e) (oV (zdL Tryz.underlying5 Tryz.underlying168 e) (oV (zeP e e) (an e (ws (om e (om e (zd h fun y24 hy24 h=>oV (vX e e sl22 hy24) (oV (za ty5 e) (oV (zen e e) (rn (ze h e (fun _ h=>?_) (fun _ h=>zJ (zx (zq (zm (om e ?_))))))))))))))))))))))))))
   ·exact ws (oa e (oa e (ar e (zz (bn (rL2 _ (bn (zf (.tmp e (.tmp e (.tmp e .nil))) k0 (iS h ▸ ⟨e,e⟩)))))))))
   ·exact ws (om e (om e (zy h fun q25 h=>oV (zX e e q25) (oa e (oa e (ar e (bn (rL2 _ (bn (zf (.tmp e (.tmp e (.tmp e .nil))) k0 (iS h ▸ ⟨e,e⟩)))))))))))
   exact zy h fun q26 h=>oV (zX e e q26) (oa e (zK (hL2 h () 30)))
  exact oN g21 (oN g21 (oV (zh e g21 e) (hJ20 h 3)))
 exact oG g17 (zo e) (zd h fun y18 hy18 h=>oG g17 (vX e e sl22 hy18) (oG g17 (za ty5 e) (oG g17 (zb6 eq5 e e) (oV (zh e g17 e) (hJ16 h 5)))))


theorem zm5 {a_v r} (h:zfp a_v=some r):Ctr Tryz.prog 152 [isv a_v] [] (Pt [isv r] []):=by
 unfold zfp at h
 refine zi Tryz.func152 e fun w0 S0 hT=>ws (an e (ws (om e (oV (zqR Tryz.underlying168 Tryz.underlying5 e) (oT (zN (l:=([a_v.toUInt8]:(List UInt8))) el22 (.cons e hI .nil) e e (an e (zE (zr (zhO (zau) (lP h Tok none (fun q2 g2=>[(0,isv q2.1),(3,appv g2 q2.2)]) (fun q2 g2=>[tokE g2]) (zB (j:=0) e hI (zB (j:=3) e hI zan)) k1 fun L3 q2 g2 Q10 h hL3 eL3 rL3=>ss (om e (oV (zjO e e) (rn (ze h e (fun _ h=>?_) (fun _ h=>xn (eL3 _ _ (zw (zq (ws (om e (ar e (zf (.as e zG .nil) k0 (iS h ▸ ⟨e,e⟩))))))))))))))))))))))))
 exact wk (zr (ws (om e (oV (zqN (q:=(8:UInt64)) e e (by decide)) (an e (zm (om e (oV (zqR Tryz.underlying168 Tryz.underlying5 e) (oT (zN (l:=([(q2.1 >>> (8:UInt64)).toUInt8]:(List UInt8))) el22 (.cons e hI .nil) e e (om e (zI (zau) (zag h fun q9 h=>oT (za7 (l:=([(q2.1 >>> (8:UInt64)).toUInt8]:(List UInt8))) (m:=q2.2) zkR e hI e zG .here q9 fun t8=>oa e (rb (hL3 h t8 13))))))))))))))))


theorem zkD {a_b r} (h:zdf a_b=some r):Ctr Tryz.prog 142 [isv a_b] [] (Pt [isv r.1,isv r.2] []):=by
 unfold zdf at h
 refine zi Tryz.func142 e fun w0 S0 hT=>ws (oa e (an e (ss (om e (oV (vN e sl22) (oV (zD e e) (rn (ze h e (fun _ h=>?_) (fun _ h=>wk (ss (om e (oV (vN e sl22) (oV (zbc e e) (rn (ze h e (fun _ h=>?_) (fun _ h=>wk (ws (an e (ss (an e (zr (lP h Unit () (fun q1 g1=>[(4,isv q1.1),(5,isv q1.2)]) (fun q1 g1=>[]) (zB (j:=4) e hI (zB (j:=5) e hI zan)) k0 fun L2 q1 g1 Q13 h hL2 eL2 rL2=>ss (om e (om e (oV (vN e sl22) (oV (z7 e e) (rn ?_)))))))))))))))))))))))))))
 ·exact ws (oa e (ar e (zz (zf (r2 e e) k0 (iS h ▸ ⟨e,e⟩)))))
 ·exact ws (oa e (ar e (zz (zf (r2 e e) k0 (iS h ▸ ⟨e,e⟩)))))
 refine ze h e (fun _ h=>?_) (fun _ h=>xn (eL2 _ _ (zw (zq (ss (om e (zd h fun y11 hy11 h=>oT (tC (zm5 hy11) hT (s1 e) k0 (om e (zd h fun y12 hy12 h=>oT (tC (zlF hy12) hT (s2 e e) k0 (oV (zal e) (rn (ze h e (fun _ h=>?_) (fun _ h=>wk (ws (om e (oa e (ar e (zf (r2 e e) k0 (iS h ▸ ⟨e,e⟩)))))))))))))))))))))
 ·exact wk (zE (zr (zm (om e (zag h fun q8 h=>oV (zfo e e q8) (om e (om e (zd h fun y9 hy9 h=>oV (vX e e sl22 hy9) (oV (za ty5 e) (oV (zdL Tryz.underlying5 Tryz.underlying168 e) (oV (zeP e e) (oa e (rb (zq (zm (om e (zy h fun q10 h=>oV (zX e e q10) (oa e (zK (hL2 h () 18))))))))))))))))))))
 exact ws (oa e (ar e (zz (zf (r2 e e) k0 (iS h ▸ ⟨e,e⟩)))))


theorem zmP {a_b r} (h:zfj a_b=some r):Ctr Tryz.prog 122 [isv a_b] [] (Pt [isv r.1,isv r.2.1,isv r.2.2.1,isv r.2.2.2.1,isv r.2.2.2.2] []):=by
 unfold zfj at h
 refine zi Tryz.func122 e fun w0 S0 hT=>ws (oT (zC _ ze121 fun b1=>oa e (oa e (oa e (an e (ss (om e (oV (vN e sl22) (oV (zD e e) (rn (ze h e (fun _ h=>?_) (fun _ h=>wk (zE (zH (.v 0 (.v 1 (.v 2 (.v 3 (.v 4 (.v 5 (.v 6 (.v 7 (.v 8 (.v 9 (.v 10 (.t 11 (.t 12 .nil))))))))))))) moOrd (by kernel_rfl) (rm e e (zd h fun y2 hy2 h=>zj e (vX e e sl22 hy2) (zj e (za ty5 e) (zag h fun q3 h=>zj e (zpZ e e q3) (zj e (zlX Tryz.underlying5 Tryz.underlying3 e) (rm e e (zd h fun y4 hy4 h=>zj e (vX e e sl22 hy4) (zj e (za ty5 e) (zj e (zkl e e) (zj e (zlX Tryz.underlying5 Tryz.underlying3 e) (zj e (zaa (z:=(Tag.mk ((shr8 y2 (6:UInt64).toNat).toNat:Int) ((y4 &&& (31:UInt8)).toNat:Int))) e bu121 ze121 (.cons Tag.f0 zff e hI (.cons Tag.f1 zcS e hI .nil))) ?_)))))))))))))))))))))))))
 ·exact ws (oV (zaa (z:=(Tag.mk (0:Int) (0:Int))) e bu121 ze121 .nil) (oT (tS ty121 e e p0 ⟨0,0⟩ (oa e (oa e (oa e (ar e (zz (zf (.cell e .here ty121 (.tmp e (.tmp e (.tmp e (.tmp e .nil))))) k0 (iS h ▸ ⟨e,e⟩))))))))))
 refine rT e (zC _ ze121 fun b5=>rT e (tS ty121 e e p0 ⟨((shr8 y2 (6:UInt64).toNat).toNat:Int),((y4 &&& 31).toNat:Int)⟩ (z6 (zq (ws (om e (zd h fun y6 hy6 h=>oV (vX e e sl22 hy6) (oV (za ty5 e) (oV (zkl e e) (oV (zgX eq5 e e) (an e (ws (an e (ss (oV (zV e Tag.f1 zcS) (oT (tL ty3 e p0 ((y4 &&& 31).toNat) (oV (zD e e) (rn (jw h Unit (fun q7 g7=>[(9,isv q7.1)]) (fun q7 g7=>[boxE b5 (q7.2:Tag)]) k1 (fun q7 g7 h=>?_) fun J8 h hJ8=>ze h e (fun _ h=>?_) (fun _ h=>zJ (hJ8 h () 0))))))))))))))))))))))
 ·refine ss (om e (om e (oV (vN e sl22) (oV (zbF e e) (rn (ze h e (fun _ h=>?_) (fun _ h=>wk (ws (om e (om e (zd h fun y16 hy16 h=>oV (vX e e sl22 hy16) (oV (za ty5 e) (oV (zlX Tryz.underlying5 Tryz.underlying3 e) (an e (ws (om e (zy h fun q17 h=>oV (zX e e q17) (an e (ss (om e (oV (zbF e e) (rn (jw h Unit (fun q18 g18=>[(9,isv q18.1),(13,isv q18.2)]) (fun q18 g18=>[]) k0 (fun q18 g18 h=>?_) fun J19 h hJ19=>ze h e (fun _ h=>?_) (fun _ h=>zJ (hJ19 h () 0)))))))))))))))))))))))))
  ·exact ws (oV (zaa (z:=(Tag.mk (0:Int) (0:Int))) e bu121 ze121 .nil) (oT (tS ty121 e e p1 ⟨0,0⟩ (oa e (oa e (oa e (ar e (zz (zf (.cell e .here ty121 (.tmp e (.tmp e (.tmp e (.tmp e .nil))))) k0 (iS h ▸ ⟨e,e⟩))))))))))
  ·exact ws (oT (tL ty121 e p0 q7.2 (om e (om e (om e (oT (tS ty121 e e p1 q7.2 (oa e (oa e (oa e (ar e (zf (.cell e .here ty121 (.tmp e (.tmp e (.tmp e (.tmp e .nil))))) k0 (iS h ▸ ⟨e,e⟩)))))))))))))
  refine ws (om e (zy h fun q20 h=>oV (zcZ e e q20) (an e (ss (om e (oV (zD e e) (om e (jO 3 84 h (fun q21 h=>?_) fun J22 h hJ22=>oI h (fun g23 h=>?_) fun g23 h=>oG g23 (zo e) (oG g23 (zbc e e) (oV (zg e g23 e) (hJ22 h 3)))))))))))
  ·refine rn (ze h e (fun _ h=>?_) (fun _ h=>wk (ss (om e (oV (vN e sl22) (om e (zy h fun q24 h=>oV (zcZ e e q24) (om e (oV (z7 e e) (rn (ze h e (fun _ h=>?_) (fun _ h=>wk (ws (om e (om e (om e (om e (zy h fun q25 h=>oV (zX e e q25) (zad h fun q26 h=>oV (zfz (l:=a_b) e hI sl22 (.inr ⟨_,e,e⟩) (.inr ⟨_,e,e⟩) q26.1 q26.2.1 q26.2.2) (zd h fun y27 hy27 h=>oT (tC (zkD hy27) hT (s1 e) k0 (om e (oV (zA e e) (oV (zA e e) (oa e (an e ?_))))))))))))))))))))))))))
   ·exact ws (oV (zaa (z:=(Tag.mk (0:Int) (0:Int))) e bu121 ze121 .nil) (oT (tS ty121 e e p1 ⟨0,0⟩ (oa e (oa e (oa e (ar e (zz (zz (zf (.cell e .here ty121 (.tmp e (.tmp e (.tmp e (.tmp e .nil))))) k0 (iS h ▸ ⟨e,e⟩)))))))))))
   ·exact ws (oV (zaa (z:=(Tag.mk (0:Int) (0:Int))) e bu121 ze121 .nil) (oT (tS ty121 e e p1 ⟨0,0⟩ (oa e (oa e (oa e (ar e (zz (zz (zf (.cell e .here ty121 (.tmp e (.tmp e (.tmp e (.tmp e .nil))))) k0 (iS h ▸ ⟨e,e⟩)))))))))))
   refine ss (om e (oV (zaC e e) (om e (jO 3 108 h (fun q28 h=>?_) fun J29 h hJ29=>oI h (fun g30 h=>?_) fun g30 h=>oG g30 (zo e) (oG g30 (zmh e e) (oV (zg e g30 e) (hJ29 h 3)))))))
   ·refine om e (jO 3 112 h (fun q31 h=>?_) fun J32 h hJ32=>oI h (fun g33 h=>?_) fun g33 h=>oG g33 (zo e) (oG g33 (zjO e e) (oV (zg e g33 e) (hJ32 h 3))))
    ·refine rn (ze h e (fun _ h=>?_) (fun _ h=>wk (zm (om e (zy h fun q34 h=>oV (ziW Tryz.underlying168 Tryz.underlying3 e q34) (om e (om e (zy h fun q35 h=>oV (zX e e q35) (oa e (oa e (zK (hJ19 h () 38))))))))))))
     exact ws (oV (zaa (z:=(Tag.mk (0:Int) (0:Int))) e bu121 ze121 .nil) (oT (tS ty121 e e p1 ⟨0,0⟩ (oa e (oa e (oa e (ar e (zz (zz (zf (.cell e .here ty121 (.tmp e (.tmp e (.tmp e (.tmp e .nil))))) k0 (iS h ▸ ⟨e,e⟩)))))))))))
    exact oN g33 (oN g33 (oV (zh e g33 e) (hJ32 h 3)))
   exact oN g30 (oN g30 (oV (zh e g30 e) (hJ29 h 3)))
  exact oN g23 (oN g23 (oV (zh e g23 e) (hJ22 h 3)))
 refine ws (om e (zad h fun q9 h=>oV (zfz (l:=a_b) e hI sl22 (.inr ⟨_,e,e⟩) (.inl ⟨e,e⟩) q9.1 q9.2.1 q9.2.2) (zd h fun y10 hy10 h=>oT (tC (zlP hy10) hT (s1 e) k0 (om e (oV (zA e e) (oV (zA e e) (oV (zA e e) (oa e (oa e (an e (ss (om e (oV (zaC e e) (rn (ze h e (fun _ h=>?_) (fun _ h=>wk (ss (om e (oV (zmh e e) (om e (jO 3 56 h (fun q11 h=>?_) fun J12 h hJ12=>oI h (fun g13 h=>?_) fun g13 h=>oG g13 (zo e) (oG g13 (zjO e e) (oV (zg e g13 e) (hJ12 h 3)))))))))))))))))))))))))
 ·exact ws (oV (zaa (z:=(Tag.mk (0:Int) (0:Int))) e bu121 ze121 .nil) (om e (oT (tS ty121 e e p1 ⟨0,0⟩ (oa e (oa e (oa e (ar e (zz (zz (zf (.cell e .here ty121 (.tmp e (.tmp e (.tmp e (.tmp e .nil))))) k0 (iS h ▸ ⟨e,e⟩))))))))))))
 ·refine rn (ze h e (fun _ h=>?_) (fun _ h=>wk (zm (om e (zy h fun q14 h=>oV (ziW Tryz.underlying168 Tryz.underlying3 e q14) (om e (zy h fun q15 h=>oV (zX e e q15) (oV (zV e Tag.f1 zcS) (oT (tS ty3 e e p0 ⟨((shr8 y2 (6:UInt64).toNat).toNat:Int),(y10.1.toNat:Int)⟩ (oa e (zK (hJ8 h () 22)))))))))))))
  exact ws (oV (zaa (z:=(Tag.mk (0:Int) (0:Int))) e bu121 ze121 .nil) (oT (tS ty121 e e p1 ⟨0,0⟩ (oa e (oa e (oa e (ar e (zz (zz (zf (.cell e .here ty121 (.tmp e (.tmp e (.tmp e (.tmp e .nil))))) k0 (iS h ▸ ⟨e,e⟩)))))))))))
 exact oN g13 (oN g13 (oV (zh e g13 e) (hJ12 h 3)))


theorem znd {a_b r} (h:zhb a_b=some r):Ctr Tryz.prog 123 [isv a_b] [] (Pt [isv r] []):=by
 unfold zhb at h
 exact zi Tryz.func123 e fun w0 S0 hT=>ws (an e (ws (om e (zag h fun q2 h=>oT (zlv (m:=a_b) zkR e e hI q2 fun t1=>ar e (zf (.as e zG .nil) k0 (iS h ▸ ⟨e,e⟩)))))))


theorem zqf {a_b r} (h:ziX a_b=some r):Ctr Tryz.prog 90 [isv a_b] [] (Pt [isv r.1,isv r.2.1,isv r.2.2.1,isv r.2.2.2.1,isv r.2.2.2.2] []):=by
 unfold ziX at h
 refine zi Tryz.func90 e fun w0 S0 hT=>ws (oT (zC _ ze121 fun b1=>oa e (oa e (oa e (an e (ws (om e (zd h fun y2 hy2 h=>oT (tC (zmP hy2) hT (s1 e) k0 (om e (oV (zA e e) (oV (zA e e) (oV (zA e e) (oV (zA e e) (oV (zA e e) (oT (zC _ ze121 fun b3=>oT (tS ty121 e e p0 y2.1 (zI (z8 7 .here e) (oa e (oa e (oa e (an e (ss (om e (oV (zaC e e) (rn (ze h e (fun _ h=>?_) (fun _ h=>wk ?_)))))))))))))))))))))))))))))
 ·exact ws (oV (zaa (z:=(Tag.mk (0:Int) (0:Int))) e bu121 ze121 .nil) (om e (oT (tS ty121 e e p0 ⟨0,0⟩ (oa e (oa e (oa e (ar e (zz (zf (.cell e .here ty121 (.tmp e (.as e (zcU (α:=UInt8)) (.tmp e (.tmp e .nil))))) k0 (iS h ▸ ⟨e,e⟩)))))))))))
 refine ss (om e (om e (oV (vN e sl22) (om e (zy h fun q4 h=>oV (zcZ e e q4) (oV (zbc e e) (rn (ze h e (fun _ h=>?_) (fun _ h=>wk (zE (zH (.v 0 (.v 1 (.v 2 (.v 3 (.v 4 (.v 5 (.v 6 (.v 7 (.v 9 (.v 10 (.v 11 (.t 8 (.t 12 (.v 13 (.v 14 (.v 15 (.v 16 .nil))))))))))))))))) moOrd (by kernel_rfl) (zj e (za ty121 e) (rm e e (rm e e (rm e e (rm e e (rm e e (zy h fun q5 h=>zj e (zX e e q5) (zad h fun q6 h=>zj e (zfz (l:=a_b) e hI sl22 (.inr ⟨_,e,e⟩) (.inr ⟨_,e,e⟩) q6.1 q6.2.1 q6.2.2) (rm e e (rm e e (zy h fun q7 h=>zj e (zX e e q7) (zd h fun y8 hy8 h=>rT e (tC (znd hy8) hT (s1 e) k0 (rT e (tS ty121 e e p0 y2.1 ?_))))))))))))))))))))))))))
 ·exact ws (oV (zaa (z:=(Tag.mk (0:Int) (0:Int))) e bu121 ze121 .nil) (oT (tS ty121 e e p0 ⟨0,0⟩ (oa e (oa e (oa e (ar e (zz (zf (.cell e .here ty121 (.tmp e (.as e (zcU (α:=UInt8)) (.tmp e (.tmp e .nil))))) k0 (iS h ▸ ⟨e,e⟩))))))))))
 exact zj e (zaj e) (zj e (zaj e) (zj e (zaj e) (zj e (zaj e) (z6 (zq (zaQ (zf (.cell e .here ty121 (.tmp e (.tmp e (.tmp e (.tmp e .nil))))) k0 (iS h ▸ ⟨e,e⟩))))))))


def zfg (f':(List GTyp)→Int→Option ((List Tag))):Prop :=
 ∀ {a_l a_i r},f' a_l a_i=some r→Ctr Tryz.prog 125 [isv a_l,isv a_i] [] (Pt [isv r] [])
theorem zma {zfU} (zm9:zfg zfU):zfg (zd3 zfU):=by
 intro a_l a_i r h
 unfold zd3 at h
 refine zi Tryz.func125 e fun w0 S0 hT=>ws (an e (ss (om e (om e (zd h fun y1 hy1 h=>oV (vX e e sl29 hy1) (oV (vI e GTyp.f1 ze4 y1.tags) (oV (za ty76 e) (oV (vN e sl76) (oV (zbc e e) (rn (ze h e (fun _ h=>?_) (fun _ h=>wk (ws (an e (ss (an e (zr (zhO (zau) (lP h Tok none (fun q4 g4=>[(5,appv g4 q4.1),(6,isv q4.2)]) (fun q4 g4=>[tokE g4]) (zB (j:=5) e zbI (zB (j:=6) e hI zan)) k1 fun L5 q4 g4 Q21 h hL5 eL5 rL5=>ss (om e (om e (om e (zd h fun y13 hy13 h=>oV (vX e e sl29 hy13) (oV (vI e GTyp.f4 zas y13.fields) (oV (za ty80 e) ?_)))))))))))))))))))))))))
 ·exact ws (om e (om e (zd h fun y2 hy2 h=>oV (vX e e sl29 hy2) (oV (vI e GTyp.f1 ze4 y2.tags) (oV (za ty76 e) (zad h fun q3 h=>oV (zfz (l:=y2.tags) e hI sl76 (.inl ⟨e,e⟩) (.inr ⟨_,e,e⟩) q3.1 q3.2.1 q3.2.2) (ar e (zz (zf (r1 e) k0 (iS h ▸ ⟨e,e⟩))))))))))
 refine oV (vN e sl80) (oV (z7 e e) (rn (ze h e (fun _ h=>?_) (fun _ h=>xn (eL5 _ _ (zw (zq (ws (om e (ar e (zf (.as e zG .nil) k0 (iS h ▸ ⟨e,e⟩))))))))))))
 refine wk (zE (zr (zm (om e (om e (om e (om e (zd h fun y14 hy14 h=>oV (vX e e sl29 hy14) (oV (vI e GTyp.f4 zas y14.fields) (oV (za ty80 e) (om e (zd h fun y15 hy15 h=>oV (vX e e sl80 hy15) (oV (vI e GFld.f1 zcf y15.ty) (oV (za ty3 e) (zd h fun y16 hy16 h=>oT (tC (zm9 hy16) hT (s2 e e) k0 (zag h fun q18 h=>oT (za7 (l:=q4.1) (m:=y16) zhc e hI e hI .here q18 fun t17=>oa e (rb (zq (zm (om e (zy h fun q19 h=>oV (zX e e q19) (oa e (zK ?_)))))))))))))))))))))))))
 exact hL5 h t17 27

theorem zgE:∀ n,zfg (ze8 n)
  | 0=>fun h=>(by cases h)
  | n + 1=>zma (zgE n)
theorem zm4 (n:Nat):zfg (ze8 n):=(zgE n)

theorem zn4 {a_t a_i r} (h:zgJ a_t a_i=some r):Ctr Tryz.prog 93 [isv a_t,isv a_i] [] (Pt [isv r] []):=by
 unfold zgJ at h
 refine zi Tryz.func93 e fun w0 S0 hT=>ws (oT (tB e (an e (ss (om e (oV (z7 e e) (om e (jO 6 13 h (fun q1 h=>?_) fun J2 h hJ2=>oI h (fun g3 h=>?_) fun g3 h=>oG g3 (zo e) (oG g3 (vI e GTab.f3 zbb a_t.types) (oG g3 (za ty29 e) (oG g3 (vN e sl29) (oG g3 (zbF e e) (oV (zg e g3 e) (hJ2 h 6))))))))))))))
 ·refine rn (ze h e (fun _ h=>?_) (fun _ h=>wk (ws (oV (vI e GTab.f3 zbb a_t.types) (oV (za ty29 e) (om e (zd h fun y4 hy4 h=>oT (tC (zm4 fuel hy4) hT (s2 e e) k0 (zag h fun q6 h=>oT (zlv (m:=y4) zhc e e hI q6 fun t5=>ar e (zf (.as e zG .nil) k0 (iS h ▸ ⟨e,e⟩))))))))))))
  exact ws (ar e (zz (zf (.as e (zcU (α:=Tag)) .nil) k0 (iS h ▸ ⟨e,e⟩))))
 exact oN g3 (oN g3 (oN g3 (oN g3 (oN g3 (oV (zh e g3 e) (hJ2 h 6))))))


theorem zk6 {a_t a_i a_b r} (h:zfC a_t a_i a_b=some r):Ctr Tryz.prog 58 [isv a_t,isv a_i,isv a_b] [] (Pt [isv r.1,isv r.2] []):=by
 unfold zfC at h
 refine zi Tryz.func58 e fun w0 S0 hT=>ws (oT (tB e (oT (zC _ ze121 fun b1=>an e (ws (om e (zd h fun y2 hy2 h=>oT (tC (zqf hy2) hT (s1 e) k0 (om e (oV (zA e e) (oV (zA e e) (oV (zA e e) (oV (zA e e) (oV (zA e e) (oT (zC _ ze121 fun b3=>oT (tS ty121 e e p0 y2.1 (zI (z8 8 .here e) (oa e (oa e (oa e (an e (ss (om e (oV (zaC e e) (om e (jO 5 30 h (fun q4 h=>?_) fun J5 h hJ5=>oI h (fun g6 h=>?_) fun g6 h=>oG g6 (zo e) (oG g6 (zo e) ?_))))))))))))))))))))))))))))
 ·refine rn (ze h e (fun _ h=>?_) (fun _ h=>wk (ws (an e (ss (oV (vI e GTab.f3 zbb a_t.types) (oV (za ty29 e) (om e (zd h fun y7 hy7 h=>oV (vX e e sl29 hy7) (oV (vI e GTyp.f0 zbf y7.kind) (oV (za ty3 e) (oV (zD e e) (rn (jW 13 h (fun q8 h=>?_) fun J9 h hJ9=>ze h e (fun _ h=>?_) (fun _ h=>zJ (hJ9 h 0))))))))))))))))
  ·exact ws (oV (za ty121 e) (oT (tS ty121 e e p0 y2.1 (ar e (zz (zf (.cell e .here ty121 (.tmp e .nil)) k0 (iS h ▸ ⟨e,e⟩)))))))
  ·refine ss (om e (an e (zr (lO 14 h e fun L13 q12 Q26 h hL13 eL13 rL13=>ss (om e (oV (vI e GTab.f3 zbb a_t.types) (oV (za ty29 e) (om e (zd h fun y20 hy20 h=>oV (vX e e sl29 hy20) (oV (vI e GTyp.f4 zas y20.fields) (oV (za ty80 e) (oV (vN e sl80) (oV (z7 e e) (rn (ze h e (fun _ h=>?_) (fun _ h=>xn (eL13 _ _ (zw (zq (ws (oV (za ty121 e) (oT (tS ty121 e e p0 y2.1 (ar e (zf (.cell e .here ty121 (.tmp e .nil)) k0 (iS h ▸ ⟨e,e⟩))))))))))))))))))))))))))
   refine wk (zE (zr (zE (zH (.v 0 (.v 1 (.v 2 (.v 3 (.v 4 (.v 5 (.v 6 (.v 7 (.v 8 (.v 9 (.v 10 (.v 12 (.t 11 (.t 13 .nil)))))))))))))) moOrd (by kernel_rfl) (zj e (za ty31 e) (zj e (vI e GTab.f3 zbb a_t.types) (zj e (za ty29 e) (rm e e (zd h fun y21 hy21 h=>zj e (vX e e sl29 hy21) (zj e (vI e GTyp.f4 zas y21.fields) (zj e (za ty80 e) (rm e e (zd h fun y22 hy22 h=>zj e (vX e e sl80 hy22) (zj e (vI e GFld.f1 zcf y22.ty) (zj e (za ty3 e) (zj e (za ty121 e) (zd h fun y23 hy23 h=>rT e (tC (zn4 hy23) hT (s2 e e) k0 (zd h fun y24 hy24 h=>rT e (tC (zja hy24) hT (s2 e e) k0 (z6 (zq (ze h e (fun _ h=>?_) (fun _ h=>zJ (zx (zq (zm ?_)))))))))))))))))))))))))))
   ·exact ws (oV (za ty121 e) (oT (tS ty121 e e p0 y2.1 (ar e (bn (rL13 _ (bn (zf (.cell e .here ty121 (.tmp e .nil)) k0 (iS h ▸ ⟨e,e⟩)))))))))
   exact om e (zy h fun q25 h=>oV (zX e e q25) (oa e (zK (hL13 h 27))))
  exact zm (oV (vI e GTab.f3 zbb a_t.types) (oV (za ty29 e) (om e (zd h fun y10 hy10 h=>oV (vX e e sl29 hy10) (oV (za ty82 e) (zd h fun y11 hy11 h=>oT (tC (zmS hy11) hT (s1 e) k0 (oa e (zK (hJ9 h 7))))))))))
 ·exact oN g6 (oN g6 (oN g6 (oN g6 (oV (zh e g6 e) (hJ5 h 5)))))
 exact oG g6 (vN e sl22) (oG g6 (zaC e e) (oV (zg e g6 e) (hJ5 h 5)))


theorem zmD {a_x a_n_ r} (h:zf5 a_x a_n_=some r):Ctr Tryz.prog 32 [isv a_x,isv a_n_] [] (Pt [isv r] []):=by
 unfold zf5 at h
 refine zi Tryz.func32 e fun w0 S0 hT=>ws (oT (tB e (an e (ss (an e (zr (lO 5 h e fun L2 q1 Q7 h hL2 eL2 rL2=>ss (om e (oV (vI e GTyp.f3 zeo a_x.items) (oV (za ty79 e) (oV (vN e sl79) (oV (z7 e e) (rn (ze h e (fun _ h=>?_) (fun _ h=>xn (eL2 _ _ (zw (zq (ws (ar e (zf (r1 e) k0 (iS h ▸ ⟨e,e⟩))))))))))))))))))))))
 refine wk (zE (zr (ws (oV (vI e GTyp.f3 zeo a_x.items) (oV (za ty79 e) (om e (zd h fun y5 hy5 h=>oV (vX e e sl79 hy5) (oV (vI e GItem.f1 zc3 y5.number) (oV (za ty2 e) (om e (oV (zD e e) (rn (ze h e (fun _ h=>?_) (fun _ h=>zJ (zx (zq (zm (om e (zy h fun q6 h=>oV (zX e e q6) (oa e (zK (hL2 h 17))))))))))))))))))))))
 exact ws (om e (ar e (bn (rL2 _ (bn (zf (r1 e) k0 (iS h ▸ ⟨e,e⟩)))))))


theorem zmE {a_b r} (h:zhK a_b=some r):Ctr Tryz.prog 59 [isv a_b] [] (Pt [isv r] []):=by
 unfold zhK at h
 refine zi Tryz.func59 e fun w0 S0 hT=>ws (an e (ws (om e (oV (vN e sl22) (oV (zbF e e) (om e (jO 4 10 h (fun q1 h=>?_) fun J2 h hJ2=>oI h (fun g3 h=>?_) fun g3 h=>oN g3 (oN g3 (oN g3 (oV (zg e g3 e) (hJ2 h 4)))))))))))
 ·exact ar e (zf (r1 e) k0 (iS h ▸ ⟨e,e⟩))
 exact oG g3 (zo e) (oG g3 (vN e sl22) (oG g3 (zjo e e) (oV (zh e g3 e) (hJ2 h 4))))


theorem zno {a_t a_i a_v r} (h:zfY a_t a_i a_v=some r):Ctr Tryz.prog 29 [isv a_t,isv a_i,isv a_v] [] (Pt [isv r] []):=by
 unfold zfY at h
 refine zi Tryz.func29 e fun w0 S0 hT=>ws (oT (tB e (oT (tB e (an e (ws (oV (vI e GTab.f3 zbb a_t.types) (oV (za ty29 e) (om e (zd h fun y1 hy1 h=>oV (vX e e sl29 hy1) (oV (za ty82 e) (oT (zC _ ze82 fun b2=>oT (tS ty82 e e p0 y1 (zI (z8 7 .here e) (rn (ss (oV (vI e GTyp.f6 zfk y1.more) (oV (za ty4 e) (oV (zal e) (om e (jO 9 28 h (fun q3 h=>?_) fun J4 h hJ4=>oI h (fun g5 h=>?_) fun g5 h=>oG g5 (vI e GTyp.f0 zbf y1.kind) (oG g5 (za ty3 e) (oG g5 (zaC e e) (oG g5 (zo e) (jO 4 27 h (fun q6 h=>?_) fun J7 h hJ7=>oI h (fun g8 h=>?_) fun g8 h=>oN g8 ?_))))))))))))))))))))))))))
 ·refine om e (jO 5 34 h (fun q9 h=>?_) fun J10 h hJ10=>oI h (fun g11 h=>?_) fun g11 h=>oG g11 (vI e Val.f3 zaL a_v.l) (oG g11 (za ty23 e) (oG g11 (vN e sl23) (oG g11 (zbc e e) (oV (zg e g11 e) (hJ10 h 5))))))
  ·refine om e (jO 5 40 h (fun q12 h=>?_) fun J13 h hJ13=>oI h (fun g14 h=>?_) fun g14 h=>oG g14 (vI e Val.f5 zdF a_v.more) (oG g14 (za ty24 e) (oG g14 (vN e sl24) (oG g14 (zbc e e) (oV (zg e g14 e) (hJ13 h 5))))))
   ·refine rn (ze h e (fun _ h=>?_) (fun _ h=>wk (ws (oV (vI e GTyp.f3 zeo y1.items) (oV (za ty79 e) (oV (vN e sl79) (oV (vI e GTyp.f5 zem y1.root) (oV (za ty3 e) (zy h fun q15 h=>oV (zcZ e e q15) (an e (ss (oV (vI e GTyp.f0 zbf y1.kind) (oV (za ty3 e) (oV (zD e e) (rn (jW 8 h (fun q16 h=>?_) fun J17 h hJ17=>ze h e (fun _ h=>?_) (fun _ h=>zJ (hJ17 h 0))))))))))))))))))
    ·exact ws (ar e (zz (zf (r1 e) k0 (iS h ▸ ⟨e,e⟩))))
    ·refine zE (zr (ws (oV (vI e Val.f4 zcX a_v.rule) (oV (za ty3 e) (oV (zD e e) (om e (jO 4 62 h (fun q19 h=>?_) fun J20 h hJ20=>oI h (fun g21 h=>?_) fun g21 h=>oN g21 (oN g21 (oN g21 (oV (zg e g21 e) (hJ20 h 4)))))))))))
     ·refine an e (ze h e (fun _ h=>?_) (fun _ h=>ws (oV (vI e Val.f4 zcX a_v.rule) (oV (za ty3 e) (oV (zD e e) (an e (ze h e (fun _ h=>?_) (fun _ h=>ws (oV (vI e Val.f4 zcX a_v.rule) (oV (za ty3 e) (oV (zD e e) (an e (ze h e (fun _ h=>?_) (fun _ h=>zJ (zx (zq (ws (ar e (zf (r1 e) k0 (iS h ▸ ⟨e,e⟩))))))))))))))))))))
      ·refine ws (oV (za ty31 e) (om e (oV (vI e Val.f2 zbs a_v.b) (oV (za ty22 e) (zd h fun y22 hy22 h=>oT (tC (zk6 hy22) hT (s3 e e e) k0 (om e (oV (zA e e) (oV (zA e e) (oT (zC _ ze121 fun b23=>oT (tS ty121 e e p0 y22.1 (zI (z8 9 .here e) (an e (ws (om e (om e (jO 4 76 h (fun q24 h=>?_) fun J25 h hJ25=>oI h (fun g26 h=>?_) fun g26 h=>oN g26 (oN g26 (oN g26 (oV (zg e g26 e) (hJ25 h 4))))))))))))))))))))))
       ·exact ar e (bn (zf (r1 e) k0 (iS h ▸ ⟨e,e⟩)))
       exact oG g26 (vI e Val.f1 zaT a_v.n) (oG g26 (za ty2 e) (oG g26 (zD e e) (oV (zh e g26 e) (hJ25 h 4))))
      ·refine ws (oV (vI e Val.f2 zbs a_v.b) (oV (za ty22 e) (oV (vN e sl22) (oV (zD e e) (om e (jO 6 91 h (fun q27 h=>?_) fun J28 h hJ28=>oI h (fun g29 h=>?_) fun g29 h=>oN g29 (oN g29 (oN g29 (oN g29 (oN g29 (oV (zg e g29 e) (hJ28 h 6))))))))))))
       ·exact ar e (bn (zf (r1 e) k0 (iS h ▸ ⟨e,e⟩)))
       exact oG g29 (za ty82 e) (oG g29 (vI e Val.f1 zaT a_v.n) (oG g29 (za ty2 e) (zd h fun y30 hy30 h=>oH g29 (tC (zmD hy30) hT (s2 e e) k0 (oG g29 (z7 e e) (oV (zh e g29 e) (hJ28 h 6)))))))
      refine ws (oV (vI e Val.f1 zaT a_v.n) (oV (za ty2 e) (om e (oV (zbF e e) (om e (jO 4 104 h (fun q31 h=>?_) fun J32 h hJ32=>oI h (fun g33 h=>?_) fun g33 h=>oN g33 (oN g33 (oN g33 (oV (zg e g33 e) (hJ32 h 4))))))))))
      ·refine om e (jO 20 125 h (fun q34 h=>?_) fun J35 h hJ35=>oI h (fun g36 h=>?_) fun g36 h=>oN g36 (oN g36 (oN g36 (oN g36 (oU (oU (oU (oN g36 (oN g36 (oU (oU (oU (oU (oU (oU (oU (oU (oU (oN g36 (oV (zg e g36 e) (hJ35 h 20)))))))))))))))))))))
       ·exact ar e (bn (zf (r1 e) k0 (iS h ▸ ⟨e,e⟩)))
       refine oG g36 (vI e GTyp.f0 zbf y1.kind) (oG g36 (za ty3 e) (oG g36 (zD e e) (oG g36 (zo e) (jO 4 113 h (fun q37 h=>?_) fun J38 h hJ38=>oI h (fun g39 h=>?_) fun g39 h=>oN g39 (oN g39 (oN g39 (oG g36 (zg e g39 e) (hJ38 h 4))))))))
       ·refine oG g36 (zo e) (jO 10 124 h (fun q41 h=>?_) fun J42 h hJ42=>oI h (fun g43 h=>?_) fun g43 h=>oG g43 (vI e GTyp.f0 zbf y1.kind) (oG g43 (za ty3 e) (oG g43 (zD e e) (oG g43 (zo e) (jO 5 123 h (fun q44 h=>?_) fun J45 h hJ45=>oI h (fun g46 h=>?_) fun g46 h=>oN g46 (oN g46 (oN g46 (oN g46 (oG g43 (zg e g46 e) (hJ45 h 5))))))))))
        ·exact oV (zh e g36 e) (hJ35 h 8)
        ·exact oN g43 (oN g43 (oN g43 (oN g43 (oU (oU (oU (oU (oN g43 (oG g36 (zh e g43 e) (hJ42 h 10))))))))))
        ·exact oG g36 (zg e g43 e) (hJ42 h 6)
        exact oG g46 (vI e Val.f2 zbs a_v.b) (oG g46 (za ty22 e) (oG g46 (vN e sl22) (oG g46 (zD e e) (oG g43 (zh e g46 e) (hJ45 h 5)))))
       exact oG g39 (vI e Val.f2 zbs a_v.b) (oG g39 (za ty22 e) (zd h fun y40 hy40 h=>oH g39 (tC (zmE hy40) hT (s1 e) k0 (oG g36 (zh e g39 e) (hJ38 h 4)))))
      exact oG g33 (vI e Val.f1 zaT a_v.n) (oG g33 (za ty2 e) (oG g33 (z7 e e) (oV (zh e g33 e) (hJ32 h 4))))
     exact oG g21 (vI e GTyp.f0 zbf y1.kind) (oG g21 (za ty3 e) (oG g21 (zD e e) (oV (zh e g21 e) (hJ20 h 4))))
    exact zm (oV (za ty31 e) (om e (zd h fun y18 hy18 h=>oT (tC (zi0 hy18) hT (s2 e e) k0 (oV (vN e sl125) (oa e (zK (hJ17 h 5))))))))
   exact oN g14 (oN g14 (oN g14 (oN g14 (oV (zh e g14 e) (hJ13 h 5)))))
  exact oN g11 (oN g11 (oN g11 (oN g11 (oV (zh e g11 e) (hJ10 h 5)))))
 ·exact oN g5 (oN g5 (oN g5 (oN g5 (oU (oU (oU (oN g5 (oV (zh e g5 e) (hJ4 h 9)))))))))
 ·exact oV (zg e g5 e) (hJ4 h 6)
 ·exact oG g8 (vI e GTyp.f0 zbf y1.kind) (oG g8 (za ty3 e) (oG g8 (zaC e e) (oG g5 (zh e g8 e) (hJ7 h 4))))
 exact oN g8 (oN g8 (oG g5 (zg e g8 e) (hJ7 h 4)))

end Go.Proofs.Q


namespace Go.Proofs.Q
open Go.Sy
set_option maxRecDepth 4000
theorem zdj {a_v a_n_ a_b a_l zoh r} (h:zcI a_v a_n_ a_b a_l zoh=some r):Ctr Tryz.prog 30 [isv a_v,isv a_n_,isv a_b,isv a_l,isv zoh] [] (Pt [isv r] []):=by
 unfold zcI at h
 refine zi Tryz.func30 e fun w0 S0 hT=>ws (oT (tB e (an e (ws (om e (om e (jO 4 16 h (fun q1 h=>?_) fun J2 h hJ2=>oI h (fun g3 h=>?_) fun g3 h=>oG g3 (vI e Val.f1 zaT a_v.n) (oG g3 (za ty2 e) (oG g3 (zD e e) (oV (zg e g3 e) (hJ2 h 4)))))))))))
 ·refine om e (jO 8 25 h (fun q4 h=>?_) fun J5 h hJ5=>oI h (fun g6 h=>?_) fun g6 h=>oN g6 (oN g6 (oU (oU (oU (oU (oN g6 (oV (zg e g6 e) (hJ5 h 8)))))))))
  ·refine om e (jO 8 34 h (fun q10 h=>?_) fun J11 h hJ11=>oI h (fun g12 h=>?_) fun g12 h=>oN g12 (oN g12 (oU (oU (oU (oU (oN g12 (oV (zg e g12 e) (hJ11 h 8)))))))))
   ·refine om e (jO 13 48 h (fun q16 h=>?_) fun J17 h hJ17=>oI h (fun g18 h=>?_) fun g18 h=>oN g18 (oN g18 (oU (oU (oU (oU (oU (oU (oU (oU (oU (oN g18 (oV (zg e g18 e) (hJ17 h 13))))))))))))))
    ·exact ar e (zf (r1 e) k0 (iS h ▸ ⟨e,e⟩))
    refine oG g18 (zo e) (oG g18 (zo e) (jO 10 47 h (fun q19 h=>?_) fun J20 h hJ20=>oI h (fun g21 h=>?_) fun g21 h=>oG g21 (vI e Val.f4 zcX a_v.rule) (oG g21 (za ty3 e) (oG g21 (zD e e) (oG g21 (zo e) (jO 5 46 h (fun q22 h=>?_) fun J23 h hJ23=>oI h (fun g24 h=>?_) fun g24 h=>oN g24 (oN g24 (oN g24 (oN g24 (oG g21 (zg e g24 e) (hJ23 h 5)))))))))))
    ·exact oV (zh e g18 e) (hJ17 h 4)
    ·exact oN g21 (oN g21 (oN g21 (oN g21 (oU (oU (oU (oU (oN g21 (oG g18 (zh e g21 e) (hJ20 h 10))))))))))
    ·exact oG g18 (zg e g21 e) (hJ20 h 6)
    exact oG g24 (vI e Val.f5 zdF a_v.more) (oG g24 (za ty24 e) (oG g24 (vN e sl24) (oG g24 (zD e e) (oG g21 (zh e g24 e) (hJ23 h 5)))))
   refine oG g12 (zo e) (oG g12 (zo e) (jO 5 33 h (fun q13 h=>?_) fun J14 h hJ14=>oI h (fun g15 h=>?_) fun g15 h=>oG g15 (vI e Val.f3 zaL a_v.l) (oG g15 (za ty23 e) (oG g15 (vN e sl23) (oG g15 (zD e e) (oG g12 (zg e g15 e) (hJ14 h 5)))))))
   ·exact oV (zh e g12 e) (hJ11 h 4)
   exact oN g15 (oN g15 (oN g15 (oN g15 (oG g12 (zh e g15 e) (hJ14 h 5)))))
  refine oG g6 (zo e) (oG g6 (zo e) (jO 5 24 h (fun q7 h=>?_) fun J8 h hJ8=>oI h (fun g9 h=>?_) fun g9 h=>oG g9 (vI e Val.f2 zbs a_v.b) (oG g9 (za ty22 e) (oG g9 (vN e sl22) (oG g9 (zD e e) (oG g6 (zg e g9 e) (hJ8 h 5)))))))
  ·exact oV (zh e g6 e) (hJ5 h 4)
  exact oN g9 (oN g9 (oN g9 (oN g9 (oG g6 (zh e g9 e) (hJ8 h 5)))))
 exact oN g3 (oN g3 (oN g3 (oV (zh e g3 e) (hJ2 h 4))))


theorem zpL {a_a a_b r} (h:zjl a_a a_b=some r):Ctr Tryz.prog 94 [isv a_a,isv a_b] [] (Pt [isv r] []):=by
 unfold zjl at h
 refine zi Tryz.func94 e fun w0 S0 hT=>ws (oT (tB e (oT (tB e (an e (ws (oV (vI e Tag.f0 zff a_a.cls) (oV (za ty3 e) (oV (vI e Tag.f0 zff a_b.cls) (oV (za ty3 e) (oV (z7 e e) (om e (jO 13 23 h (fun q1 h=>?_) fun J2 h hJ2=>oI h (fun g3 h=>?_) fun g3 h=>oG g3 (vI e Tag.f0 zff a_a.cls) (oG g3 (za ty3 e) (oG g3 (vI e Tag.f0 zff a_b.cls) (oG g3 (za ty3 e) (oG g3 (zD e e) (oG g3 (zo e) (jO 6 22 h (fun q4 h=>?_) fun J5 h hJ5=>oI h (fun g6 h=>?_) fun g6 h=>oN g6 (oN g6 (oN g6 (oN g6 (oN g6 (oG g3 (zg e g6 e) (hJ5 h 6)))))))))))))))))))))))))
 ·exact ar e (zf (r1 e) k0 (iS h ▸ ⟨e,e⟩))
 ·exact oN g3 (oN g3 (oN g3 (oN g3 (oN g3 (oN g3 (oU (oU (oU (oU (oU (oN g3 (oV (zh e g3 e) (hJ2 h 13)))))))))))))
 ·exact oV (zg e g3 e) (hJ2 h 8)
 exact oG g6 (vI e Tag.f1 zcS a_a.num) (oG g6 (za ty3 e) (oG g6 (vI e Tag.f1 zcS a_b.num) (oG g6 (za ty3 e) (oG g6 (z7 e e) (oG g3 (zh e g6 e) (hJ5 h 6))))))


theorem zqo {a_t a_i a_v r} (h:zg3 a_t a_i a_v=some r):Ctr Tryz.prog 61 [isv a_t,isv a_i,isv a_v] [] (Pt [isv r] []):=by
 unfold zg3 at h
 refine zi Tryz.func61 e fun w0 S0 hT=>ws (oT (tB e (oT (tB e (an e (ss (oV (vI e Val.f5 zdF a_v.more) (oV (za ty24 e) (oV (vN e sl24) (oV (zD e e) (rn (ze h e (fun _ h=>?_) (fun _ h=>wk (ss (oV (vI e GTab.f3 zbb a_t.types) (oV (za ty29 e) (om e (zd h fun y1 hy1 h=>oV (vX e e sl29 hy1) (oV (vI e GTyp.f6 zfk y1.more) (oV (za ty4 e) (oV (zal e) (om e (jO 9 36 h (fun q2 h=>?_) fun J3 h hJ3=>oI h (fun g4 h=>?_) fun g4 h=>oG g4 (vI e Val.f4 zcX a_v.rule) (oG g4 (za ty3 e) (oG g4 (zaC e e) (oG g4 (zo e) (jO 4 35 h (fun q5 h=>?_) fun J6 h hJ6=>?_)))))))))))))))))))))))))))
 ·exact ws (oV (vI e Val.f4 zcX a_v.rule) (oV (za ty3 e) (oV (zD e e) (ar e (zz (zf (r1 e) k0 (iS h ▸ ⟨e,e⟩)))))))
 ·refine rn (ze h e (fun _ h=>?_) (fun _ h=>wk (ws (oT (zC _ ze121 fun b8=>rn (ss (an e (zr (lP h Unit () (fun q9 g9=>[(8,isv q9.1)]) (fun q9 g9=>[boxE b8 (q9.2:Tag)]) (zB (j:=8) e hI zan) k1 fun L10 q9 g9 Q79 h hL10 eL10 rL10=>ss (om e (oV (vI e Val.f5 zdF a_v.more) (oV (za ty24 e) (oV (vN e sl24) (oV (z7 e e) (rn (ze h e (fun _ h=>?_) (fun _ h=>xn (eL10 _ _ (zw (zq (ws (ar e (zf (r1 e) k0 (iS h ▸ ⟨e,e⟩))))))))))))))))))))))))
  ·exact ws (ar e (zz (zf (r1 e) k0 (iS h ▸ ⟨e,e⟩))))
  refine wk (zE (jw h Unit (fun q45 g45=>[]) (fun q45 g45=>[boxE b8 (q45:Tag)]) k1 (fun q45 g45 h=>?_) fun J46 h hJ46=>zr (ws (oV (vI e Val.f5 zdF a_v.more) (oV (za ty24 e) (om e (zd h fun y47 hy47 h=>oV (vX e e sl24 hy47) (oV (za ty66 e) (oT (zC _ ze66 fun b48=>oT (tS ty66 e e p0 y47 (zI (z8 9 .here e) (rn (ss (oV (vI e Val.f4 zcX a_v.rule) (oV (za ty3 e) (oV (zD e e) (rn (ze h e (fun _ h=>?_) (fun _ h=>wk (ws (oV (za ty31 e) (om e (oV (vI e Raw.f1 zh3 y47.b) (oV (za ty22 e) (zd h fun y62 hy62 h=>oT (tC (zk6 hy62) hT (s3 e e e) k0 (om e ?_))))))))))))))))))))))))))))
  ·exact zm (om e (zy h fun q78 h=>oV (zX e e q78) (oa e (zK (hL10 h () 9)))))
  ·refine ws (oV (za ty31 e) (om e (zd h fun y49 hy49 h=>oT (tC (zi0 hy49) hT (s2 e e) k0 (oV (vN e sl125) (an e (ss (om e (oV (zbc e e) (rn (jW 10 h (fun q50 h=>?_) fun J51 h hJ51=>ze h e (fun _ h=>?_) (fun _ h=>zJ (hJ51 h 0)))))))))))))
   ·refine ss (oV (vI e Raw.f0 zgg y47.n) (oV (za ty3 e) (om e (oV (z7 e e) (om e (jO 4 74 h (fun q55 h=>?_) fun J56 h hJ56=>oI h (fun g57 h=>?_) fun g57 h=>oG g57 (vI e Raw.f0 zgg y47.n) (oG g57 (za ty3 e) (oG g57 (zbF e e) (oV (zg e g57 e) (hJ56 h 4))))))))))
    ·refine om e (jO 5 80 h (fun q58 h=>?_) fun J59 h hJ59=>oI h (fun g60 h=>?_) fun g60 h=>oG g60 (vI e Raw.f1 zh3 y47.b) (oG g60 (za ty22 e) (zd h fun y61 hy61 h=>oH g60 (tC (zmE hy61) hT (s1 e) k0 (oG g60 (zal e) (oV (zg e g60 e) (hJ59 h 5)))))))
     ·refine rn (ze h e (fun _ h=>?_) (fun _ h=>wk (xn (zw (hJ46 h () 26)))))
      exact ws (ar e (zz (zz (bn (rL10 _ (bn (zf (r1 e) k0 (iS h ▸ ⟨e,e⟩))))))))
     exact oN g60 (oN g60 (oN g60 (oN g60 (oV (zh e g60 e) (hJ59 h 5)))))
    exact oN g57 (oN g57 (oN g57 (oV (zh e g57 e) (hJ56 h 4))))
   exact zm (oV (vI e Val.f5 zdF a_v.more) (oV (za ty24 e) (om e (zy h fun q52 h=>oV (zcZ e e q52) (zd h fun y53 hy53 h=>oV (vX e e sl24 hy53) (oV (vI e Raw.f0 zgg y53.n) (oV (za ty3 e) (zy h fun q54 h=>oV (zX e e q54) (oa e (zK (hJ51 h 9)))))))))))
  refine oV (zA e e) (oV (zA e e) (oT (zC _ ze121 fun b63=>oT (tS ty121 e e p0 y62.1 (zI (z8 11 .here e) (an e (ss (om e (oV (zal e) (om e (jO 4 95 h (fun q64 h=>?_) fun J65 h hJ65=>oI h (fun g66 h=>?_) fun g66 h=>oG g66 (vI e Raw.f0 zgg y47.n) (oG g66 (za ty3 e) (oG g66 (zaC e e) (oV (zg e g66 e) (hJ65 h 4)))))))))))))))
  ·refine om e (jO 18 114 h (fun q67 h=>?_) fun J68 h hJ68=>oI h (fun g69 h=>?_) fun g69 h=>oG g69 (vI e GTab.f3 zbb a_t.types) (oG g69 (za ty29 e) (oG g69 (zo e) (zd h fun y70 hy70 h=>oG g69 (vX e e sl29 hy70) (oG g69 (vI e GTyp.f0 zbf y70.kind) (oG g69 (za ty3 e) (oG g69 (zD e e) (oG g69 (zo e) (jO 3 107 h (fun q71 h=>?_) fun J72 h hJ72=>oI h (fun g73 h=>?_) fun g73 h=>oN g73 (oN g73 (oG g69 (zg e g73 e) (hJ72 h 3))))))))))))
   ·refine rn (ze h e (fun _ h=>?_) (fun _ h=>wk (zm (oV (za ty121 e) (oT (tS ty121 e e p0 y62.1 (rb (hJ46 h () 28))))))))
    exact ws (ar e (zz (bn (rL10 _ (bn (zf (r1 e) k0 (iS h ▸ ⟨e,e⟩)))))))
   ·exact oN g69 (oN g69 (oN g69 (oN g69 (oN g69 (oN g69 (oN g69 (oN g69 (oU (oU (oN g69 (oN g69 (oU (oU (oU (oU (oN g69 (oV (zh e g69 e) (hJ68 h 18))))))))))))))))))
   ·refine oG g69 (zo e) (jO 5 113 h (fun q74 h=>?_) fun J75 h hJ75=>oI h (fun g76 h=>?_) fun g76 h=>oN g76 (oN g76 (oN g76 (oN g76 (oG g69 (zg e g76 e) (hJ75 h 5))))))
    ·exact oV (zg e g69 e) (hJ68 h 12)
    exact oH g76 (tL ty121 e p0 q9.2 (oG g76 (za ty121 e) (zd h fun y77 hy77 h=>oH g76 (tC (zpL hy77) hT (s2 e e) k0 (oG g76 (zal e) (oG g69 (zh e g76 e) (hJ75 h 5)))))))
   exact oG g73 (zo e) (oG g73 (zbc e e) (oG g69 (zh e g73 e) (hJ72 h 3)))
  exact oN g66 (oN g66 (oN g66 (oV (zh e g66 e) (hJ65 h 4))))
 ·exact oN g4 (oN g4 (oN g4 (oN g4 (oU (oU (oU (oN g4 (oV (zh e g4 e) (hJ3 h 9)))))))))
 ·exact oV (zg e g4 e) (hJ3 h 6)
 refine oI h (fun g7 h=>?_) fun g7 h=>oN g7 (oN g7 (oN g7 (oG g4 (zg e g7 e) (hJ6 h 4))))
 exact oG g7 (vI e Val.f4 zcX a_v.rule) (oG g7 (za ty3 e) (oG g7 (zaC e e) (oG g4 (zh e g7 e) (hJ6 h 4))))


def zgk (f':GTab→Int→Val→Int→Option (Bool)):Prop :=
 ∀ {a_t a_i a_v zL r},f' a_t a_i a_v zL=some r→Ctr Tryz.prog 34 [isv a_t,isv a_i,isv a_v,isv zL] [] (Pt [isv r] [])
def zgC (f':GTab→Int→Val→Int→Option (Bool)):Prop :=
 ∀ {a_t a_i a_v zL r},f' a_t a_i a_v zL=some r→Ctr Tryz.prog 17 [isv a_t,isv a_i,isv a_v,isv zL] [] (Pt [isv r] [])
theorem znp {zdn zdD} (zkS:zgk zdn) (zig:zgC zdD):zgk (zd9 zdn zdD):=by
 intro a_t a_i a_v zL r h
 unfold zd9 at h
 refine zi Tryz.func34 e fun w0 S0 hT=>ws (oT (tB e (oT (tB e (an e (ws (oV (vI e GTab.f3 zbb a_t.types) (oV (za ty29 e) (om e (zd h fun y1 hy1 h=>oV (vX e e sl29 hy1) (oV (za ty82 e) (oT (zC _ ze82 fun b2=>oT (tS ty82 e e p0 y1 (zI (z8 9 .here e) (rn (ss (oV (za ty26 e) (zd h fun y3 hy3 h=>oT (tC (zdj hy3) hT (.same e (.same e (.same e (.same e (.same e .nil))))) k0 (oV (zal e) (om e (jO 8 36 h (fun q4 h=>?_) fun J5 h hJ5=>oI h (fun g6 h=>?_) fun g6 h=>oG g6 (vI e Val.f3 zaL a_v.l) (oG g6 (za ty23 e) (oG g6 (vN e sl23) (oG g6 (vI e GTyp.f4 zas y1.fields) (oG g6 (za ty80 e) (oG g6 (vN e sl80) ?_))))))))))))))))))))))))))))
 ·refine om e (jO 6 43 h (fun q7 h=>?_) fun J8 h hJ8=>oI h (fun g9 h=>?_) fun g9 h=>oG g9 (za ty31 e) (oG g9 (zo e) (oG g9 (za ty26 e) (zd h fun y10 hy10 h=>oH g9 (tC (zqo hy10) hT (s3 e e e) k0 (oG g9 (zal e) (oV (zg e g9 e) (hJ8 h 6))))))))
  ·refine rn (ze h e (fun _ h=>?_) (fun _ h=>wk (ss (an e (zr (lO 10 h e fun L12 q11 Q313 h hL12 eL12 rL12=>ss (om e (oV (vI e GTyp.f4 zas y1.fields) (oV (za ty80 e) (oV (vN e sl80) (oV (z7 e e) (rn (ze h e (fun _ h=>?_) (fun _ h=>xn (eL12 _ _ (zw (zq (ws (oV (za ty31 e) (om e (zd h fun y191 hy191 h=>oT (tC (zi0 hy191) hT (s2 e e) k0 (an e (ss (an e (zr (lO 14 h e fun L193 q192 Q312 h hL193 eL193 rL193=>ss ?_)))))))))))))))))))))))))))
   ·exact ws (ar e (zz (zf (r1 e) k0 (iS h ▸ ⟨e,e⟩))))
   ·refine wk (zE (jw h Unit (fun q163 g163=>[]) (fun q163 g163=>[]) k0 (fun q163 g163 h=>?_) fun J164 h hJ164=>zr (ws (oV (vI e GTyp.f4 zas y1.fields) (oV (za ty80 e) (om e (zd h fun y165 hy165 h=>oV (vX e e sl80 hy165) (oV (za ty88 e) (oT (zC _ ze88 fun b166=>oT (tS ty88 e e p0 y165 (zI (z8 11 .here e) (rn (ws (oV (vI e GFld.f2 zjf y165.optional) (oV (za ty4 e) (om e (jO 3 61 h (fun q167 h=>?_) fun J168 h hJ168=>oI h (fun g169 h=>?_) fun g169 h=>oG g169 (vI e GFld.f3 zgF y165.has) (oG g169 (za ty4 e) (oV (zg e g169 e) (hJ168 h 3)))))))))))))))))))))
    ·exact zm (om e (zy h fun q190 h=>oV (zX e e q190) (oa e (zK (hL12 h 9)))))
    ·refine an e (ss (oV (vI e Val.f3 zaL a_v.l) (oV (za ty23 e) (om e (zd h fun y170 hy170 h=>oV (vX e e sl23 hy170) (oV (vI e Val.f0 zbu y170.kind) (oV (za ty3 e) (oV (zD e e) (rn (ze h e (fun _ h=>?_) (fun _ h=>wk (zE (zH (.v 0 (.v 1 (.v 2 (.v 3 (.v 4 (.v 5 (.v 6 (.v 7 (.v 8 (.v 9 (.t 10 (.v 11 (.v 12 (.v 13 (.v 14 (.v 15 (.v 16 (.v 17 (.v 18 (.v 19 (.v 20 (.v 21 (.v 22 (.t 23 (.v 24 (.v 25 .nil)))))))))))))))))))))))))) moOrd (by kernel_rfl) (zj e (za ty31 e) (zj e (vI e GFld.f1 zcf y165.ty) (zj e (za ty3 e) (zj e (vI e Val.f3 zaL a_v.l) (zj e (za ty23 e) (rm e e (zd h fun y179 hy179 h=>zj e (vX e e sl23 hy179) (zj e (za ty26 e) (rm e e (zy h fun q180 h=>zj e (zX e e q180) (zd h fun y181 hy181 h=>rT e (tC (zig hy181) hT (s4 e e e e) k0 (zj e (zal e) ?_))))))))))))))))))))))))))
     ·refine ss (oV (vI e Val.f3 zaL a_v.l) (oV (za ty23 e) (om e (zd h fun y171 hy171 h=>oV (vX e e sl23 hy171) (oV (za ty26 e) (oV (zaa (z:=(Val.mk (0:Int) (0:Int) ([]:(List UInt8)) ([]:(List Val)) (0:Int) ([]:(List Raw)))) e bu26 ze26 .nil) (zd h fun y172 hy172 h=>oT (tC (zjw fuel hy172) hT (s2 e e) k0 (oV (zal e) (om e (jO 9 86 h (fun q173 h=>?_) fun J174 h hJ174=>oI h (fun g175 h=>?_) fun g175 h=>oG g175 (zo e) (oG g175 (zal e) (oG g175 (zo e) (jO 5 85 h (fun q176 h=>?_) fun J177 h hJ177=>oI h (fun g178 h=>?_) fun g178 h=>oN g178 (oN g178 (oN g178 (oN g178 (oG g175 (zg e g178 e) (hJ177 h 5)))))))))))))))))))
      ·refine rn (ze h e (fun _ h=>?_) (fun _ h=>wk (xn (zw (hJ164 h () 29)))))
       exact ws (ar e (zz (zz (bn (rL12 _ (bn (zf (r1 e) k0 (iS h ▸ ⟨e,e⟩))))))))
      ·exact oN g175 (oN g175 (oN g175 (oU (oU (oU (oU (oN g175 (oV (zh e g175 e) (hJ174 h 9)))))))))
      ·exact oV (zg e g175 e) (hJ174 h 5)
      exact oG g178 (zo e) (oG g178 (vI e GTyp.f5 zem y1.root) (oG g178 (za ty3 e) (oG g178 (z7 e e) (oG g175 (zh e g178 e) (hJ177 h 5)))))
     refine rm e e (jD 13 112 h (fun q182 h=>?_) fun J183 h hJ183=>rJ h (fun g184 h=>?_) fun g184 h=>rG e g184 (vI e GFld.f3 zgF y165.has) (rG e g184 (za ty4 e) (rG e g184 (zo e) (jD 9 111 h (fun q185 h=>?_) fun J186 h hJ186=>rJ h (fun g187 h=>?_) fun g187 h=>rP e g187 (rP e g187 (rP e g187 (rP e g187 (rP e g187 (rP e g187 (rP e g187 (zcO e e (dj:=102) e g187 (rG e g184 (zg e g187 e) (hJ186 h 9)))))))))))))
     ·refine z6 (zq (ze h e (fun _ h=>?_) (fun _ h=>zJ (zx (hJ164 h () 33)))))
      exact ws (ar e (bn (rL12 _ (bn (zf (r1 e) k0 (iS h ▸ ⟨e,e⟩))))))
     ·exact rP e g184 (rP e g184 (rP e g184 (rU e (rU e (rU e (rU e (rU e (rU e (rU e (zq3 e e (dj:=102) e (rP e g184 (zj e (zh e g184 e) (hJ183 h 13)))))))))))))
     ·exact zj e (zg e g184 e) (hJ183 h 5)
     exact rG e g187 (vI e Val.f3 zaL a_v.l) (rG e g187 (za ty23 e) (rG e g187 (zo e) (zd h fun y188 hy188 h=>rG e g187 (vX e e sl23 hy188) (rG e g187 (za ty26 e) (rG e g187 (vI e GFld.f4 zki y165.dflt) (rG e g187 (za ty26 e) (zd h fun y189 hy189 h=>rH e g187 (tC (zjw fuel hy189) hT (s2 e e) k0 (rG e g184 (zh e g187 e) (hJ186 h 9))))))))))
    exact oN g169 (oN g169 (oV (zh e g169 e) (hJ168 h 3)))
   refine om e (om e (oV (vN e sl125) (oV (z7 e e) (rn (ze h e (fun _ h=>?_) (fun _ h=>xn (eL193 _ _ (zw (zq (ws (ar e (zf (r1 e) k0 (iS h ▸ ⟨e,e⟩)))))))))))))
   refine wk (zE (zr (ws (oa e (an e (ss (an e (zr (lP h Unit () (fun q253 g253=>[(15,isv q253.1),(16,isv q253.2.1),(17,isv q253.2.2)]) (fun q253 g253=>[]) (zB (j:=15) e hI (zB (j:=16) e hI (zB (j:=17) e hI zan))) k0 fun L254 q253 g253 Q311 h hL254 eL254 rL254=>ss (om e (om e (om e (zd h fun y280 hy280 h=>oV (vX e e sl125 hy280) (oV (za ty28 e) (oV (vN e sl28) (oV (z7 e e) (rn (ze h e (fun _ h=>?_) (fun _ h=>xn (eL254 _ _ (zw (zq (zE (zH (.v 0 (.v 1 (.v 2 (.v 3 (.v 4 (.v 5 (.v 6 (.v 7 (.v 8 (.v 9 (.v 10 (.v 11 (.v 12 (.v 13 (.v 14 (.v 15 (.v 16 (.v 17 .nil)))))))))))))))))) moOrd (by kernel_rfl) (zj e (vI e GTyp.f4 zas y1.fields) (zj e (za ty80 e) (rm e e ?_)))))))))))))))))))))))))))
   ·refine wk (zE (zr (zE (zH (.v 0 (.v 1 (.v 2 (.v 3 (.v 4 (.v 5 (.v 6 (.v 7 (.v 8 (.v 9 (.v 10 (.t 11 (.t 12 .nil))))))))))))) moOrd (by kernel_rfl) (zj e (vI e GTyp.f4 zas y1.fields) (zj e (za ty80 e) (rm e e (rm e e (zd h fun y281 hy281 h=>zj e (vX e e sl125 hy281) (zj e (za ty28 e) (rm e e (zd h fun y282 hy282 h=>zj e (vX e e sl28 hy282) (zj e (za ty3 e) (zd h fun y283 hy283 h=>zj e (vX e e sl80 hy283) (zj e (za ty88 e) (rT e (zC _ ze88 fun b284=>rT e (tS ty88 e e p0 y283 (zbG (z8 18 .here e) (z6 (zq (zE (zH (.v 0 (.v 1 (.v 2 (.v 3 (.v 4 (.v 5 (.v 6 (.v 7 (.v 8 (.v 9 (.v 10 (.v 11 (.v 12 (.v 13 .nil)))))))))))))) moOrd (by kernel_rfl) (zj e (vI e Val.f3 zaL a_v.l) (zj e (za ty23 e) (rm e e (rm e e ?_)))))))))))))))))))))))))))
    refine zd h fun y285 hy285 h=>zj e (vX e e sl125 hy285) (zj e (za ty28 e) (rm e e (zd h fun y286 hy286 h=>zj e (vX e e sl28 hy286) (zj e (za ty3 e) (zd h fun y287 hy287 h=>zj e (vX e e sl23 hy287) (zj e (vI e Val.f0 zbu y287.kind) (zj e (za ty3 e) (zj e (zaC e e) (zj e (zaj e) (z6 (zq (ws (om e (om e (jO 2 158 h (fun q288 h=>?_) fun J289 h hJ289=>oI h (fun g290 h=>?_) fun g290 h=>oG g290 (zo e) (oV (zg e g290 e) (hJ289 h 2)))))))))))))))))
    ·refine an e (zm (om e (om e (jO 13 173 h (fun q291 h=>?_) fun J292 h hJ292=>oI h (fun g293 h=>?_) fun g293 h=>oG g293 (zo e) (oG g293 (zal e) (oG g293 (zo e) (jO 4 167 h (fun q294 h=>?_) fun J295 h hJ295=>oI h (fun g296 h=>?_) fun g296 h=>oN g296 (oN g296 (oN g296 (oG g293 (zg e g296 e) (hJ295 h 4)))))))))))
     ·exact oa e (rb (zq (zm (om e (zy h fun q300 h=>oV (zX e e q300) (oa e (zK (hL254 h () 48))))))))
     ·exact oN g293 (oN g293 (oN g293 (oU (oU (oU (oN g293 (oN g293 (oU (oU (oU (oN g293 (oV (zh e g293 e) (hJ292 h 13)))))))))))))
     ·refine oG g293 (zo e) (jO 4 172 h (fun q297 h=>?_) fun J298 h hJ298=>oI h (fun g299 h=>?_) fun g299 h=>oN g299 (oN g299 (oN g299 (oG g293 (zg e g299 e) (hJ298 h 4)))))
      ·exact oV (zg e g293 e) (hJ292 h 7)
      exact oG g299 (vI e GFld.f3 zgF y283.has) (oG g299 (za ty4 e) (oG g299 (zal e) (oG g293 (zh e g299 e) (hJ298 h 4))))
     exact oG g296 (vI e GFld.f2 zjf y283.optional) (oG g296 (za ty4 e) (oG g296 (zal e) (oG g293 (zh e g296 e) (hJ295 h 4))))
    exact oN g290 (oV (zh e g290 e) (hJ289 h 2))
   refine rm e e (zd h fun y301 hy301 h=>zj e (vX e e sl125 hy301) (zj e (za ty28 e) (zd h fun y302 hy302 h=>zj e (vX e e sl28 hy302) (zj e (za ty3 e) (zd h fun y303 hy303 h=>zj e (vX e e sl80 hy303) (zj e (vI e GFld.f5 zgf y303.group) (zj e (za ty3 e) (zj e (zbc e e) (rm e e (jD 2 188 h (fun q304 h=>?_) fun J305 h hJ305=>rJ h (fun g306 h=>?_) fun g306 h=>rP e g306 (zj e (zg e g306 e) (hJ305 h 2))))))))))))
   ·refine rm e e (jD 2 191 h (fun q307 h=>?_) fun J308 h hJ308=>rJ h (fun g309 h=>?_) fun g309 h=>rP e g309 (zj e (zg e g309 e) (hJ308 h 2)))
    ·refine z6 (zq (ze h e (fun _ h=>?_) (fun _ h=>zJ (zx (zq (zm (om e (zy h fun q310 h=>oV (zX e e q310) (oa e (zK (hL193 h 37)))))))))))
     exact ws (ar e (bn (rL193 _ (bn (zf (r1 e) k0 (iS h ▸ ⟨e,e⟩))))))
    exact rG e g309 (zo e) (zj e (zh e g309 e) (hJ308 h 2))
   exact rG e g306 (zo e) (zj e (zh e g306 e) (hJ305 h 2))
  exact oN g9 (oN g9 (oN g9 (oN g9 (oN g9 (oV (zh e g9 e) (hJ8 h 6))))))
 ·exact oN g6 (oN g6 (oN g6 (oN g6 (oN g6 (oN g6 (oN g6 (oV (zh e g6 e) (hJ5 h 8))))))))
 exact oG g6 (zaC e e) (oV (zg e g6 e) (hJ5 h 8))

theorem zoM {zdn zdD} (zkS:zgk zdn) (zig:zgC zdD):zgC (zeK zdn zdD):=by
 intro a_t a_i a_v zL r h
 unfold zeK at h
 refine zi Tryz.func17 e fun w0 S0 hT=>ws (oT (tB e (oT (tB e (an e (ss (om e (oV (z7 e e) (om e (jO 6 19 h (fun q1 h=>?_) fun J2 h hJ2=>oI h (fun g3 h=>?_) fun g3 h=>oG g3 (zo e) (oG g3 (vI e GTab.f3 zbb a_t.types) (oG g3 (za ty29 e) (oG g3 (vN e sl29) (oG g3 (zbF e e) (oV (zg e g3 e) (hJ2 h 6))))))))))))))))
 ·refine om e (jO 3 23 h (fun q4 h=>?_) fun J5 h hJ5=>oI h (fun g6 h=>?_) fun g6 h=>oG g6 (zo e) (oG g6 (zbc e e) (oV (zg e g6 e) (hJ5 h 3))))
  ·refine rn (ze h e (fun _ h=>?_) (fun _ h=>wk (ws (oV (vI e GTab.f3 zbb a_t.types) (oV (za ty29 e) (om e (zd h fun y7 hy7 h=>oV (vX e e sl29 hy7) (oV (za ty82 e) (oT (zC _ ze82 fun b8=>oT (tS ty82 e e p0 y7 (zI (z8 9 .here e) (rn (ss (oV (vI e Val.f0 zbu a_v.kind) (oV (za ty3 e) (oV (zD e e) (rn (ze h e (fun _ h=>?_) (fun _ h=>wk (ss (oV (vI e Val.f0 zbu a_v.kind) (oV (za ty3 e) (oV (vI e GTyp.f0 zbf y7.kind) (oV (za ty3 e) (oV (zaC e e) (rn (ze h e (fun _ h=>?_) (fun _ h=>wk ?_)))))))))))))))))))))))))))))
   ·exact ws (ar e (zz (zf (r1 e) k0 (iS h ▸ ⟨e,e⟩))))
   ·exact ws (oV (za ty31 e) (om e (oV (za ty26 e) (zd h fun y9 hy9 h=>oT (tC (zno hy9) hT (s3 e e e) k0 (ar e (zz (zf (r1 e) k0 (iS h ▸ ⟨e,e⟩)))))))))
   ·exact ws (ar e (zz (zf (r1 e) k0 (iS h ▸ ⟨e,e⟩))))
   refine ss (oV (vI e GTyp.f0 zbf y7.kind) (oV (za ty3 e) (rn (zr (ws (oV (zD e e) (an e (ze h e (fun _ h=>?_) (fun _ h=>ws (oV (zD e e) (an e (ze h e (fun _ h=>?_) (fun _ h=>ws (oV (zD e e) (an e (ze h e (fun _ h=>?_) (fun _ h=>ws (oV (zD e e) (an e (ze h e (fun _ h=>?_) (fun _ h=>ss (oV (zD e e) (an e (jW 88 h (fun q31 h=>?_) fun J32 h hJ32=>ze h e (fun _ h=>?_) (fun _ h=>zm (oV (zD e e) (oa e (zK ?_))))))))))))))))))))))))))))
   ·refine ws (oV (za ty26 e) (zd h fun y10 hy10 h=>oT (tC (zdj hy10) hT (.same e (.same e (.same e (.same e (.same e .nil))))) k0 (om e (jO 9 56 h (fun q11 h=>?_) fun J12 h hJ12=>oI h (fun g13 h=>?_) fun g13 h=>oN g13 (oN g13 (oN g13 (oN g13 (oU (oU (oU (oN g13 (oV (zg e g13 e) (hJ12 h 9))))))))))))))
    ·exact ar e (bn (zf (r1 e) k0 (iS h ▸ ⟨e,e⟩)))
    refine oG g13 (vI e Val.f1 zaT a_v.n) (oG g13 (za ty2 e) (oG g13 (zD e e) (oG g13 (zo e) (jO 4 55 h (fun q14 h=>?_) fun J15 h hJ15=>oI h (fun g16 h=>?_) fun g16 h=>oG g16 (vI e Val.f1 zaT a_v.n) (oG g16 (za ty2 e) (oG g16 (zD e e) (oG g13 (zg e g16 e) (hJ15 h 4))))))))
    ·exact oV (zh e g13 e) (hJ12 h 6)
    exact oN g16 (oN g16 (oN g16 (oG g13 (zh e g16 e) (hJ15 h 4))))
   ·refine ws (oV (za ty26 e) (zd h fun y17 hy17 h=>oT (tC (zdj hy17) hT (.same e (.same e (.same e (.same e (.same e .nil))))) k0 (om e (jO 11 72 h (fun q18 h=>?_) fun J19 h hJ19=>oI h (fun g20 h=>?_) fun g20 h=>oN g20 (oN g20 (oN g20 (oN g20 (oU (oU (oU (oU (oU (oN g20 (oV (zg e g20 e) (hJ19 h 11))))))))))))))))
    ·exact ar e (bn (zf (r1 e) k0 (iS h ▸ ⟨e,e⟩)))
    refine oG g20 (vI e GTyp.f2 zdZ y7.con) (oG g20 (vI e GCon.f3 zkp y7.con.more) (oG g20 (za ty4 e) (oG g20 (zo e) (jO 6 71 h (fun q21 h=>?_) fun J22 h hJ22=>oI h (fun g23 h=>?_) fun g23 h=>oG g23 (vI e GTyp.f2 zdZ y7.con) (oG g23 (za ty78 e) (oG g23 (vI e Val.f1 zaT a_v.n) (oG g23 (za ty2 e) (zd h fun y24 hy24 h=>oH g23 (tC (zfm hy24) hT (s2 e e) k0 (oG g20 (zg e g23 e) (hJ22 h 6)))))))))))
    ·exact oV (zh e g20 e) (hJ19 h 6)
    exact oN g23 (oN g23 (oN g23 (oN g23 (oN g23 (oG g20 (zh e g23 e) (hJ22 h 6))))))
   ·refine ws (oV (za ty26 e) (zd h fun y25 hy25 h=>oT (tC (zdj hy25) hT (.same e (.same e (.same e (.same e (.same e .nil))))) k0 (om e (jO 6 83 h (fun q26 h=>?_) fun J27 h hJ27=>oI h (fun g28 h=>?_) fun g28 h=>oN g28 (oN g28 (oN g28 (oN g28 (oN g28 (oV (zg e g28 e) (hJ27 h 6)))))))))))
    ·exact ar e (bn (zf (r1 e) k0 (iS h ▸ ⟨e,e⟩)))
    exact oG g28 (za ty82 e) (oG g28 (vI e Val.f1 zaT a_v.n) (oG g28 (za ty2 e) (zd h fun y29 hy29 h=>oH g28 (tC (zmD hy29) hT (s2 e e) k0 (oG g28 (zbF e e) (oV (zh e g28 e) (hJ27 h 6)))))))
   ·exact ws (oV (za ty26 e) (zd h fun y30 hy30 h=>oT (tC (zdj hy30) hT (.same e (.same e (.same e (.same e (.same e .nil))))) k0 (ar e (bn (zf (r1 e) k0 (iS h ▸ ⟨e,e⟩)))))))
   ·refine ze h e (fun _ h=>?_) (fun _ h=>ws (oV (zD e e) (an e (ze h e (fun _ h=>?_) (fun _ h=>ws (oV (zD e e) (an e (ze h e (fun _ h=>?_) (fun _ h=>ss (oV (zD e e) (an e (jW 201 h (fun q87 h=>?_) fun J88 h hJ88=>ze h e (fun _ h=>?_) (fun _ h=>zm (oV (zD e e) (oa e (zK (hJ88 h 2)))))))))))))))))
    ·refine ws (oV (za ty26 e) (zd h fun y33 hy33 h=>oT (tC (zdj hy33) hT (.same e (.same e (.same e (.same e (.same e .nil))))) k0 (om e (jO 5 98 h (fun q34 h=>?_) fun J35 h hJ35=>oI h (fun g36 h=>?_) fun g36 h=>oN g36 (oN g36 (oN g36 (oN g36 (oV (zg e g36 e) (hJ35 h 5))))))))))
     ·refine om e (jO 12 111 h (fun q37 h=>?_) fun J38 h hJ38=>oI h (fun g39 h=>?_) fun g39 h=>oN g39 (oN g39 (oN g39 (oN g39 (oU (oU (oU (oU (oU (oU (oN g39 (oV (zg e g39 e) (hJ38 h 12)))))))))))))
      ·refine om e (jO 9 121 h (fun q44 h=>?_) fun J45 h hJ45=>oI h (fun g46 h=>?_) fun g46 h=>oN g46 (oN g46 (oN g46 (oN g46 (oU (oU (oU (oN g46 (oV (zg e g46 e) (hJ45 h 9))))))))))
       ·exact ar e (bn (zf (r1 e) k0 (iS h ▸ ⟨e,e⟩)))
       refine oG g46 (vI e GTyp.f0 zbf y7.kind) (oG g46 (za ty3 e) (oG g46 (zD e e) (oG g46 (zo e) (jO 4 120 h (fun q47 h=>?_) fun J48 h hJ48=>oI h (fun g49 h=>?_) fun g49 h=>oG g49 (vI e Val.f2 zbs a_v.b) (oG g49 (za ty22 e) (zd h fun y50 hy50 h=>oH g49 (tC (zio hy50) hT (s1 e) k0 (oG g46 (zg e g49 e) (hJ48 h 4)))))))))
       ·exact oV (zh e g46 e) (hJ45 h 6)
       exact oN g49 (oN g49 (oN g49 (oG g46 (zh e g49 e) (hJ48 h 4))))
      refine oG g39 (vI e GTyp.f2 zdZ y7.con) (oG g39 (vI e GCon.f3 zkp y7.con.more) (oG g39 (za ty4 e) (oG g39 (zo e) (jO 7 110 h (fun q40 h=>?_) fun J41 h hJ41=>oI h (fun g42 h=>?_) fun g42 h=>oG g42 (vI e GTyp.f2 zdZ y7.con) (oG g42 (za ty78 e) (oG g42 (vI e Val.f2 zbs a_v.b) (oG g42 (za ty22 e) (oG g42 (vN e sl22) (zd h fun y43 hy43 h=>oH g42 (tC (zfm hy43) hT (s2 e e) k0 (oG g39 (zg e g42 e) (hJ41 h 7))))))))))))
      ·exact oV (zh e g39 e) (hJ38 h 6)
      exact oN g42 (oN g42 (oN g42 (oN g42 (oN g42 (oN g42 (oG g39 (zh e g42 e) (hJ41 h 7)))))))
     exact oG g36 (vI e Val.f2 zbs a_v.b) (oG g36 (za ty22 e) (oG g36 (vN e sl22) (oG g36 (zjo e e) (oV (zh e g36 e) (hJ35 h 5)))))
    ·refine ss (oV (za ty26 e) (zd h fun y51 hy51 h=>oT (tC (zdj hy51) hT (.same e (.same e (.same e (.same e (.same e .nil))))) k0 (oV (zal e) (om e (jO 14 141 h (fun q52 h=>?_) fun J53 h hJ53=>oI h (fun g54 h=>?_) fun g54 h=>oG g54 (vI e GTyp.f2 zdZ y7.con) (oG g54 (vI e GCon.f3 zkp y7.con.more) (oG g54 (za ty4 e) (oG g54 (zal e) (oG g54 (zo e) (jO 8 140 h (fun q55 h=>?_) fun J56 h hJ56=>oI h (fun g57 h=>?_) fun g57 h=>oN g57 (oN g57 (oN g57 (oN g57 (oN g57 (oN g57 (oN g57 (oG g54 (zg e g57 e) (hJ56 h 8)))))))))))))))))))
     ·refine rn (ze h e (fun _ h=>?_) (fun _ h=>wk (ss (an e (zr (lO 10 h e fun L60 q59 Q69 h hL60 eL60 rL60=>ss (om e (oV (vI e Val.f3 zaL a_v.l) (oV (za ty23 e) (oV (vN e sl23) (oV (z7 e e) (rn (ze h e (fun _ h=>?_) (fun _ h=>xn (eL60 _ _ (zw (zq (ws (ar e (bn (zf (r1 e) k0 (iS h ▸ ⟨e,e⟩))))))))))))))))))))))
      ·exact ws (ar e (zz (bn (zf (r1 e) k0 (iS h ▸ ⟨e,e⟩)))))
      refine wk (zE (zr (zE (zH (.v 0 (.v 1 (.v 2 (.v 3 (.v 4 (.v 5 (.v 6 (.v 7 (.v 8 (.v 9 (.t 10 (.v 11 .nil)))))))))))) moOrd (by kernel_rfl) (zj e (za ty31 e) (zj e (vI e GTyp.f7 zku y7.of) (zj e (za ty3 e) (zj e (vI e Val.f3 zaL a_v.l) (zj e (za ty23 e) (rm e e (zd h fun y65 hy65 h=>zj e (vX e e sl23 hy65) (zj e (za ty26 e) (rm e e (zy h fun q66 h=>zj e (zX e e q66) (zd h fun y67 hy67 h=>rT e (tC (zig hy67) hT (s4 e e e e) k0 (zj e (zal e) (z6 (zq (ze h e (fun _ h=>?_) (fun _ h=>zJ (zx (zq (zm (om e (zy h fun q68 h=>oV (zX e e q68) ?_))))))))))))))))))))))))))
      ·exact ws (ar e (bn (rL60 _ (bn (bn (zf (r1 e) k0 (iS h ▸ ⟨e,e⟩)))))))
      exact oa e (zK (hL60 h 21))
     ·exact oN g54 (oN g54 (oN g54 (oN g54 (oN g54 (oU (oU (oU (oU (oU (oU (oU (oN g54 (oV (zh e g54 e) (hJ53 h 14))))))))))))))
     ·exact oV (zg e g54 e) (hJ53 h 7)
     exact oG g57 (vI e GTyp.f2 zdZ y7.con) (oG g57 (za ty78 e) (oG g57 (vI e Val.f3 zaL a_v.l) (oG g57 (za ty23 e) (oG g57 (vN e sl23) (zd h fun y58 hy58 h=>oH g57 (tC (zfm hy58) hT (s2 e e) k0 (oG g57 (zal e) (oG g54 (zh e g57 e) (hJ56 h 8)))))))))
    ·refine zE (zH (.v 0 (.t 1 (.v 2 (.v 3 (.v 4 (.v 5 (.v 6 (.v 7 (.v 8 (.v 9 (.v 10 (.v 11 (.v 12 (.v 13 (.v 14 (.v 15 (.v 16 (.v 17 (.v 18 (.v 19 (.v 20 (.v 21 (.v 22 (.v 23 (.v 24 (.v 25 (.v 26 (.v 27 (.v 28 (.v 29 (.v 30 (.v 31 (.v 32 (.v 33 (.v 34 (.v 35 (.t 36 (.v 37 (.v 38 .nil))))))))))))))))))))))))))))))))))))))) moOrd (by kernel_rfl) (zj e (za ty26 e) (zd h fun y70 hy70 h=>rT e (tC (zdj hy70) hT (.same e (.same e (.same e (.same e (.same e .nil))))) k0 (rm e e (jD 4 169 h (fun q71 h=>?_) fun J72 h hJ72=>rJ h (fun g73 h=>?_) fun g73 h=>rP e g73 (rP e g73 (rP e g73 (zj e (zg e g73 e) (hJ72 h 4))))))))))
     ·refine rm e e (jD 7 177 h (fun q74 h=>?_) fun J75 h hJ75=>rJ h (fun g76 h=>?_) fun g76 h=>rP e g76 (rP e g76 (rP e g76 (rP e g76 (rP e g76 (rP e g76 (zj e (zg e g76 e) (hJ75 h 7))))))))
      ·refine rm e e (jD 5 183 h (fun q77 h=>?_) fun J78 h hJ78=>rJ h (fun g79 h=>?_) fun g79 h=>rP e g79 (rP e g79 (rP e g79 (rP e g79 (zj e (zg e g79 e) (hJ78 h 5))))))
       ·refine rm e e (jD 16 200 h (fun q80 h=>?_) fun J81 h hJ81=>rJ h (fun g82 h=>?_) fun g82 h=>rP e g82 (rP e g82 (rP e g82 (rP e g82 (rP e g82 (rP e g82 (rP e g82 (rP e g82 (rP e g82 (rP e g82 (rP e g82 (rP e g82 (rP e g82 (rP e g82 (zcO e e (dj:=184) e g82 (zj e (zg e g82 e) (hJ81 h 16)))))))))))))))))
        ·exact zj e (zaj e) (z6 (zq (zaQ (bn (zf (r1 e) k0 (iS h ▸ ⟨e,e⟩))))))
        exact rG e g82 (za ty31 e) (rG e g82 (vI e GTyp.f4 zas y7.fields) (rG e g82 (za ty80 e) (rG e g82 (vI e Val.f1 zaT a_v.n) (rG e g82 (za ty2 e) (zd h fun y83 hy83 h=>rG e g82 (vX e e sl80 hy83) (rG e g82 (vI e GFld.f1 zcf y83.ty) (rG e g82 (za ty3 e) (rG e g82 (vI e Val.f3 zaL a_v.l) (rG e g82 (za ty23 e) (zd h fun y84 hy84 h=>rG e g82 (vX e e sl23 hy84) (rG e g82 (za ty26 e) (rG e g82 (zo e) (zy h fun q85 h=>rG e g82 (zX e e q85) (zd h fun y86 hy86 h=>rH e g82 (tC (zig hy86) hT (s4 e e e e) k0 (zj e (zh e g82 e) (hJ81 h 16)))))))))))))))))
       exact rG e g79 (vI e Val.f3 zaL a_v.l) (rG e g79 (za ty23 e) (rG e g79 (vN e sl23) (rG e g79 (zD e e) (zj e (zh e g79 e) (hJ78 h 5)))))
      exact rG e g76 (vI e Val.f1 zaT a_v.n) (rG e g76 (za ty2 e) (rG e g76 (vI e GTyp.f4 zas y7.fields) (rG e g76 (za ty80 e) (rG e g76 (vN e sl80) (rG e g76 (z7 e e) (zj e (zh e g76 e) (hJ75 h 7)))))))
     exact rG e g73 (vI e Val.f1 zaT a_v.n) (rG e g73 (za ty2 e) (rG e g73 (zbF e e) (zj e (zh e g73 e) (hJ72 h 4))))
    ·refine ze h e (fun _ h=>?_) (fun _ h=>zJ (zx (zq (ws (ar e (zf (r1 e) k0 (iS h ▸ ⟨e,e⟩)))))))
     exact ws (oV (za ty31 e) (om e (oV (za ty26 e) (om e (zd h fun y89 hy89 h=>oT (tC (zkS hy89) hT (s4 e e e e) k0 (ar e (bn (zf (r1 e) k0 (iS h ▸ ⟨e,e⟩))))))))))
    exact zJ (hJ88 h 0)
   ·exact zJ (hJ32 h 0)
   exact hJ32 h 2
  exact oN g6 (oN g6 (oV (zh e g6 e) (hJ5 h 3)))
 exact oN g3 (oN g3 (oN g3 (oN g3 (oN g3 (oV (zh e g3 e) (hJ2 h 6))))))

theorem zhY:∀ n,zgk (ziz n)∧zgC (zfZ n)
  | 0=>⟨fun h=>(by cases h),fun h=>(by cases h)⟩
  | n + 1=>by
    obtain ⟨h0,h1⟩:=zhY n
    exact ⟨znp h0 h1,zoM h0 h1⟩
theorem zp0 (n:Nat):zgC (zfZ n):=(zhY n).2

theorem zpM {a_t a_i a_v r} (h:ziS a_t a_i a_v=some r):Ctr Tryz.prog 6 [isv a_t,isv a_i,isv a_v] [] (Pt [isv r] []):=by
 unfold ziS at h
 refine zi Tryz.func6 e fun w0 S0 hT=>ws (oT (tB e (oT (tB e (an e (ws (oV (za ty26 e) (zd h fun y1 hy1 h=>oT (tC (zpv fuel hy1) hT (s1 e) k0 (oV (zjo e e) (om e (jO 5 15 h (fun q2 h=>?_) fun J3 h hJ3=>oI h (fun g4 h=>?_) fun g4 h=>oN g4 (oN g4 (oN g4 (oN g4 (oV (zg e g4 e) (hJ3 h 5)))))))))))))))))
 ·exact ar e (zf (r1 e) k0 (iS h ▸ ⟨e,e⟩))
 exact oG g4 (za ty31 e) (oG g4 (zo e) (oG g4 (za ty26 e) (zd h fun y5 hy5 h=>oH g4 (tC (zp0 fuel hy5) hT (s4 e e e e) k0 (oV (zh e g4 e) (hJ3 h 5))))))


def ziC (f':Val→Option (Bool)):Prop :=
 ∀ {a_v r},f' a_v=some r→Ctr Tryz.prog 7 [isv a_v] [] (Pt [isv r] [])
theorem zpc {zjJ} (zpU:ziC zjJ):ziC (zgz zjJ):=by
 intro a_v r h
 unfold zgz at h
 refine zi Tryz.func7 e fun w0 S0 hT=>ws (oT (tB e (an e (ss (oV (vI e Val.f0 zbu a_v.kind) (oV (za ty3 e) (oV (zD e e) (om e (jO 5 12 h (fun q1 h=>?_) fun J2 h hJ2=>oI h (fun g3 h=>?_) fun g3 h=>oG g3 (vI e Val.f5 zdF a_v.more) (oG g3 (za ty24 e) (oG g3 (vN e sl24) (oG g3 (zbc e e) (oV (zg e g3 e) (hJ2 h 5))))))))))))))
 ·refine rn (ze h e (fun _ h=>?_) (fun _ h=>wk (ss (an e (zr (lO 3 h e fun L5 q4 Q12 h hL5 eL5 rL5=>ss (om e (oV (vI e Val.f3 zaL a_v.l) (oV (za ty23 e) (oV (vN e sl23) (oV (z7 e e) (rn (ze h e (fun _ h=>?_) (fun _ h=>xn (eL5 _ _ (zw (zq (ws (ar e (zf (r1 e) k0 (iS h ▸ ⟨e,e⟩)))))))))))))))))))))
  ·exact ws (ar e (zz (zf (r1 e) k0 (iS h ▸ ⟨e,e⟩))))
  refine wk (zE (zr (ws (oV (vI e Val.f3 zaL a_v.l) (oV (za ty23 e) (om e (zd h fun y9 hy9 h=>oV (vX e e sl23 hy9) (oV (za ty26 e) (zd h fun y10 hy10 h=>oT (tC (zpU hy10) hT (s1 e) k0 (oV (zal e) (rn (ze h e (fun _ h=>?_) (fun _ h=>zJ (zx (zq (zm (om e (zy h fun q11 h=>oV (zX e e q11) (oa e (zK (hL5 h 16))))))))))))))))))))))
  exact ws (ar e (bn (rL5 _ (bn (zf (r1 e) k0 (iS h ▸ ⟨e,e⟩))))))
 exact oN g3 (oN g3 (oN g3 (oN g3 (oV (zh e g3 e) (hJ2 h 5)))))

theorem zi6:∀ n,ziC (zi4 n)
  | 0=>fun h=>(by cases h)
  | n + 1=>zpc (zi6 n)
theorem zpH (n:Nat):ziC (zi4 n):=(zi6 n)

theorem zjY {a_b r} (h:zfe a_b=some r):Ctr Tryz.prog 160 [isv a_b] [] (Pt [isv r.1,isv r.2.1,isv r.2.2] []):=by
 unfold zfe at h
 refine zi Tryz.func160 e fun w0 S0 hT=>ws (oa e (oa e (an e (ws (an e (ss (om e (oV (vN e sl22) (om e (rn (zr (lP h Unit () (fun q1 g1=>[(5,isv q1.1),(10,isv q1.2)]) (fun q1 g1=>[]) (zB (j:=5) e hI (zB (j:=10) e hI zan)) k0 fun L2 q1 g1 Q23 h hL2 eL2 rL2=>ws (oV (z7 e e) (rn (zE (ze h e (fun _ h=>?_) (fun _ h=>xn (eL2 _ _ (zw (zq (ws (oa e (oa e (ar e (zf (.tmp e (.tmp e (.tmp e .nil))) k0 (iS h ▸ ⟨e,e⟩))))))))))))))))))))))))))
 refine wk (zE (zr (ws (om e (zd h fun y13 hy13 h=>oV (vX e e sl22 hy13) (oV (za ty5 e) (oa e (an e (ss (om e (oV (zD e e) (om e (jO 3 20 h (fun q14 h=>?_) fun J15 h hJ15=>oI h (fun g16 h=>?_) fun g16 h=>oN g16 (oN g16 (oV (zg e g16 e) (hJ15 h 3))))))))))))))))
 ·refine om e (jO 4 25 h (fun q17 h=>?_) fun J18 h hJ18=>oI h (fun g19 h=>?_) fun g19 h=>oG g19 (zo e) (oG g19 (zqN (q:=(57:UInt64)) e e (by decide)) (oG g19 (zgX eq168 e e) (oV (zg e g19 e) (hJ18 h 4)))))
  ·refine rn (ze h e (fun _ h=>?_) (fun _ h=>wk (ws (om e (zag h fun q20 h=>oV (zfo e e q20) (om e (oV (zkl e e) (oV (zdL Tryz.underlying5 Tryz.underlying168 e) (oV (zeP e e) (an e (ws (om e (oV (zen e e) (rn (ze h e (fun _ h=>?_) (fun _ h=>zJ (zx (zq (zm (zy h fun q22 h=>oV (zX e e q22) (om e (zK (hL2 h () 25)))))))))))))))))))))))
   ·exact ws (oa e (oa e (ar e (zz (bn (rL2 _ (bn (zf (.tmp e (.tmp e (.tmp e .nil))) k0 (iS h ▸ ⟨e,e⟩)))))))))
   exact ws (om e (om e (zy h fun q21 h=>oV (zX e e q21) (oa e (oa e (ar e (bn (rL2 _ (bn (zf (.tmp e (.tmp e (.tmp e .nil))) k0 (iS h ▸ ⟨e,e⟩)))))))))))
  exact oN g19 (oN g19 (oN g19 (oV (zh e g19 e) (hJ18 h 4))))
 exact oG g16 (zo e) (oG g16 (zb6 eq5 e e) (oV (zh e g16 e) (hJ15 h 3)))


theorem zoA {a_b r} (h:zkg a_b=some r):Ctr Tryz.prog 153 [isv a_b] [] (Pt [isv r.1,isv r.2.1,isv r.2.2] []):=by
 unfold zkg at h
 refine zi Tryz.func153 e fun w0 S0 hT=>ws (oa e (oa e (an e (ss (om e (zd h fun y1 hy1 h=>oV (vX e e sl22 hy1) (oV (za ty5 e) (oV (zkl e e) (oV (zlX Tryz.underlying5 Tryz.underlying3 e) (an e (ws (om e (oV (z7 e e) (rn (ze h e (fun _ h=>?_) (fun _ h=>wk (ws (om e (zad h fun q2 h=>oV (zfz (l:=a_b) e hI sl22 (.inr ⟨_,e,e⟩) (.inl ⟨e,e⟩) q2.1 q2.2.1 q2.2.2) (zd h fun y3 hy3 h=>oT (tC (zjY hy3) hT (s1 e) k0 (om e (oV (zA e e) (oV (zA e e) (oV (zA e e) (oa e ?_))))))))))))))))))))))))))
 ·exact ws (om e (oa e (oa e (ar e (zz (zf (.tmp e (.tmp e (.tmp e .nil))) k0 (iS h ▸ ⟨e,e⟩)))))))
 refine oa e (an e (zE (zr (ws (om e (oV (zaC e e) (an e (ze h e (fun _ h=>?_) (fun _ h=>ws (om e (oV (zmh e e) (om e (jO 3 34 h (fun q4 h=>?_) fun J5 h hJ5=>oI h (fun g6 h=>?_) fun g6 h=>oG g6 (zo e) (oG g6 (zjO e e) (oV (zg e g6 e) (hJ5 h 3))))))))))))))))
 ·exact ws (om e (oa e (oa e (ar e (bn (zf (.tmp e (.tmp e (.tmp e .nil))) k0 (iS h ▸ ⟨e,e⟩)))))))
 ·refine an e (ze h e (fun _ h=>?_) (fun _ h=>zJ (zx (zq (ws (om e (zy h fun q7 h=>oV (ziW Tryz.underlying168 Tryz.underlying3 e q7) (om e (oa e (oa e (ar e (zf (.tmp e (.tmp e (.tmp e .nil))) k0 (iS h ▸ ⟨e,e⟩)))))))))))))
  exact ws (oa e (oa e (ar e (bn (zf (.tmp e (.tmp e (.tmp e .nil))) k0 (iS h ▸ ⟨e,e⟩))))))
 exact oN g6 (oN g6 (oV (zh e g6 e) (hJ5 h 3)))


theorem zmF {a_b r} (h:zij a_b=some r):Ctr Tryz.prog 162 [isv a_b] [] (Pt [isv r] []):=by
 unfold zij at h
 refine zi Tryz.func162 e fun w0 S0 hT=>ws (an e (ws (an e (ss (om e (oV (vN e sl22) (om e (rn (zr (lP h Unit () (fun q1 g1=>[(3,isv q1.1),(8,isv q1.2)]) (fun q1 g1=>[]) (zB (j:=3) e hI (zB (j:=8) e hI zan)) k0 fun L2 q1 g1 Q9 h hL2 eL2 rL2=>ws (oV (z7 e e) (rn (zE (ze h e (fun _ h=>?_) (fun _ h=>xn (eL2 _ _ (zw (zq (ws (om e (ar e (zf (r1 e) k0 (iS h ▸ ⟨e,e⟩)))))))))))))))))))))))
 exact wk (zE (zr (ws (zd h fun y6 hy6 h=>oV (vX e e sl22 hy6) (oV (za ty5 e) (an e (zm (om e (zag h fun q7 h=>oV (zfo e e q7) (om e (oV (zdL Tryz.underlying5 Tryz.underlying168 e) (oV (zeP e e) (oa e (rb (zq (zm (zy h fun q8 h=>oV (zX e e q8) (om e (zK (hL2 h () 14))))))))))))))))))))


theorem ziM {a_b r} (h:zel a_b=some r):Ctr Tryz.prog 161 [isv a_b] [] (Pt [isv r.1,isv r.2] []):=by
 unfold zel at h
 refine zi Tryz.func161 e fun w0 S0 hT=>ws (oa e (an e (ss (om e (oV (vN e sl22) (oV (zD e e) (rn (ze h e (fun _ h=>?_) (fun _ h=>wk (ss (om e (oV (vN e sl22) (oV (zbc e e) (om e (jO 10 20 h (fun q1 h=>?_) fun J2 h hJ2=>oI h (fun g3 h=>?_) fun g3 h=>oG g3 (zo e) (oG g3 (vN e sl22) (oG g3 (zbc e e) (oG g3 (zo e) (jO 5 19 h (fun q4 h=>?_) fun J5 h hJ5=>oI h (fun g6 h=>?_) fun g6 h=>oN g6 (oN g6 (oN g6 (oN g6 (oG g3 (zg e g6 e) (hJ5 h 5))))))))))))))))))))))))
 ·exact ws (oa e (ar e (zz (zf (r2 e e) k0 (iS h ▸ ⟨e,e⟩)))))
 ·refine rn (ze h e (fun _ h=>?_) (fun _ h=>wk (ws (om e (zd h fun y8 hy8 h=>oT (tC (zmF hy8) hT (s1 e) k0 (oa e (ar e (zf (r2 e e) k0 (iS h ▸ ⟨e,e⟩))))))))))
  exact ws (oa e (ar e (zz (zf (r2 e e) k0 (iS h ▸ ⟨e,e⟩)))))
 ·exact oN g3 (oN g3 (oN g3 (oN g3 (oU (oU (oU (oU (oN g3 (oV (zh e g3 e) (hJ2 h 10))))))))))
 ·exact oV (zg e g3 e) (hJ2 h 6)
 exact oG g6 (zo e) (zd h fun y7 hy7 h=>oG g6 (vX e e sl22 hy7) (oG g6 (za ty5 e) (oG g6 (zb6 eq5 e e) (oG g3 (zh e g6 e) (hJ5 h 5)))))


theorem zot {a_b r} (h:zkw a_b=some r):Ctr Tryz.prog 154 [isv a_b] [] (Pt [isv r.1,isv r.2.1,isv r.2.2] []):=by
 unfold zkw at h
 refine zi Tryz.func154 e fun w0 S0 hT=>ws (oa e (oa e (an e (ss (om e (oV (vN e sl22) (oV (zD e e) (rn (ze h e (fun _ h=>?_) (fun _ h=>wk (ss (om e (zd h fun y1 hy1 h=>oV (vX e e sl22 hy1) (oV (za ty5 e) (oV (zen e e) (rn (ze h e (fun _ h=>?_) (fun _ h=>wk (ws (om e (zd h fun y3 hy3 h=>oV (vX e e sl22 hy3) (oV (za ty5 e) (oV (zqZ e e) (oV (zlX Tryz.underlying5 Tryz.underlying3 e) (an e (zE ?_))))))))))))))))))))))))))
 ·exact ws (oa e (oa e (ar e (zz (zf (.tmp e (.tmp e (.tmp e .nil))) k0 (iS h ▸ ⟨e,e⟩))))))
 ·exact ws (om e (zd h fun y2 hy2 h=>oV (vX e e sl22 hy2) (oV (za ty5 e) (oV (zlX Tryz.underlying5 Tryz.underlying3 e) (oa e (oa e (ar e (zz (zf (.tmp e (.tmp e (.tmp e .nil))) k0 (iS h ▸ ⟨e,e⟩))))))))))
 refine zr (ws (om e (oV (zD e e) (om e (jO 3 30 h (fun q4 h=>?_) fun J5 h hJ5=>oI h (fun g6 h=>?_) fun g6 h=>oG g6 (zo e) (oG g6 (zbc e e) (oV (zg e g6 e) (hJ5 h 3))))))))
 ·refine an e (ze h e (fun _ h=>?_) (fun _ h=>ws (om e (oV (vN e sl22) (om e (oV (zjo e e) (an e (ze h e (fun _ h=>?_) (fun _ h=>zJ (zx (zq (ws (om e (om e (zy h fun q7 h=>oV (zX e e q7) (zad h fun q8 h=>oV (zfz (l:=a_b) e hI sl22 (.inr ⟨_,e,e⟩) (.inr ⟨_,e,e⟩) q8.1 q8.2.1 q8.2.2) (zd h fun y9 hy9 h=>oT (tC (ziM hy9) hT (s1 e) k0 (om e (oV (zA e e) (oV (zA e e) (oa e (an e (ss (om e (oV (zaC e e) (om e ?_)))))))))))))))))))))))))))
  ·exact ws (oa e (oa e (ar e (bn (zf (.tmp e (.tmp e (.tmp e .nil))) k0 (iS h ▸ ⟨e,e⟩))))))
  ·exact ws (oa e (oa e (ar e (bn (zf (.tmp e (.tmp e (.tmp e .nil))) k0 (iS h ▸ ⟨e,e⟩))))))
  refine jO 3 49 h (fun q10 h=>?_) fun J11 h hJ11=>oI h (fun g12 h=>?_) fun g12 h=>oG g12 (zo e) (oG g12 (zmh e e) (oV (zg e g12 e) (hJ11 h 3)))
  ·refine om e (jO 3 53 h (fun q13 h=>?_) fun J14 h hJ14=>oI h (fun g15 h=>?_) fun g15 h=>oG g15 (zo e) (oG g15 (zjO e e) (oV (zg e g15 e) (hJ14 h 3))))
   ·refine rn (ze h e (fun _ h=>?_) (fun _ h=>wk (ws (om e (zy h fun q16 h=>oV (ziW Tryz.underlying168 Tryz.underlying3 e q16) (om e (zy h fun q17 h=>oV (zX e e q17) (oa e (oa e (ar e (zf (.tmp e (.tmp e (.tmp e .nil))) k0 (iS h ▸ ⟨e,e⟩))))))))))))
    exact ws (oa e (oa e (ar e (zz (zf (.tmp e (.tmp e (.tmp e .nil))) k0 (iS h ▸ ⟨e,e⟩))))))
   exact oN g15 (oN g15 (oV (zh e g15 e) (hJ14 h 3)))
  exact oN g12 (oN g12 (oV (zh e g12 e) (hJ11 h 3)))
 exact oN g6 (oN g6 (oV (zh e g6 e) (hJ5 h 3)))


theorem zm6 {a_b r} (h:zih a_b=some r):Ctr Tryz.prog 143 [isv a_b] [] (Pt [isv r.1,isv r.2.1,isv r.2.2.1,isv r.2.2.2.1,isv r.2.2.2.2] []):=by
 unfold zih at h
 refine zi Tryz.func143 e fun w0 S0 hT=>ws (oT (zC _ ze121 fun b1=>oa e (oa e (oa e (an e (ss (om e (oV (vN e sl22) (oV (zD e e) (rn (ze h e (fun _ h=>?_) (fun _ h=>wk (ws (om e (zd h fun y2 hy2 h=>oT (tC (zoA hy2) hT (s1 e) k0 (om e (oV (zA e e) (oV (zA e e) (oV (zA e e) (oa e (oa e (an e (ss (om e (oV (zaC e e) (rn (ze h e (fun _ h=>?_) (fun _ h=>?_)))))))))))))))))))))))))))))
 ·exact ws (oV (zaa (z:=(Tag.mk (0:Int) (0:Int))) e bu121 ze121 .nil) (oT (tS ty121 e e p0 ⟨0,0⟩ (oa e (oa e (oa e (ar e (zz (zf (.cell e .here ty121 (.tmp e (.tmp e (.tmp e (.tmp e .nil))))) k0 (iS h ▸ ⟨e,e⟩))))))))))
 ·exact ws (oV (zaa (z:=(Tag.mk (0:Int) (0:Int))) e bu121 ze121 .nil) (om e (oT (tS ty121 e e p0 ⟨0,0⟩ (oa e (oa e (oa e (ar e (zz (zf (.cell e .here ty121 (.tmp e (.tmp e (.tmp e (.tmp e .nil))))) k0 (iS h ▸ ⟨e,e⟩)))))))))))
 refine wk (ws (om e (om e (zy h fun q3 h=>oV (zX e e q3) (zad h fun q4 h=>oV (zfz (l:=a_b) e hI sl22 (.inr ⟨_,e,e⟩) (.inl ⟨e,e⟩) q4.1 q4.2.1 q4.2.2) (zd h fun y5 hy5 h=>oT (tC (zot hy5) hT (s1 e) k0 (om e (oV (zA e e) (oV (zA e e) (oV (zA e e) (oa e (oa e (an e (ss (om e (oV (zaC e e) (rn (ze h e (fun _ h=>?_) (fun _ h=>wk (zE (zH (.v 0 (.v 1 (.v 2 (.v 3 (.v 4 (.v 5 (.v 6 (.v 7 (.v 8 (.v 9 (.v 10 (.v 11 (.v 12 (.v 13 (.v 14 (.v 15 (.v 16 (.t 17 (.v 18 (.v 19 (.v 20 (.v 21 .nil)))))))))))))))))))))) moOrd (by kernel_rfl) (rm e e (zd h fun y6 hy6 h=>zj e (vX e e sl22 hy6) (zj e (za ty5 e) (zag h fun q7 h=>?_))))))))))))))))))))))))))
 ·exact ws (oV (zaa (z:=(Tag.mk (0:Int) (0:Int))) e bu121 ze121 .nil) (om e (oT (tS ty121 e e p0 ⟨0,0⟩ (oa e (oa e (oa e (ar e (zz (zf (.cell e .here ty121 (.tmp e (.tmp e (.tmp e (.tmp e .nil))))) k0 (iS h ▸ ⟨e,e⟩)))))))))))
 exact zj e (zpZ e e q7) (zj e (zlX Tryz.underlying5 Tryz.underlying3 e) (rm e e (zj e (zaa (z:=(Tag.mk ((shr8 y6 (6:UInt64).toNat).toNat:Int) y2.1)) e bu121 ze121 (.cons Tag.f0 zff e hI (.cons Tag.f1 zcS e hI .nil))) (rm e e (zd h fun y8 hy8 h=>zj e (vX e e sl22 hy8) (zj e (za ty5 e) (zj e (zkl e e) (zj e (zgX eq5 e e) (rm e e (rm e e (zy h fun q9 h=>zj e (zX e e q9) (rm e e (zy h fun q10 h=>zj e (zX e e q10) (rT e (tS ty121 e e p0 ⟨((shr8 y6 (6:UInt64).toNat).toNat:Int),y2.1⟩ (zj e (zaj e) (zj e (zaj e) (zj e (zaj e) (zj e (zaj e) (z6 (zq (zaQ (zf (.cell e .here ty121 (.tmp e (.tmp e (.tmp e (.tmp e .nil))))) k0 (iS h ▸ ⟨e,e⟩))))))))))))))))))))))))


theorem zpY {a_b r} (h:zml a_b=some r):Ctr Tryz.prog 126 [isv a_b] [] (Pt [isv r.1,isv r.2.1,isv r.2.2.1,isv r.2.2.2.1,isv r.2.2.2.2] []):=by
 unfold zml at h
 refine zi Tryz.func126 e fun w0 S0 hT=>ws (oT (zC _ ze121 fun b1=>oa e (oa e (oa e (an e (ws (om e (zd h fun y2 hy2 h=>oT (tC (zm6 hy2) hT (s1 e) k0 (om e (oV (zA e e) (oV (zA e e) (oV (zA e e) (oV (zA e e) (oV (zA e e) (oT (zC _ ze121 fun b3=>oT (tS ty121 e e p0 y2.1 (zI (z8 7 .here e) (oa e (oa e (oa e (an e (ss (om e (oV (zD e e) (om e (jO 7 29 h (fun q4 h=>?_) fun J5 h hJ5=>oI h (fun g6 h=>?_) fun g6 h=>?_))))))))))))))))))))))))))))
 ·refine rn (jW 11 h (fun q8 h=>?_) fun J9 h hJ9=>ze h e (fun _ h=>?_) (fun _ h=>zJ (hJ9 h 0)))
  ·refine ss (om e (oV (zaC e e) (rn (ze h e (fun _ h=>?_) (fun _ h=>wk (zE (zH (.v 0 (.v 1 (.v 2 (.v 3 (.v 4 (.v 5 (.v 6 (.v 7 (.v 9 (.v 10 (.v 11 (.t 8 (.t 12 (.v 13 (.v 14 (.v 15 (.v 16 .nil))))))))))))))))) moOrd (by kernel_rfl) (zj e (za ty121 e) (rm e e (rm e e (rm e e (rm e e (rm e e (zy h fun q10 h=>zj e (zX e e q10) (zad h fun q11 h=>zj e (zfz (l:=a_b) e hI sl22 (.inr ⟨_,e,e⟩) (.inr ⟨_,e,e⟩) q11.1 q11.2.1 q11.2.2) (rm e e (rm e e (zy h fun q12 h=>zj e (zX e e q12) (zag h fun q14 h=>rT e (zlv (m:=((a_b.take ((y2.2.2.2.1 + y2.2.2.1)).toNat).drop (y2.2.2.2.1).toNat)) zkR e e hI q14 fun t13=>rT e (tS ty121 e e p1 y2.1 (zj e (zaj e) (zj e (zaj e) (zj e (zaj e) (zj e (zaj e) (z6 ?_))))))))))))))))))))))))))
   ·exact ws (oV (zaa (z:=(Tag.mk (0:Int) (0:Int))) e bu121 ze121 .nil) (om e (oT (tS ty121 e e p0 ⟨0,0⟩ (oa e (oa e (oa e (ar e (zz (zf (.cell e .here ty121 (.tmp e (.as e (zcU (α:=UInt8)) (.tmp e (.tmp e .nil))))) k0 (iS h ▸ ⟨e,e⟩)))))))))))
   exact zq (zaQ (zf (.cell e .here ty121 (.tmp e (.as e zG (.tmp e (.tmp e .nil))))) k0 (iS h ▸ ⟨e,e⟩)))
  exact zm (oa e (zK (hJ9 h 1)))
 ·exact oG g6 (zo e) (oG g6 (zo e) (oG g6 (vN e sl22) (oG g6 (zo e) (zy h fun q7 h=>oG g6 (zcZ e e q7) (oG g6 (zbc e e) (oV (zh e g6 e) (hJ5 h 7)))))))
 exact oN g6 (oN g6 (oN g6 (oN g6 (oN g6 (oN g6 (oV (zg e g6 e) (hJ5 h 7)))))))


theorem zj9 {a_t a_k r} (h:zeX a_t a_k=some r):Ctr Tryz.prog 100 [isv a_t,isv a_k] [] (Pt [isv r] []):=by
 unfold zeX at h
 refine zi Tryz.func100 e fun w0 S0 hT=>ws (oT (tB e (an e (ws (oV (vI e GTyp.f4 zas a_t.fields) (oV (za ty80 e) (om e (zd h fun y1 hy1 h=>oV (vX e e sl80 hy1) (oV (vI e GFld.f2 zjf y1.optional) (oV (za ty4 e) (om e (jO 7 18 h (fun q2 h=>?_) fun J3 h hJ3=>oI h (fun g4 h=>?_) fun g4 h=>oG g4 (vI e GTyp.f4 zas a_t.fields) (oG g4 (za ty80 e) (oG g4 (zo e) (zd h fun y5 hy5 h=>oG g4 (vX e e sl80 hy5) (oG g4 (vI e GFld.f3 zgF y5.has) (oG g4 (za ty4 e) (oV (zg e g4 e) (hJ3 h 7)))))))))))))))))))
 ·refine om e (jO 5 24 h (fun q6 h=>?_) fun J7 h hJ7=>oI h (fun g8 h=>?_) fun g8 h=>oG g8 (zo e) (oG g8 (vI e GTyp.f5 zem a_t.root) (oG g8 (za ty3 e) (oG g8 (zbF e e) (oV (zg e g8 e) (hJ7 h 5))))))
  ·exact ar e (zf (r1 e) k0 (iS h ▸ ⟨e,e⟩))
  exact oN g8 (oN g8 (oN g8 (oN g8 (oV (zh e g8 e) (hJ7 h 5)))))
 exact oN g4 (oN g4 (oN g4 (oN g4 (oN g4 (oN g4 (oV (zh e g4 e) (hJ3 h 7)))))))


theorem zn5 {a_t r} (h:zkc a_t=some r):Ctr Tryz.prog 127 [isv a_t] [] (Pt [isv r] []):=by
 unfold zkc at h
 refine zi Tryz.func127 e fun w0 S0 hT=>ws (oT (tB e (an e (ws (oV (vI e GTyp.f5 zem a_t.root) (oV (za ty3 e) (oV (zur e e) (oV (vI e GTyp.f4 zas a_t.fields) (oV (za ty80 e) (oV (vN e sl80) (oV (zuv e e) (an e (zE (zr (lO 3 h e fun L2 q1 Q15 h hL2 eL2 rL2=>ss (om e (oV (zbc e e) (om e (jO 5 18 h (fun q9 h=>?_) fun J10 h hJ10=>oI h (fun g11 h=>?_) fun g11 h=>oN g11 (oN g11 (oN g11 (oN g11 (oV (zg e g11 e) (hJ10 h 5))))))))))))))))))))))))
 ·refine rn (ze h e (fun _ h=>?_) (fun _ h=>xn (eL2 _ _ (zw (zq (ws (om e (ar e (zf (r1 e) k0 (iS h ▸ ⟨e,e⟩))))))))))
  exact wk (zr (zm (om e (zy h fun q14 h=>oV (zcZ e e q14) (oa e (rb (hL2 h 8)))))))
 exact oG g11 (za ty82 e) (oG g11 (zo e) (zy h fun q12 h=>oG g11 (zcZ e e q12) (zd h fun y13 hy13 h=>oH g11 (tC (zj9 hy13) hT (s2 e e) k0 (oV (zh e g11 e) (hJ10 h 5))))))


theorem zhv {a_x a_a1 zgd t_a_a11 r} (h:zdE a_x a_a1=some r):Ctr Tryz.prog 156 [isv a_x,ptrv zgd (Fld.id (TList Tag))] [boxE zgd ((TList.mk t_a_a11 a_a1):(TList Tag)),tokE t_a_a11] (Pt1 (fun _=>[]) fun u1=>[boxE zgd ((TList.mk u1 r)),tokE u1]):=by
 unfold zdE at h
 refine zi Tryz.func156 e fun w0 S0 hT=>ws (oT (tB e (rn (ws (oV (vI e GTyp.f1 ze4 a_x.tags) (oV (za ty76 e) (oV (vN e sl76) (oV (zbc e e) (rn (ze h e (fun _ h=>?_) (fun _ h=>zJ (zaJ .nil k2 (iS h ▸ ⟨t_a_a11,e,e⟩)))))))))))))
 refine zH (.v 1 (.v 2 (.v 3 (.v 4 (.alt 0 (.t 5 (.t 6 (.t 7 .nil))) (.t 5 (.t 0 (.t 6 (.t 7 .nil))))))))) moOrd (by kernel_rfl) (zj e (vI e GTyp.f1 ze4 a_x.tags) (zj e (za ty76 e) (zd h fun y2 hy2 h=>zj e (vX e e sl76 hy2) (zj e (za ty121 e) (zag h fun q5 h=>zdu ?_ (rT e (zN (l:=([y2]:(List Tag))) el76 (.cons e hI .nil) e e (rT e (zaz (R:=appv t_a_a11 a_a1) ty76 e p0 isvT1 (rT e (za7 (l:=a_a1) (m:=([y2]:(List Tag))) zhc e hI e zG (.there .here) q5 fun t7=>rT e (tR ty76 e e isvT2 p1 ⟨t7,(a_a1 ++ ([y2]:(List Tag)))⟩ e (z6 (zaJ .nil k2 (iS h ▸ ⟨t7,e,e⟩)))))))))))))))
 exact rT e (zaz (R:=appv t_a_a11 a_a1) ty76 e p0 isvT1 (rT e (zN (l:=([y2]:(List Tag))) el76 (.cons e hI .nil) e e (rT e (za7 (l:=a_a1) (m:=([y2]:(List Tag))) zhc e hI e zG (.there .here) q5 fun t4=>rT e (tR ty76 e e isvT2 p1 ⟨t4,(a_a1 ++ ([y2]:(List Tag)))⟩ e (z6 (zaJ .nil k2 (iS h ▸ ⟨t4,e,e⟩)))))))))


def zc2 (f':GTys→Int→Int→(List Tag)→Option (GTys × Int × (List Tag))):Prop :=
 ∀ {a_t ziG zcy zjD zk1 zdw zhz t_a_do__01 r},f' a_t ziG zcy zjD=some r→Ctr Tryz.prog 155 [ptrv zk1 (Fld.id GTys),isv ziG,ptrv zdw (Fld.id Int),clov 156 [ptrv zhz (Fld.id (TList Tag))]] [boxE zk1 (a_t:GTys),boxE zdw (zcy:Int),boxE zhz ((TList.mk t_a_do__01 zjD):(TList Tag)),tokE t_a_do__01] (Pt1 (fun _=>[]) fun u1=>[boxE zk1 (r.1),boxE zdw (r.2.1),boxE zhz ((TList.mk u1 r.2.2)),tokE u1])
theorem ziY {zdt} (zjV:zc2 zdt):zc2 (zej zdt):=by
 intro a_t ziG zcy zjD zk1 zdw zhz t_a_do__01 r h
 unfold zej at h
 refine zi Tryz.func155 e fun w0 S0 hT=>ss (om e (oV (z7 e e) (om e (jO 8 21 h (fun q2 h=>?_) fun J3 h hJ3=>oI h (fun g4 h=>?_) fun g4 h=>oG g4 (zo e) (oG g4 (zo e) (oG g4 (zs e) (oG g4 (zV e GTys.f0 znV) (oH g4 (tL ty29 e p0 a_t.l (oG g4 (vN e sl29) (oG g4 (zbF e e) (oV (zg e g4 e) (hJ3 h 8)))))))))))))
 ·refine om e (jO 5 27 h (fun q5 h=>?_) fun J6 h hJ6=>oI h (fun g7 h=>?_) fun g7 h=>oG g7 (zo e) (oG g7 (zs e) (oH g7 (tL ty3 e p1 zcy (oG g7 (zD e e) (oV (zg e g7 e) (hJ6 h 5)))))))
  ·refine rn (ze h e (fun _ h=>?_) (fun _ h=>wk (ws (om e (oV (zs e) (oT (tL ty3 e p1 zcy (zy h fun q8 h=>oV (zcZ e e q8) (oV (zs e) (oT (tS ty3 e e p1 (zcy - 1) (rn (ws (om e (oV (zs e) (oV (zV e GTys.f0 znV) (oT (tL ty29 e p1 a_t.l (om e (zd h fun y9 hy9 h=>oV (vX e e sl29 hy9) (oV (za ty82 e) (oT (zC _ ze82 fun b10=>oT (tS ty82 e e p0 y9 (zI (z8 8 .here e) (rn (ws (om e (oV (za ty82 e) (zd h fun y11 hy11 h=>oT (zfT e (.same e .nil) (zhv hy11) hT (.cons (.there (.there .here)) (.cons (.there (.there .here)) .nil)) (fun R H' hR=>?_))))))))))))))))))))))))))))))))
   ·exact zaQ (zz (zf .nil k4 (iS h ▸ ⟨t_a_do__01,e,e⟩)))
   obtain ⟨t12,rfl,rfl⟩:=hR
   refine rn (ss (oV (vI e GTyp.f1 ze4 y9.tags) (oV (za ty76 e) (oV (vN e sl76) (oV (zbc e e) (rn (ze h e (fun _ h=>?_) (fun _ h=>wk (ws (oV (vI e GTyp.f4 zas y9.fields) (oV (za ty80 e) (oV (vN e sl80) (om e (rn (zr (lP h Tok t12 (fun q13 g13=>[(50,isv q13.1)]) (fun q13 g13=>[boxE zhz ((TList.mk g13 q13.2.1):(TList Tag)),tokE g13,boxE zdw (q13.2.2.1:Int),boxE zk1 (q13.2.2.2:GTys)]) (zB (j:=50) e hI zan) k4 fun L14 q13 g13 Q25 h hL14 eL14 rL14=>ws (oV (z7 e e) (rn (zE (ze h e (fun _ h=>?_) (fun _ h=>xn (eL14 _ _ (zw (zaJ .nil (a3 (a2 k2)) (iS h ▸ ⟨g13,e,e⟩)))))))))))))))))))))))))
   ·exact zaQ (zz (zf .nil (a3 (a2 k2)) (iS h ▸ ⟨t12,e,e⟩)))
   exact wk (zE (zr (ws (zd h fun y20 hy20 h=>oV (vX e e sl80 hy20) (oV (za ty88 e) (oT (zC _ ze88 fun b21=>oT (tS ty88 e e p0 y20 (zI (z8 10 .here e) (rn (zm (om e (oV (vI e GFld.f1 zcf y20.ty) (oV (za ty3 e) (om e (om e (zd h fun y22 hy22 h=>oT (tC1 (zjV hy22) hT (s4 e e e e) (a3 (a2 k2)) (fun t23=>rb (zq (zm (zy h fun q24 h=>oV (zX e e q24) (om e (zK (hL14 h t23 14)))))))))))))))))))))))))
  exact oN g7 (oN g7 (oN g7 (oN g7 (oV (zh e g7 e) (hJ6 h 5)))))
 exact oN g4 (oN g4 (oN g4 (oN g4 (oN g4 (oN g4 (oN g4 (oV (zh e g4 e) (hJ3 h 8))))))))

theorem zeR:∀ n,zc2 (zfd n)
  | 0=>fun h=>(by cases h)
  | n + 1=>ziY (zeR n)
theorem zjS (n:Nat):zc2 (zfd n):=(zeR n)

theorem zjg {a_t ziG zk1 r} (h:zeC a_t ziG=some r):Ctr Tryz.prog 146 [ptrv zk1 (Fld.id GTys),isv ziG] [boxE zk1 (a_t:GTys)] (Pt [isv r.1] [boxE zk1 (r.2)]):=by
 unfold zeC at h
 exact zi Tryz.func146 e fun w0 S0 hT=>ws (an e (ws (oT (zC _ zuI fun b1=>zI (zau) (rn (ws (oT (zC _ ze3 fun b3=>oT (tS ty3 e e p0 300 (rn (ws (om e (om e (oV (zh5 (.same e .nil)) (zd h fun y4 hy4 h=>oT (tC1 (zjS fuel hy4) hT (s4 e e e e) (a3 (a0 (a1 k1))) (fun t5=>rn (ws (oT (zaz (R:=appv t5 y4.2.2) ty76 e p2 isvT1 (ar e (zf (.as e zG .nil) k1 (iS h ▸ ⟨e,e⟩)))))))))))))))))))))))


theorem zmV {a_t a_i r} (h:zix a_t a_i=some r):Ctr Tryz.prog 131 [isv a_t,isv a_i] [] (Pt [isv r] []):=by
 unfold zix at h
 exact zi Tryz.func131 e fun w0 S0 hT=>ws (oT (tB e (an e (ws (oV (vI e GTab.f3 zbb a_t.types) (oV (za ty29 e) (oV (zaa (z:=(GTys.mk a_t.types)) e bu207 ze207 (.cons GTys.f0 znV e hI .nil)) (oT (zlL (y:=(GTys.mk a_t.types)) e hI fun b1=>an e (ws (om e (om e (zd h fun y2 hy2 h=>oT (tC (zjg hy2) hT (s2 e e) k1 (ar e (zf (r1 e) k0 (iS h ▸ ⟨e,e⟩)))))))))))))))))


theorem zfy {a_s a_v r} (h:zch a_s a_v=some r):Ctr Tryz.prog 145 [isv a_s,isv a_v] [] (Pt [isv r] []):=by
 unfold zch at h
 refine zi Tryz.func145 e fun w0 S0 hT=>ws (oT (tB e (an e (ss (om e (oV (vN e sl76) (om e (rn (zr (lO 8 h e fun L2 q1 Q7 h hL2 eL2 rL2=>ws (oV (z7 e e) (rn (zE (ze h e (fun _ h=>?_) (fun _ h=>xn (eL2 _ _ (zw (zq (ws (ar e (zf (r1 e) k0 (iS h ▸ ⟨e,e⟩))))))))))))))))))))))
 refine wk (zE (zr (ws (om e (an e (zE (zH (.v 0 (.v 1 (.v 2 (.v 3 (.v 4 (.v 5 .nil)))))) moOrd (by kernel_rfl) (zj e (za ty121 e) (rm e e (rm e e (zd h fun y5 hy5 h=>zj e (vX e e sl76 hy5) (zj e (za ty121 e) (zj e (zb6 eq121 e e) (z6 (zq (ze h e (fun _ h=>?_) (fun _ h=>zJ (zx (zq (zm (zy h fun q6 h=>oV (zX e e q6) (om e (zK (hL2 h 12))))))))))))))))))))))))
 exact ws (om e (ar e (bn (rL2 _ (bn (zf (r1 e) k0 (iS h ▸ ⟨e,e⟩)))))))


theorem zeG {a_s a_v r} (h:zbT a_s a_v=some r):Ctr Tryz.prog 130 [isv a_s,isv a_v] [] (Pt [isv r] []):=by
 unfold zbT at h
 exact zi Tryz.func130 e fun w0 S0 hT=>ws (oT (tB e (an e (ws (om e (oV (za ty121 e) (zd h fun y1 hy1 h=>oT (tC (zfy hy1) hT (s2 e e) k0 (oV (zbF e e) (ar e (zf (r1 e) k0 (iS h ▸ ⟨e,e⟩))))))))))))


theorem zgR {a_f a_a1 a_a2 zgd r} (h:zcY a_f a_a1 a_a2=some r):Ctr Tryz.prog 129 [isv a_f,immv (PtrB.mk zgd),immv (a_a2)] [boxE zgd (a_a1:GChk)] (Pt [isv r.1] [boxE zgd (r.2)]):=by
 unfold zcY at h
 exact zi Tryz.func129 e fun w0 S0 hT=>ws (oT (tB e (an e (zE (zH (.v 0 (.v 1 (.v 2 (.v 3 (.v 5 (.v 6 (.v 8 (.t 4 (.t 7 (.t 9 (.v 10 .nil))))))))))) moOrd (by kernel_rfl) (zj e (zmB (α:=GChk) ty89 e) (zj e (zs e) (zj e (zV e GChk.f0 zgN) (zj e (zV e GTbd.f0 zgH) (zj e (vI e GFld.f1 zcf a_f.ty) (zj e (za ty3 e) (zj e (za ty121 e) (rT e (tL ty31 e p0 a_a1.tabled.t (zd h fun y1 hy1 h=>rT e (tC (zmV hy1) hT (s2 e e) k0 (zd h fun y2 hy2 h=>rT e (tC (zeG hy2) hT (s2 e e) k0 (zj e (zaj e) (z6 (zq (zaQ (zf (r1 e) k1 (iS h ▸ ⟨e,e⟩))))))))))))))))))))))))


theorem zdQ {a_s zdl zep zct r} (h:zbv a_s zdl zep=some r):Ctr Tryz.prog 144 [isv a_s,clov 129 [immv (PtrB.mk zct),immv (zep)]] [boxE zct (zdl:GChk)] (Pt [isv r.1] [boxE zct (r.2)]):=by
 unfold zbv at h
 refine zi Tryz.func144 e fun w0 S0 hT=>ws (an e (ss (om e (oV (vN e sl80) (om e (rn (zr (lP h Unit () (fun q1 g1=>[(8,isv q1.1)]) (fun q1 g1=>[boxE zct (q1.2:GChk)]) (zB (j:=8) e hI zan) k1 fun L2 q1 g1 Q9 h hL2 eL2 rL2=>ws (oV (z7 e e) (rn (zE (ze h e (fun _ h=>?_) (fun _ h=>xn (eL2 _ _ (zw (zq (ws (ar e (zf (r1 e) k1 (iS h ▸ ⟨e,e⟩))))))))))))))))))))
 refine wk (zE (zr (ws (om e (an e (ws (om e (om e (om e (zd h fun y6 hy6 h=>oV (vX e e sl80 hy6) (oV (za ty88 e) (zd h fun y7 hy7 h=>oT (zfT e (.same e .nil) (zgR hy7) hT (.cons .here .nil) (fun R H' hR=>?_))))))))))))))
 obtain ⟨rfl,rfl⟩:=hR
 refine rn (ze h e (fun _ h=>?_) (fun _ h=>zJ (zx (zq (zm (zy h fun q8 h=>oV (zX e e q8) (om e (zK (hL2 h () 12)))))))))
 exact ws (om e (ar e (bn (rL2 _ (bn (zf (r1 e) k1 (iS h ▸ ⟨e,e⟩)))))))


theorem zdq {a_s zdl zep zct r} (h:zbd a_s zdl zep=some r):Ctr Tryz.prog 128 [isv a_s,clov 129 [immv (PtrB.mk zct),immv (zep)]] [boxE zct (zdl:GChk)] (Pt [isv r.1] [boxE zct (r.2)]):=by
 unfold zbd at h
 exact zi Tryz.func128 e fun w0 S0 hT=>ws (an e (ws (om e (om e (zd h fun y1 hy1 h=>oT (tC (zdQ hy1) hT (s2 e e) k1 (oV (zbF e e) (ar e (zf (r1 e) k1 (iS h ▸ ⟨e,e⟩))))))))))


theorem zeU {a_c a_i a_b zbD r} (h:zcE a_c a_i a_b=some r):Ctr Tryz.prog 95 [ptrv zbD (Fld.id GChk),isv a_i,isv a_b] [boxE zbD (a_c:GChk)] (Pt [isv r.1,isv r.2.1] [boxE zbD (r.2.2)]):=by
 unfold zcE at h
 refine zi Tryz.func95 e fun w0 S0 hT=>ws (oT (znY (y:=PtrB.mk zbD) e zqy (oT (zC _ ze121 fun b1=>an e (ws (om e (zd h fun y2 hy2 h=>oT (tC (zpY hy2) hT (s1 e) k0 (om e (oV (zA e e) (oV (zA e e) (oV (zA e e) (oV (zA e e) (oV (zA e e) (oT (zC _ ze121 fun b3=>oT (tS ty121 e e p0 y2.1 (zI (z8 8 .here e) (oa e (oa e (oa e (an e (ss (om e (oV (zaC e e) (om e (jO 5 31 h (fun q4 h=>?_) fun J5 h hJ5=>oI h (fun g6 h=>?_) fun g6 h=>oG g6 (zo e) (oG g6 (zo e) ?_))))))))))))))))))))))))))))
 ·refine rn (ze h e (fun _ h=>?_) (fun _ h=>wk (ws (oV (zmB (α:=GChk) ty89 e) (oV (zs e) (oV (zV e GChk.f0 zgN) (oV (zV e GTbd.f0 zgH) (oV (zV e GTab.f3 zbb) (oT (tL ty29 e p1 a_c.tabled.t.types (om e (zd h fun y7 hy7 h=>oV (vX e e sl29 hy7) (oV (za ty82 e) (oT (zC _ ze82 fun b8=>oT (tS ty82 e e p0 y7 (zI (z8 13 .here e) (an e (ss (oV (vI e GTyp.f0 zbf y7.kind) (oV (za ty3 e) (oV (zD e e) (rn (jW 14 h (fun q9 h=>?_) fun J10 h hJ10=>ze h e (fun _ h=>?_) (fun _ h=>zJ (hJ10 h 0))))))))))))))))))))))))))
  ·exact ws (oV (zaa (z:=(Tag.mk (0:Int) (0:Int))) e bu121 ze121 .nil) (oT (tS ty121 e e p0 ⟨0,0⟩ (ar e (zz (zf (.cell e .here ty121 (.tmp e .nil)) (a1 k0) (iS h ▸ ⟨e,e⟩)))))))
  ·exact ws (oV (vI e GTyp.f4 zas y7.fields) (oV (za ty80 e) (om e (zad h fun q12 h=>oV (zfz (l:=y7.fields) e hI sl80 (.inr ⟨_,e,e⟩) (.inl ⟨e,e⟩) q12.1 q12.2.1 q12.2.2) (oV (zh5 (.same e (.same e .nil))) (zd h fun y13 hy13 h=>oT (tC (zdq hy13) hT (s2 e e) (a1 k0) (an e (ws (oV (za ty121 e) (om e (oV (zal e) (oT (tS ty121 e e p1 y2.1 (ar e (zf (.cell e .here ty121 (.tmp e .nil)) (a1 k0) (iS h ▸ ⟨e,e⟩)))))))))))))))))
  exact zm (oV (za ty82 e) (zd h fun y11 hy11 h=>oT (tC (zn5 hy11) hT (s1 e) k0 (oa e (zK (hJ10 h 3))))))
 ·exact oN g6 (oN g6 (oN g6 (oN g6 (oV (zh e g6 e) (hJ5 h 5)))))
 exact oG g6 (vN e sl22) (oG g6 (zaC e e) (oV (zg e g6 e) (hJ5 h 5)))


theorem zl5 {a_y a_a1 r} (h:zhm a_y a_a1=some r):Ctr Tryz.prog 69 [isv a_y,immv (a_a1)] [] (Pt [isv r] []):=by
 unfold zhm at h
 exact zi Tryz.func69 e fun w0 S0 hT=>ws (oT (tB e (an e (ws (oV (vI e GItem.f1 zc3 a_y.number) (oV (za ty2 e) (oV (za ty2 e) (oV (zD e e) (ar e (zf (r1 e) k0 (iS h ▸ ⟨e,e⟩)))))))))))


theorem zeh {a_s zdl r} (h:zaK a_s zdl=some r):Ctr Tryz.prog 68 [isv a_s,clov 69 [immv (zdl)]] [] (Pt [isv r] []):=by
 unfold zaK at h
 refine zi Tryz.func68 e fun w0 S0 hT=>ws (an e (ss (om e (oV (vN e sl79) (om e (rn (zr (lO 8 h e fun L2 q1 Q9 h hL2 eL2 rL2=>ws (oV (z7 e e) (rn (zE (ze h e (fun _ h=>?_) (fun _ h=>xn (eL2 _ _ (zw (zq (ws (ar e (zf (r1 e) k0 (iS h ▸ ⟨e,e⟩))))))))))))))))))))
 refine wk (zE (zr (ws (om e (an e (ws (om e (om e (om e (zd h fun y6 hy6 h=>oV (vX e e sl79 hy6) (oV (za ty124 e) (zd h fun y7 hy7 h=>oT (zfT e (.same e .nil) (zl5 hy7) hT .nil (fun R H' hR=>?_))))))))))))))
 obtain ⟨rfl,rfl⟩:=hR
 refine rn (ze h e (fun _ h=>?_) (fun _ h=>zJ (zx (zq (zm (zy h fun q8 h=>oV (zX e e q8) (om e (zK (hL2 h 12)))))))))
 exact ws (om e (ar e (bn (rL2 _ (bn (zf (r1 e) k0 (iS h ▸ ⟨e,e⟩)))))))


theorem zh7 {a_x a_n_ r} (h:zdr a_x a_n_=some r):Ctr Tryz.prog 43 [isv a_x,isv a_n_] [] (Pt [isv r] []):=by
 unfold zdr at h
 exact zi Tryz.func43 e fun w0 S0 hT=>ws (oT (tB e (oT (tB e (an e (ws (oV (vI e GTyp.f3 zeo a_x.items) (oV (za ty79 e) (oV (zh5 (.same e .nil)) (zd h fun y1 hy1 h=>oT (tC (zeh hy1) hT (s2 e e) k0 (ar e (zf (r1 e) k0 (iS h ▸ ⟨e,e⟩))))))))))))))


theorem zlp {a_b r} (h:ziy a_b=some r):Ctr Tryz.prog 96 [isv a_b] [] (Pt [isv r] []):=by
 unfold ziy at h
 refine zi Tryz.func96 e fun w0 S0 hT=>ws (an e (ws (om e (oV (vN e sl22) (oV (zbc e e) (om e (jO 4 10 h (fun q1 h=>?_) fun J2 h hJ2=>oI h (fun g3 h=>?_) fun g3 h=>oN g3 (oN g3 (oN g3 (oV (zg e g3 e) (hJ2 h 4)))))))))))
 ·exact ar e (zf (r1 e) k0 (iS h ▸ ⟨e,e⟩))
 exact oG g3 (zo e) (oG g3 (vN e sl22) (oG g3 (zjo e e) (oV (zh e g3 e) (hJ2 h 4))))


theorem zhs {a_c a_i a_v zbD r} (h:zcF a_c a_i a_v=some r):Ctr Tryz.prog 62 [ptrv zbD (Fld.id GChk),isv a_i,isv a_v] [boxE zbD (a_c:GChk)] (Pt [isv r.1] [boxE zbD (r.2)]):=by
 unfold zcF at h
 refine zi Tryz.func62 e fun w0 S0 hT=>ws (oT (tB e (an e (ws (om e (oV (zs e) (oV (zV e GChk.f0 zgN) (oV (zV e GTbd.f0 zgH) (oV (zV e GTab.f3 zbb) (oT (tL ty29 e p0 a_c.tabled.t.types (om e (zd h fun y1 hy1 h=>oV (vX e e sl29 hy1) (oV (za ty82 e) (oT (zC _ ze82 fun b2=>oT (tS ty82 e e p0 y1 (zI (z8 7 .here e) (rn (ws (oV (vI e GTyp.f0 zbf y1.kind) (oV (za ty3 e) (oV (zD e e) (an e (ss (oV (vI e GTyp.f6 zfk y1.more) (oV (za ty4 e) (oV (zal e) (om e (jO 8 35 h (fun q3 h=>?_) fun J4 h hJ4=>?_))))))))))))))))))))))))))))))
 ·refine om e (jO 9 45 h (fun q9 h=>?_) fun J10 h hJ10=>oI h (fun g11 h=>?_) fun g11 h=>oG g11 (vI e Val.f3 zaL a_v.l) (oG g11 (za ty23 e) (oG g11 (vN e sl23) (oG g11 (vI e Val.f5 zdF a_v.more) (oG g11 (za ty24 e) (oG g11 (vN e sl24) (zy h fun q12 h=>oG g11 (zX e e q12) (oG g11 (zbc e e) (oV (zg e g11 e) (hJ10 h 9))))))))))
  ·refine rn (ze h e (fun _ h=>?_) (fun _ h=>wk (ss (om e (oV (zs e) (oV (zV e GChk.f1 zsR) (oT (tL ty4 e p0 a_c.bare (rn (ze h e (fun _ h=>?_) (fun _ h=>wk (ws (oV (vI e GTyp.f3 zeo y1.items) (oV (za ty79 e) (oV (vN e sl79) (oV (vI e GTyp.f4 zas y1.fields) (oV (za ty80 e) (oV (vN e sl80) (zy h fun q19 h=>oV (zX e e q19) (oV (vI e GTyp.f5 zem y1.root) (oV (za ty3 e) (zy h fun q20 h=>oV (zcZ e e q20) (an e (zE (zr (ws (oV (vI e Val.f4 zcX a_v.rule) (oV (za ty3 e) ?_))))))))))))))))))))))))))))
   ·exact ws (ar e (zz (zf (r1 e) k1 (iS h ▸ ⟨e,e⟩))))
   ·refine ws (oV (vI e Val.f1 zaT a_v.n) (oV (za ty2 e) (oV (zD e e) (om e (jO 5 58 h (fun q13 h=>?_) fun J14 h hJ14=>oI h (fun g15 h=>?_) fun g15 h=>oN g15 (oN g15 (oN g15 (oN g15 (oV (zg e g15 e) (hJ14 h 5))))))))))
    ·refine om e (jO 4 63 h (fun q16 h=>?_) fun J17 h hJ17=>oI h (fun g18 h=>?_) fun g18 h=>oN g18 (oN g18 (oN g18 (oV (zg e g18 e) (hJ17 h 4)))))
     ·exact ar e (zz (zf (r1 e) k1 (iS h ▸ ⟨e,e⟩)))
     exact oG g18 (vI e Val.f4 zcX a_v.rule) (oG g18 (za ty3 e) (oG g18 (zD e e) (oV (zh e g18 e) (hJ17 h 4))))
    exact oG g15 (vI e Val.f2 zbs a_v.b) (oG g15 (za ty22 e) (oG g15 (vN e sl22) (oG g15 (zD e e) (oV (zh e g15 e) (hJ14 h 5)))))
   refine oV (zD e e) (om e (jO 2 80 h (fun q21 h=>?_) fun J22 h hJ22=>oI h (fun g23 h=>?_) fun g23 h=>oN g23 (oV (zg e g23 e) (hJ22 h 2))))
   ·refine an e (ze h e (fun _ h=>?_) (fun _ h=>ws (oV (vI e Val.f4 zcX a_v.rule) (oV (za ty3 e) (oV (zD e e) (an e (ze h e (fun _ h=>?_) (fun _ h=>ws (oV (vI e Val.f4 zcX a_v.rule) (oV (za ty3 e) (oV (zaC e e) (om e (jO 5 119 h (fun q33 h=>?_) fun J34 h hJ34=>oI h (fun g35 h=>?_) fun g35 h=>oG g35 (vI e Val.f1 zaT a_v.n) (oG g35 (za ty2 e) (oG g35 (zo e) (oG g35 (z7 e e) (oV (zg e g35 e) (hJ34 h 5))))))))))))))))))
    ·refine ws (om e (om e (oV (vI e Val.f2 zbs a_v.b) (oV (za ty22 e) (zd h fun y24 hy24 h=>oT (tC (zeU hy24) hT (s3 e e e) k1 (om e (oV (zA e e) (oV (zA e e) (oT (zC _ ze121 fun b25=>oT (tS ty121 e e p0 y24.1 (zI (z8 10 .here e) (an e (ws (om e (om e (jO 4 94 h (fun q26 h=>?_) fun J27 h hJ27=>oI h (fun g28 h=>?_) fun g28 h=>oN g28 (oN g28 (oN g28 (oV (zg e g28 e) (hJ27 h 4))))))))))))))))))))))
     ·exact ar e (bn (zf (r1 e) k1 (iS h ▸ ⟨e,e⟩)))
     exact oG g28 (vI e Val.f1 zaT a_v.n) (oG g28 (za ty2 e) (oG g28 (zD e e) (oV (zh e g28 e) (hJ27 h 4))))
    ·refine ws (oV (vI e Val.f2 zbs a_v.b) (oV (za ty22 e) (oV (vN e sl22) (oV (zD e e) (om e (jO 6 109 h (fun q29 h=>?_) fun J30 h hJ30=>oI h (fun g31 h=>?_) fun g31 h=>oN g31 (oN g31 (oN g31 (oN g31 (oN g31 (oV (zg e g31 e) (hJ30 h 6))))))))))))
     ·exact ar e (bn (zf (r1 e) k1 (iS h ▸ ⟨e,e⟩)))
     exact oG g31 (za ty82 e) (oG g31 (vI e Val.f1 zaT a_v.n) (oG g31 (za ty2 e) (zd h fun y32 hy32 h=>oH g31 (tC (zh7 hy32) hT (s2 e e) k0 (oG g31 (z7 e e) (oV (zh e g31 e) (hJ30 h 6)))))))
    ·refine om e (jO 4 124 h (fun q36 h=>?_) fun J37 h hJ37=>oI h (fun g38 h=>?_) fun g38 h=>oG g38 (vI e Val.f1 zaT a_v.n) (oG g38 (za ty2 e) (oG g38 (zbF e e) (oV (zg e g38 e) (hJ37 h 4)))))
     ·refine an e (ze h e (fun _ h=>?_) (fun _ h=>ws (om e (an e (ze h e (fun _ h=>?_) (fun _ h=>zJ (zx (zq (ws (oV (vI e Val.f2 zbs a_v.b) (oV (za ty22 e) (oV (vN e sl22) (oV (zD e e) (ar e (zf (r1 e) k1 (iS h ▸ ⟨e,e⟩))))))))))))))))
      ·exact ws (ar e (bn (zf (r1 e) k1 (iS h ▸ ⟨e,e⟩))))
      exact ws (oV (vI e Val.f2 zbs a_v.b) (oV (za ty22 e) (zd h fun y39 hy39 h=>oT (tC (zlp hy39) hT (s1 e) k0 (ar e (bn (zf (r1 e) k1 (iS h ▸ ⟨e,e⟩))))))))
     exact oN g38 (oN g38 (oN g38 (oV (zh e g38 e) (hJ37 h 4))))
    exact oN g35 (oN g35 (oN g35 (oN g35 (oV (zh e g35 e) (hJ34 h 5)))))
   exact oG g23 (zo e) (oV (zh e g23 e) (hJ22 h 2))
  exact oN g11 (oN g11 (oN g11 (oN g11 (oN g11 (oN g11 (oN g11 (oN g11 (oV (zh e g11 e) (hJ10 h 9)))))))))
 refine oI h (fun g5 h=>?_) fun g5 h=>oG g5 (zo e) (oG g5 (zal e) (oG g5 (zo e) (jO 4 34 h (fun q6 h=>?_) fun J7 h hJ7=>oI h (fun g8 h=>?_) fun g8 h=>oN g8 (oN g8 (oN g8 (oG g5 (zg e g8 e) (hJ7 h 4)))))))
 ·exact oN g5 (oN g5 (oN g5 (oU (oU (oU (oN g5 (oV (zh e g5 e) (hJ4 h 8))))))))
 ·exact oV (zg e g5 e) (hJ4 h 5)
 exact oG g8 (vI e GTyp.f0 zbf y1.kind) (oG g8 (za ty3 e) (oG g8 (zaC e e) (oG g5 (zh e g8 e) (hJ7 h 4))))


theorem zb8 {a_v zgZ r} (h:zbJ a_v zgZ=some r):Ctr Tryz.prog 63 [isv a_v,isv zgZ] [] (Pt [isv r] []):=by
 unfold zbJ at h
 refine zi Tryz.func63 e fun w0 S0 hT=>ws (oT (tB e (an e (ws (om e (zad h fun q1 h=>oV (zn2 e e q1.1 q1.2) (oV (zaC e e) (om e (jO 4 12 h (fun q2 h=>?_) fun J3 h hJ3=>oI h (fun g4 h=>?_) fun g4 h=>oG g4 (vI e Val.f1 zaT a_v.n) (oG g4 (za ty2 e) (oG g4 (zD e e) (oV (zg e g4 e) (hJ3 h 4)))))))))))))
 ·refine om e (jO 10 23 h (fun q5 h=>?_) fun J6 h hJ6=>oI h (fun g7 h=>?_) fun g7 h=>oN g7 (oN g7 (oN g7 (oN g7 (oU (oU (oU (oU (oN g7 (oV (zg e g7 e) (hJ6 h 10)))))))))))
  ·refine om e (jO 10 34 h (fun q12 h=>?_) fun J13 h hJ13=>oI h (fun g14 h=>?_) fun g14 h=>oN g14 (oN g14 (oN g14 (oN g14 (oU (oU (oU (oU (oN g14 (oV (zg e g14 e) (hJ13 h 10)))))))))))
   ·refine om e (jO 15 50 h (fun q19 h=>?_) fun J20 h hJ20=>oI h (fun g21 h=>?_) fun g21 h=>oN g21 (oN g21 (oN g21 (oN g21 (oU (oU (oU (oU (oU (oU (oU (oU (oU (oN g21 (oV (zg e g21 e) (hJ20 h 15))))))))))))))))
    ·exact ar e (zf (r1 e) k0 (iS h ▸ ⟨e,e⟩))
    refine oG g21 (zo e) (zad h fun q22 h=>oG g21 (zn2 e e q22.1 q22.2) (oG g21 (zaC e e) (oG g21 (zo e) (jO 10 49 h (fun q23 h=>?_) fun J24 h hJ24=>oI h (fun g25 h=>?_) fun g25 h=>oG g25 (vI e Val.f4 zcX a_v.rule) (oG g25 (za ty3 e) (oG g25 (zD e e) (oG g25 (zo e) (jO 5 48 h (fun q26 h=>?_) fun J27 h hJ27=>oI h (fun g28 h=>?_) fun g28 h=>oN g28 (oN g28 (oN g28 (oN g28 (oG g25 (zg e g28 e) (hJ27 h 5)))))))))))))
    ·exact oV (zh e g21 e) (hJ20 h 6)
    ·exact oN g25 (oN g25 (oN g25 (oN g25 (oU (oU (oU (oU (oN g25 (oG g21 (zh e g25 e) (hJ24 h 10))))))))))
    ·exact oG g21 (zg e g25 e) (hJ24 h 6)
    exact oG g28 (vI e Val.f5 zdF a_v.more) (oG g28 (za ty24 e) (oG g28 (vN e sl24) (oG g28 (zD e e) (oG g25 (zh e g28 e) (hJ27 h 5)))))
   refine oG g14 (zo e) (zad h fun q15 h=>oG g14 (zn2 e e q15.1 q15.2) (oG g14 (zaC e e) (oG g14 (zo e) (jO 5 33 h (fun q16 h=>?_) fun J17 h hJ17=>oI h (fun g18 h=>?_) fun g18 h=>oG g18 (vI e Val.f3 zaL a_v.l) (oG g18 (za ty23 e) (oG g18 (vN e sl23) (oG g18 (zD e e) (oG g14 (zg e g18 e) (hJ17 h 5)))))))))
   ·exact oV (zh e g14 e) (hJ13 h 6)
   exact oN g18 (oN g18 (oN g18 (oN g18 (oG g14 (zh e g18 e) (hJ17 h 5)))))
  refine oG g7 (zo e) (zad h fun q8 h=>oG g7 (zn2 e e q8.1 q8.2) (oG g7 (zaC e e) (oG g7 (zo e) (jO 5 22 h (fun q9 h=>?_) fun J10 h hJ10=>oI h (fun g11 h=>?_) fun g11 h=>oG g11 (vI e Val.f2 zbs a_v.b) (oG g11 (za ty22 e) (oG g11 (vN e sl22) (oG g11 (zD e e) (oG g7 (zg e g11 e) (hJ10 h 5)))))))))
  ·exact oV (zh e g7 e) (hJ6 h 6)
  exact oN g11 (oN g11 (oN g11 (oN g11 (oG g7 (zh e g11 e) (hJ10 h 5)))))
 exact oN g4 (oN g4 (oN g4 (oV (zh e g4 e) (hJ3 h 4))))


theorem zge {a_c a_v r} (h:zcV a_c a_v=some r):Ctr Tryz.prog 64 [isv a_c,isv a_v] [] (Pt [isv r] []):=by
 unfold zcV at h
 refine zi Tryz.func64 e fun w0 S0 hT=>ws (oT (tB e (an e (ws (oV (vI e GCon.f0 znO a_c.has) (oV (za ty4 e) (oV (zal e) (om e (jO 21 29 h (fun q1 h=>?_) fun J2 h hJ2=>oI h (fun g3 h=>?_) fun g3 h=>oG g3 (vI e GCon.f1 zlB a_c.hasLow) (oG g3 (za ty4 e) (oG g3 (zal e) (oG g3 (zo e) (jO 5 17 h (fun q4 h=>?_) fun J5 h hJ5=>oI h (fun g6 h=>?_) fun g6 h=>oG g6 (zo e) (oG g6 (vI e GCon.f4 zkB a_c.low) (oG g6 (za ty2 e) (oG g6 (zbF e e) (oG g3 (zg e g6 e) (hJ5 h 5))))))))))))))))))
 ·exact ar e (zf (r1 e) k0 (iS h ▸ ⟨e,e⟩))
 ·exact oN g3 (oN g3 (oN g3 (oN g3 (oU (oU (oU (oU (oN g3 (oN g3 (oU (oU (oU (oU (oU (oU (oU (oU (oU (oN g3 (oV (zh e g3 e) (hJ2 h 21)))))))))))))))))))))
 ·refine oG g3 (zo e) (jO 10 28 h (fun q7 h=>?_) fun J8 h hJ8=>oI h (fun g9 h=>?_) fun g9 h=>oN g9 (oN g9 (oN g9 (oN g9 (oU (oU (oU (oU (oN g9 (oG g3 (zg e g9 e) (hJ8 h 10)))))))))))
  ·exact oV (zg e g3 e) (hJ2 h 8)
  refine oG g9 (vI e GCon.f2 zls a_c.hasHigh) (oG g9 (za ty4 e) (oG g9 (zal e) (oG g9 (zo e) (jO 5 27 h (fun q10 h=>?_) fun J11 h hJ11=>oI h (fun g12 h=>?_) fun g12 h=>oG g12 (zo e) (oG g12 (vI e GCon.f5 zkr a_c.high) (oG g12 (za ty2 e) (oG g12 (zjo e e) (oG g9 (zg e g12 e) (hJ11 h 5)))))))))
  ·exact oG g3 (zh e g9 e) (hJ8 h 6)
  exact oN g12 (oN g12 (oN g12 (oN g12 (oG g9 (zh e g12 e) (hJ11 h 5)))))
 exact oN g6 (oN g6 (oN g6 (oN g6 (oG g3 (zh e g6 e) (hJ5 h 5)))))


theorem zil {a_c a_x a_v zbD r} (h:zcM a_c a_x a_v=some r):Ctr Tryz.prog 65 [ptrv zbD (Fld.id GChk),isv a_x,isv a_v] [boxE zbD (a_c:GChk)] (Pt [isv r.1] [boxE zbD (r.2)]):=by
 unfold zcM at h
 refine zi Tryz.func65 e fun w0 S0 hT=>ws (oT (tB e (oT (tB e (an e (ws (oV (za ty26 e) (zd h fun y1 hy1 h=>oT (tC (zb8 hy1) hT (s2 e e) k0 (om e (jO 5 14 h (fun q2 h=>?_) fun J3 h hJ3=>oI h (fun g4 h=>?_) fun g4 h=>oN g4 (oN g4 (oN g4 (oN g4 (oV (zg e g4 e) (hJ3 h 5))))))))))))))))
 ·refine om e (jO 12 27 h (fun q5 h=>?_) fun J6 h hJ6=>oI h (fun g7 h=>?_) fun g7 h=>oN g7 (oN g7 (oN g7 (oN g7 (oU (oU (oU (oU (oU (oU (oN g7 (oV (zg e g7 e) (hJ6 h 12)))))))))))))
  ·refine om e (jO 9 37 h (fun q12 h=>?_) fun J13 h hJ13=>oI h (fun g14 h=>?_) fun g14 h=>oN g14 (oN g14 (oN g14 (oN g14 (oU (oU (oU (oN g14 (oV (zg e g14 e) (hJ13 h 9))))))))))
   ·exact ar e (zf (r1 e) k1 (iS h ▸ ⟨e,e⟩))
   refine oG g14 (vI e GTyp.f0 zbf a_x.kind) (oG g14 (za ty3 e) (oG g14 (zD e e) (oG g14 (zo e) (jO 4 36 h (fun q15 h=>?_) fun J16 h hJ16=>oI h (fun g17 h=>?_) fun g17 h=>oG g17 (vI e Val.f2 zbs a_v.b) (oG g17 (za ty22 e) (zd h fun y18 hy18 h=>oH g17 (tC (zio hy18) hT (s1 e) k0 (oG g14 (zg e g17 e) (hJ16 h 4)))))))))
   ·exact oV (zh e g14 e) (hJ13 h 6)
   exact oN g17 (oN g17 (oN g17 (oG g14 (zh e g17 e) (hJ16 h 4))))
  refine oG g7 (vI e GTyp.f2 zdZ a_x.con) (oG g7 (vI e GCon.f3 zkp a_x.con.more) (oG g7 (za ty4 e) (oG g7 (zo e) (jO 7 26 h (fun q8 h=>?_) fun J9 h hJ9=>oI h (fun g10 h=>?_) fun g10 h=>oG g10 (vI e GTyp.f2 zdZ a_x.con) (oG g10 (za ty78 e) (oG g10 (vI e Val.f2 zbs a_v.b) (oG g10 (za ty22 e) (oG g10 (vN e sl22) (zd h fun y11 hy11 h=>oH g10 (tC (zge hy11) hT (s2 e e) k0 (oG g7 (zg e g10 e) (hJ9 h 7))))))))))))
  ·exact oV (zh e g7 e) (hJ6 h 6)
  exact oN g10 (oN g10 (oN g10 (oN g10 (oN g10 (oN g10 (oG g7 (zh e g10 e) (hJ9 h 7)))))))
 exact oG g4 (vI e Val.f2 zbs a_v.b) (oG g4 (za ty22 e) (oG g4 (vN e sl22) (oG g4 (zjo e e) (oV (zh e g4 e) (hJ3 h 5)))))

end Go.Proofs.Q


namespace Go.Proofs.Q
open Go.Sy
set_option maxRecDepth 4000
theorem znl {a_t a_i r} (h:zf2 a_t a_i=some r):Ctr Tryz.prog 147 [isv a_t,isv a_i] [] (Pt [isv r] []):=by
 unfold zf2 at h
 refine zi Tryz.func147 e fun w0 S0 hT=>ws (oT (tB e (oT (zC _ ze82 fun b1=>rn (ss (om e (oV (z7 e e) (om e (jO 6 13 h (fun q2 h=>?_) fun J3 h hJ3=>oI h (fun g4 h=>?_) fun g4 h=>oG g4 (zo e) (oG g4 (vI e GTab.f3 zbb a_t.types) (oG g4 (za ty29 e) (oG g4 (vN e sl29) (oG g4 (zbF e e) (oV (zg e g4 e) (hJ3 h 6)))))))))))))))
 ·refine rn (ze h e (fun _ h=>?_) (fun _ h=>wk (ws (oV (vI e GTab.f3 zbb a_t.types) (oV (za ty29 e) (om e (zd h fun y5 hy5 h=>oV (vX e e sl29 hy5) (oV (za ty82 e) (oT (tS ty82 e e p0 y5 (rn (zaQ (zf (.cell e .here ty82 .nil) k0 (iS h ▸ ⟨e,e⟩))))))))))))))
  exact ws (oV (zaa (z:=(GTyp.mk (0:Int) ([]:(List Tag)) (GCon.mk false false false false (0:Int) (0:Int)) ([]:(List GItem)) ([]:(List GFld)) (0:Int) false (0:Int))) e bu82 ze82 .nil) (oT (tS ty82 e e p0 ⟨0,[],⟨false,false,false,false,0,0⟩,[],[],0,false,0⟩ (rn (zaQ (zz (zf (.cell e .here ty82 .nil) k0 (iS h ▸ ⟨e,e⟩))))))))
 exact oN g4 (oN g4 (oN g4 (oN g4 (oN g4 (oV (zh e g4 e) (hJ3 h 6))))))


theorem zmr {zgp a_to r} (h:zfl zgp a_to=some r):Ctr Tryz.prog 148 [isv zgp,isv a_to] [] (Pt1 (fun u1=>[vecv u1 ((r).length)]) fun u1=>[vecE u1 r]):=by
 unfold zfl at h
 refine zi Tryz.func148 e fun w0 S0 hT=>ws (oa e (zI (zee (α:=Int)) (zI (zaA 4 e nilvV) (rn (ws (oa e (zI (zee (α:=Int)) (zI (zaA 5 e nilvV) (rn (ss (om e (an e (zr (lP h Vt none (fun q3 g3=>[(5,vecv g3 (q3.1.length)),(6,isv q3.2)]) (fun q3 g3=>[vecE g3 q3.1]) (zB (j:=5) e (vecvE (by first | rfl | simp)) (zB (j:=6) e hI zan)) k1 fun L4 q3 g3 Q13 h hL4 eL4 rL4=>ss (om e (om e (oV (z7 e e) (rn (ze h e (fun _ h=>?_) (fun _ h=>xn (eL4 _ _ (zw (zq (ws (om e (ar e (zf (.as e (vecvE (by first | rfl | simp)) .nil) k1 ?_)))))))))))))))))))))))))))
 ·exact wk (zE (zr (zm (om e (om e (oT (zN (l:=([q3.2]:(List Int))) el28 (.cons e hI .nil) e e (zag h fun q11 h=>oT (zjA (m:=([q3.2]:(List Int))) zeA e e zG .here (by first | rfl | simp) q11 fun v10=>oa e (rb (zq (zm (om e (zy h fun q12 h=>oV (zX e e q12) (oa e (zK (hL4 h v10 13)))))))))))))))))
 exact iS h ▸ ⟨g3,e,e⟩


theorem zj2 {a_t a_i r} (h:zeY a_t a_i=some r):Ctr Tryz.prog 133 [isv a_t,isv a_i] [] (Pt [isv r] []):=by
 unfold zeY at h
 refine zi Tryz.func133 e fun w0 S0 hT=>ws (oT (tB e (oa e (zI (zau) (zI (zee (α:=NL Int)) (zI (zaA 4 e nilvV) (rn (ws (oV (za ty31 e) (om e (zd h fun y3 hy3 h=>oT (tC (znl hy3) hT (s2 e e) k0 (oT (zC _ ze82 fun b4=>oT (tS ty82 e e p0 y3 (zI (z8 5 .here e) (rn (ss (oV (vI e GTyp.f0 zbf y3.kind) (oV (za ty3 e) (oV (zaC e e) (om e (jO 4 21 h (fun q5 h=>?_) fun J6 h hJ6=>oI h (fun g7 h=>?_) fun g7 h=>oN g7 (oN g7 (oN g7 (oV (zg e g7 e) (hJ6 h 4)))))))))))))))))))))))))))
 ·refine om e (jO 4 26 h (fun q8 h=>?_) fun J9 h hJ9=>oI h (fun g10 h=>?_) fun g10 h=>oN g10 (oN g10 (oN g10 (oV (zg e g10 e) (hJ9 h 4)))))
  ·refine rn (ze h e (fun _ h=>?_) (fun _ h=>wk (ws (oa e (zI (zau) (zI (zee (α:=NL Int)) (zI (zaA 6 e nilvV) (rn (ss (oV (vI e GTyp.f5 zem y3.root) (oV (za ty3 e) (oV (zur e e) (oV (vI e GTyp.f4 zas y3.fields) (oV (za ty80 e) (oV (vN e sl80) (zd h fun y15 hy15 h=>oT (tC1 (zmr hy15) hT (s2 e e) k0 (fun v16=>oV (zjm sl28 e) (om e (rn (zr (lP h (Vt × Tok) (none,none) (fun q17 g17=>[(6,vecv g17.1 (q17.1.length)),(35,isv q17.2)]) (fun q17 g17=>[vecE g17.1 (nestL g17.2 (q17.1:List (List Int))),tokE g17.2]) (zB (j:=6) e (vecvE (by first | rfl | simp)) (zB (j:=35) e hI zan)) (a1 (a1 k0)) fun L18 q17 g17 Q79 h hL18 eL18 rL18=>ws (oV (z7 e e) (rn (zE (ze h e (fun _ h=>?_) (fun _ h=>xn (eL18 _ _ ?_))))))))))))))))))))))))))))
   ·exact ws (oa e (zI (zau) (zI (zee (α:=NL Int)) (zI (zaA 4 e nilvV) (rn (zaQ (zz (zfP (zhG 4 .here e (by first | rfl | simp)) (zfP (zaA 4 e (ziZ (t:=none) (L:=(([]:(List (List Int))):List (List Int))))) (zf (r1 e) k0 (iS h ▸ ⟨e,e⟩)))))))))))
   ·refine wk (zE (jw h (Vt × Tok) (fun q49 g49=>[(6,vecv g49.1 (q49.length))]) (fun q49 g49=>[vecE g49.1 (nestL g49.2 (q49:List (List Int))),tokE g49.2]) k2 (fun q49 g49 h=>?_) fun J50 h hJ50=>zr (ws (zad h fun q51 h=>oV (zco (α:=Int) sl28 e e q51.1 q51.2) (zd h fun y52 hy52 h=>oT (zc1 ty3 e (.there (.there .here)) hy52 (an e (ws (om e (oV (zjm sl125 e) (zy h fun q53 h=>oV (zcZ e e q53) (an e (ss (oV (vI e GTyp.f4 zas y3.fields) (oV (za ty80 e) (om e (zd h fun y54 hy54 h=>oV (vX e e sl80 hy54) (oV (vI e GFld.f5 zgf y54.group) (oV (za ty3 e) (an e (ws (oV (vI e GTyp.f0 zbf y3.kind) (oV (za ty3 e) (oV (zaC e e) (om e ?_)))))))))))))))))))))))))
    ·exact zm (zy h fun q78 h=>oV (zX e e q78) (om e (zK (hL18 h (g49.1,g49.2) 6))))
    refine jO 3 54 h (fun q55 h=>?_) fun J56 h hJ56=>oI h (fun g57 h=>?_) fun g57 h=>oN g57 (oN g57 (oV (zg e g57 e) (hJ56 h 3)))
    ·refine om e (jO 3 58 h (fun q58 h=>?_) fun J59 h hJ59=>oI h (fun g60 h=>?_) fun g60 h=>oN g60 (oN g60 (oV (zg e g60 e) (hJ59 h 3))))
     ·refine om e (jO 10 69 h (fun q61 h=>?_) fun J62 h hJ62=>oI h (fun g63 h=>?_) fun g63 h=>oN g63 (oN g63 (oN g63 (oN g63 (oN g63 (oN g63 (oN g63 (oN g63 (oN g63 (oV (zg e g63 e) (hJ62 h 10)))))))))))
      ·refine rn (ze h e (fun _ h=>?_) (fun _ h=>wk (zm (om e (om e (oT (zN (l:=([y52]:(List Int))) el28 (.cons e hI .nil) e e (zI (zau) (oT (zN (l:=[NL.mk (([y52]:(List Int))) (some none)]) el125 (.cons e zoB .nil) e e (zag h fun q77 h=>oT (zjA (m:=[NL.mk (([y52]:(List Int))) (some none)]) zlq e e zG (.there .here) (by first | rfl | simp) (by rw [zd7];exact q77) fun v76=>zI (zpx .here) (zI (zaA (R':=vecv v76 (q17.1 ++ [([y52]:(List Int))]).length) 84 e (vecvE (by simp))) (oa e (rb (hJ50 h (v76,none) 30))))))))))))))))
       exact ws (om e (om e (om e (om e (zad h fun q66 h=>oV (zco (α:=NL Int) sl125 e e q66.1 q66.2) (zad h fun q67 h=>zd h fun y68 hy68 h=>oT (zc1 ty28 e .here (zgS q67 hy68) (zI (zaA 75 e zto) (om e (oT (zN (l:=([y52]:(List Int))) el28 (.cons e hI .nil) e e (zag h fun q71 h=>oT (za7 (l:=y68) (m:=([y52]:(List Int))) zeA e hI e zG (.there .here) q71 fun t70=>zad h fun q72 h=>oV (zco (α:=NL Int) sl125 e e q72.1 q72.2) (zad h fun q73 h=>zd h fun y74 hy74 h=>zI (zaA 78 e zoB) (oT (zfc ty28 e e (.there .here) (zgS q73 hy74) (zI (zoQ .here (zlJ q73)) (zI (zaA (R':=vecv g17.1 (q17.1.set ((((q17.1.length:Nat):Int) - (1:Int)).toNat) (y68 ++ ([y52]:(List Int)))).length) 6 e (vecvE (by simp))) (zI (zaA (R':=vecv g17.1 (q17.1.set ((((q17.1.length:Nat):Int) - (1:Int)).toNat) (y68 ++ ([y52]:(List Int)))).length) 39 e (vecvE (by simp))) (zI (zaA (R':=vecv g17.1 (q17.1.set ((((q17.1.length:Nat):Int) - (1:Int)).toNat) (y68 ++ ([y52]:(List Int)))).length) 70 e (vecvE (by simp))) (zI (zaA (R':=vecv g17.1 (q17.1.set ((((q17.1.length:Nat):Int) - (1:Int)).toNat) (y68 ++ ([y52]:(List Int)))).length) 72 e (vecvE (by simp))) (rn (xn (zw (hJ50 h (g17.1,t70) 39)))))))))))))))))))))))))
      exact oG g63 (vI e GTyp.f4 zas y3.fields) (oG g63 (za ty80 e) (oG g63 (zo e) (zy h fun q64 h=>oG g63 (zcZ e e q64) (zd h fun y65 hy65 h=>oG g63 (vX e e sl80 hy65) (oG g63 (vI e GFld.f5 zgf y65.group) (oG g63 (za ty3 e) (oG g63 (zo e) (oG g63 (zD e e) (oV (zh e g63 e) (hJ62 h 10))))))))))
     exact oG g60 (zo e) (oG g60 (zbF e e) (oV (zh e g60 e) (hJ59 h 3)))
    exact oG g57 (zo e) (oG g57 (zbc e e) (oV (zh e g57 e) (hJ56 h 3)))
   exact zw (zq (ws (om e (ar e (zfP (zhG 4 .here e (by first | rfl | simp)) (zfP (zaA 4 e (ziZ (t:=g17.2) (L:=(q17.1:List (List Int))))) (zf (r1 e) k0 (iS h ▸ ⟨e,e⟩))))))))
  exact oG g10 (vI e GTyp.f0 zbf y3.kind) (oG g10 (za ty3 e) (oG g10 (zaC e e) (oV (zh e g10 e) (hJ9 h 4))))
 exact oG g7 (vI e GTyp.f0 zbf y3.kind) (oG g7 (za ty3 e) (oG g7 (zaC e e) (oV (zh e g7 e) (hJ6 h 4))))


theorem zpg {a_a a_b r} (h:zlG a_a a_b=some r):Ctr Tryz.prog 134 [isv a_a,isv a_b] [] (Pt [isv r] []):=by
 unfold zlG at h
 refine zi Tryz.func134 e fun w0 S0 hT=>ws (oT (tB e (oT (tB e (an e (ss (oV (vI e Tag.f0 zff a_a.cls) (oV (za ty3 e) (oV (vI e Tag.f0 zff a_b.cls) (oV (za ty3 e) (oV (zaC e e) (rn (ze h e (fun _ h=>?_) (fun _ h=>wk (ws (oV (vI e Tag.f1 zcS a_a.num) (oV (za ty3 e) (oV (vI e Tag.f1 zcS a_b.num) (oV (za ty3 e) (oV (z7 e e) (ar e (zf (r1 e) k0 (iS h ▸ ⟨e,e⟩)))))))))))))))))))))))
 exact ws (oV (vI e Tag.f0 zff a_a.cls) (oV (za ty3 e) (oV (vI e Tag.f0 zff a_b.cls) (oV (za ty3 e) (oV (z7 e e) (ar e (zz (zf (r1 e) k0 (iS h ▸ ⟨e,e⟩)))))))))


theorem zjh {a_c a_i a_v zbD r} (h:zdo a_c a_i a_v=some r):Ctr Tryz.prog 99 [ptrv zbD (Fld.id GChk),isv a_i,isv a_v] [boxE zbD (a_c:GChk)] (Pt [isv r.1] [boxE zbD (r.2)]):=by
 unfold zdo at h
 refine zi Tryz.func99 e fun w0 S0 hT=>ws (oT (tB e (an e (ws (om e (oV (zs e) (oV (zV e GChk.f0 zgN) (oV (zV e GTbd.f0 zgH) (oV (zV e GTab.f3 zbb) (oT (tL ty29 e p0 a_c.tabled.t.types (om e (zd h fun y1 hy1 h=>oV (vX e e sl29 hy1) (oV (za ty82 e) (oT (zC _ ze82 fun b2=>oT (tS ty82 e e p0 y1 (zI (z8 7 .here e) (rn (ss (oV (vI e Val.f5 zdF a_v.more) (oV (za ty24 e) (oV (vN e sl24) (oV (zD e e) (rn (ze h e (fun _ h=>?_) (fun _ h=>wk (ss (oV (vI e GTyp.f6 zfk y1.more) (oV (za ty4 e) ?_))))))))))))))))))))))))))))))
 ·exact ws (oV (vI e Val.f4 zcX a_v.rule) (oV (za ty3 e) (oV (zD e e) (ar e (zz (zf (r1 e) k1 (iS h ▸ ⟨e,e⟩)))))))
 refine oV (zal e) (om e (jO 9 42 h (fun q3 h=>?_) fun J4 h hJ4=>oI h (fun g5 h=>?_) fun g5 h=>oG g5 (vI e Val.f4 zcX a_v.rule) (oG g5 (za ty3 e) (oG g5 (zaC e e) (oG g5 (zo e) (jO 4 41 h (fun q6 h=>?_) fun J7 h hJ7=>oI h (fun g8 h=>?_) fun g8 h=>oN g8 (oN g8 (oN g8 (oG g5 (zg e g8 e) (hJ7 h 4))))))))))
 ·refine rn (ze h e (fun _ h=>?_) (fun _ h=>wk (ws (om e (oV (zs e) (oV (zV e GChk.f0 zgN) (oV (zV e GTbd.f0 zgH) (oT (tL ty31 e p0 a_c.tabled.t (om e (zd h fun y9 hy9 h=>oT (tC (zj2 hy9) hT (s2 e e) k0 (oV (vN e sl125) (an e (ws (oT (zC _ ze121 fun b10=>rn (ss (oV (vI e Val.f5 zdF a_v.more) (oV (za ty24 e) (oV (vN e sl24) (om e (rn (zr (lP h Unit () (fun q11 g11=>[(8,isv q11.1),(54,isv q11.2.1)]) (fun q11 g11=>[boxE b10 (q11.2.2.1:Tag),boxE zbD (q11.2.2.2:GChk)]) (zB (j:=8) e hI (zB (j:=54) e hI zan)) k2 fun L12 q11 g11 Q69 h hL12 eL12 rL12=>ws (oV (z7 e e) (rn (zE (ze h e (fun _ h=>?_) (fun _ h=>?_))))))))))))))))))))))))))))))
  ·exact ws (ar e (zz (zf (r1 e) k1 (iS h ▸ ⟨e,e⟩))))
  ·refine wk (zE (jw h Unit (fun q41 g41=>[(8,isv q41.1)]) (fun q41 g41=>[boxE b10 (q41.2.1:Tag),boxE zbD (q41.2.2:GChk)]) k2 (fun q41 g41 h=>?_) fun J42 h hJ42=>zr (ws (om e (zd h fun y43 hy43 h=>oV (vX e e sl24 hy43) (oV (za ty66 e) (oT (zC _ ze66 fun b44=>oa e (oT (tS ty66 e e p0 y43 (zI (z8 11 .here e) (rn (ss (oV (vI e Val.f4 zcX a_v.rule) (oV (za ty3 e) (oV (zD e e) (rn (ze h e (fun _ h=>?_) (fun _ h=>wk (ws (om e (om e (oV (vI e Raw.f1 zh3 y43.b) (oV (za ty22 e) (zd h fun y53 hy53 h=>oT (tC (zeU hy53) hT (s3 e e e) (a1 k0) (om e (oV (zA e e) ?_))))))))))))))))))))))))))))
   ·exact zm (zy h fun q68 h=>oV (zX e e q68) (om e (zK (hL12 h () 6))))
   ·refine ss (oV (vI e Raw.f0 zgg y43.n) (oV (za ty3 e) (om e (oV (z7 e e) (om e (jO 4 70 h (fun q45 h=>?_) fun J46 h hJ46=>oI h (fun g47 h=>?_) fun g47 h=>oG g47 (vI e Raw.f0 zgg y43.n) (oG g47 (za ty3 e) (oG g47 (zbF e e) (oV (zg e g47 e) (hJ46 h 4))))))))))
    ·refine om e (jO 5 76 h (fun q48 h=>?_) fun J49 h hJ49=>oI h (fun g50 h=>?_) fun g50 h=>oG g50 (vI e Raw.f1 zh3 y43.b) (oG g50 (za ty22 e) (zd h fun y51 hy51 h=>oH g50 (tC (zlp hy51) hT (s1 e) k0 (oG g50 (zal e) (oV (zg e g50 e) (hJ49 h 5)))))))
     ·refine rn (ze h e (fun _ h=>?_) (fun _ h=>wk (ws (oV (vI e Raw.f0 zgg y43.n) (oV (za ty3 e) (zy h fun q52 h=>oV (zX e e q52) (an e (xn (zw (hJ42 h () 21))))))))))
      exact ws (ar e (zz (zz (bn (rL12 _ (bn (zf (r1 e) (a1 k0) (iS h ▸ ⟨e,e⟩))))))))
     exact oN g50 (oN g50 (oN g50 (oN g50 (oV (zh e g50 e) (hJ49 h 5)))))
    exact oN g47 (oN g47 (oN g47 (oV (zh e g47 e) (hJ46 h 4))))
   refine oV (zA e e) (oT (zC _ ze121 fun b54=>oT (tS ty121 e e p0 y53.1 (zI (z8 12 .here e) (an e (ss (om e (oV (zal e) (om e (jO 4 94 h (fun q55 h=>?_) fun J56 h hJ56=>oI h (fun g57 h=>?_) fun g57 h=>oG g57 (vI e Raw.f0 zgg y43.n) (oG g57 (za ty3 e) (oG g57 (zaC e e) (oV (zg e g57 e) (hJ56 h 4))))))))))))))
   ·refine om e (jO 14 109 h (fun q58 h=>?_) fun J59 h hJ59=>oI h (fun g60 h=>?_) fun g60 h=>oG g60 (vI e GTyp.f0 zbf y1.kind) (oG g60 (za ty3 e) (oG g60 (zD e e) (oG g60 (zo e) (jO 3 102 h (fun q61 h=>?_) fun J62 h hJ62=>oI h (fun g63 h=>?_) fun g63 h=>oN g63 (oN g63 (oG g60 (zg e g63 e) (hJ62 h 3))))))))
    ·refine rn (ze h e (fun _ h=>?_) (fun _ h=>wk (zm (oV (za ty121 e) (oT (tS ty121 e e p1 y53.1 (rb (hJ42 h () 27))))))))
     exact ws (ar e (zz (bn (rL12 _ (bn (zf (r1 e) k1 (iS h ▸ ⟨e,e⟩)))))))
    ·exact oN g60 (oN g60 (oN g60 (oN g60 (oU (oU (oN g60 (oN g60 (oU (oU (oU (oU (oN g60 (oV (zh e g60 e) (hJ59 h 14))))))))))))))
    ·refine oG g60 (zo e) (jO 5 108 h (fun q64 h=>?_) fun J65 h hJ65=>oI h (fun g66 h=>?_) fun g66 h=>oN g66 (oN g66 (oN g66 (oN g66 (oG g60 (zg e g66 e) (hJ65 h 5))))))
     ·exact oV (zg e g60 e) (hJ59 h 8)
     exact oH g66 (tL ty121 e p1 q11.2.2.1 (oG g66 (za ty121 e) (zd h fun y67 hy67 h=>oH g66 (tC (zpg hy67) hT (s2 e e) k0 (oG g66 (zal e) (oG g60 (zh e g66 e) (hJ65 h 5)))))))
    exact oG g63 (zo e) (oG g63 (zbc e e) (oG g60 (zh e g63 e) (hJ62 h 3)))
   exact oN g57 (oN g57 (oN g57 (oV (zh e g57 e) (hJ56 h 4))))
  exact xn (eL12 _ _ (zw (zq (ws (ar e (zf (r1 e) (a1 k0) (iS h ▸ ⟨e,e⟩)))))))
 ·exact oN g5 (oN g5 (oN g5 (oN g5 (oU (oU (oU (oN g5 (oV (zh e g5 e) (hJ4 h 9)))))))))
 ·exact oV (zg e g5 e) (hJ4 h 6)
 exact oG g8 (vI e Val.f4 zcX a_v.rule) (oG g8 (za ty3 e) (oG g8 (zaC e e) (oG g5 (zh e g8 e) (hJ7 h 4))))


theorem zg1 {a_v r} (h:zdp a_v=some r):Ctr Tryz.prog 70 [isv a_v] [] (Pt [isv r] []):=by
 unfold zdp at h
 refine zi Tryz.func70 e fun w0 S0 hT=>ws (oT (tB e (an e (ws (oV (vI e Val.f0 zbu a_v.kind) (oV (za ty3 e) (oV (zD e e) (om e (jO 3 9 h (fun q1 h=>?_) fun J2 h hJ2=>oI h (fun g3 h=>?_) fun g3 h=>oN g3 (oN g3 (oV (zg e g3 e) (hJ2 h 3))))))))))))
 ·exact ar e (zf (r1 e) k0 (iS h ▸ ⟨e,e⟩))
 exact oG g3 (za ty26 e) (zd h fun y4 hy4 h=>oH g3 (tC (zb8 hy4) hT (s2 e e) k0 (oV (zh e g3 e) (hJ2 h 3))))


theorem zj5 {a_a a_b r} (h:zhg a_a a_b=some r):Ctr Tryz.prog 37 [isv a_a,isv a_b] [] (Pt [isv r] []):=by
 unfold zhg at h
 exact zi Tryz.func37 e fun w0 S0 hT=>ws (an e (ws (om e (oV (zsi (l:=a_a) Tryz.underlying22 Tryz.underlying5 Tryz.underlying9 e hI) (om e (oV (zsi (l:=a_b) Tryz.underlying22 Tryz.underlying5 Tryz.underlying9 e hI) (oV (zb6 eq9 e e) (ar e (zf (r1 e) k0 (iS h ▸ ⟨e,e⟩))))))))))


theorem zl8 {a_a a_b r} (h:zet a_a a_b=some r):Ctr Tryz.prog 40 [isv a_a,isv a_b] [] (Pt [isv r] []):=by
 unfold zet at h
 refine zi Tryz.func40 e fun w0 S0 hT=>ws (oT (tB e (oT (tB e (an e (ws (oV (vI e Raw.f0 zgg a_a.n) (oV (za ty3 e) (oV (vI e Raw.f0 zgg a_b.n) (oV (za ty3 e) (oV (zD e e) (om e (jO 6 16 h (fun q1 h=>?_) fun J2 h hJ2=>oI h (fun g3 h=>?_) fun g3 h=>oN g3 (oN g3 (oN g3 (oN g3 (oN g3 (oV (zg e g3 e) (hJ2 h 6)))))))))))))))))))
 ·exact ar e (zf (r1 e) k0 (iS h ▸ ⟨e,e⟩))
 exact oG g3 (vI e Raw.f1 zh3 a_a.b) (oG g3 (za ty22 e) (oG g3 (vI e Raw.f1 zh3 a_b.b) (oG g3 (za ty22 e) (zd h fun y4 hy4 h=>oH g3 (tC (zj5 hy4) hT (s2 e e) k0 (oV (zh e g3 e) (hJ2 h 6)))))))


theorem zcr {a_s1 a_s2 r} (h:zaw a_s1 a_s2=some r):Ctr Tryz.prog 39 [isv a_s1,isv a_s2,clov 40 []] [] (Pt [isv r] []):=by
 unfold zaw at h
 refine zi Tryz.func39 e fun w0 S0 hT=>ws (an e (ss (om e (oV (vN e sl24) (om e (oV (vN e sl24) (oV (zaC e e) (rn (ze h e (fun _ h=>?_) (fun _ h=>wk (ss (om e (oV (vN e sl24) (om e (rn (zr (lO 17 h e fun L2 q1 Q15 h hL2 eL2 rL2=>ws (oV (z7 e e) (rn (zE (ze h e (fun _ h=>?_) (fun _ h=>xn (eL2 _ _ (zw (zq (ws (ar e ?_)))))))))))))))))))))))))))
 ·exact ws (ar e (zz (zf (r1 e) k0 (iS h ▸ ⟨e,e⟩))))
 ·refine wk (zE (zr (ws (om e (zd h fun y9 hy9 h=>oV (vX e e sl24 hy9) (oV (za ty66 e) (oT (zC _ ze66 fun b10=>oa e (oT (tS ty66 e e p0 y9 (zI (z8 8 .here e) (rn (ws (om e (om e (zd h fun y11 hy11 h=>oV (vX e e sl24 hy11) (oV (za ty66 e) (oT (zC _ ze66 fun b12=>oT (tS ty66 e e p0 y11 (zI (z8 9 .here e) (rn (ws (om e (oV (za ty66 e) (oV (za ty66 e) (zd h fun y13 hy13 h=>oT (zfT e (.same e (.same e .nil)) (zl8 hy13) hT .nil (fun R H' hR=>?_)))))))))))))))))))))))))))))
  obtain ⟨rfl,rfl⟩:=hR
  refine oV (zal e) (rn (ze h e (fun _ h=>?_) (fun _ h=>zJ (zx (zq (zm (zy h fun q14 h=>oV (zX e e q14) (om e (zK (hL2 h 21))))))))))
  exact ws (ar e (bn (rL2 _ (bn (zf (r1 e) k0 (iS h ▸ ⟨e,e⟩))))))
 exact zf (r1 e) k0 (iS h ▸ ⟨e,e⟩)


def zfr (f':Val→Val→Option (Bool)):Prop :=
 ∀ {a_a a_b r},f' a_a a_b=some r→Ctr Tryz.prog 19 [isv a_a,isv a_b] [] (Pt [isv r] [])
def zao (f':(List Val)→(List Val)→Option (Bool)):Prop :=
 ∀ {a_s1 a_s2 r},f' a_s1 a_s2=some r→Ctr Tryz.prog 38 [isv a_s1,isv a_s2,clov 19 []] [] (Pt [isv r] [])
theorem zng {zdk zM} (zk3:zfr zdk) (za0:zao zM):zfr (ze5 zdk zM):=by
 intro a_a a_b r h
 unfold ze5 at h
 refine zi Tryz.func19 e fun w0 S0 hT=>ws (oT (tB e (oT (tB e (an e (ws (oV (vI e Val.f0 zbu a_a.kind) (oV (za ty3 e) (oV (vI e Val.f0 zbu a_b.kind) (oV (za ty3 e) (oV (zD e e) (om e (jO 6 16 h (fun q1 h=>?_) fun J2 h hJ2=>oI h (fun g3 h=>?_) fun g3 h=>oN g3 (oN g3 (oN g3 (oN g3 (oN g3 (oV (zg e g3 e) (hJ2 h 6)))))))))))))))))))
 ·refine om e (jO 6 23 h (fun q4 h=>?_) fun J5 h hJ5=>oI h (fun g6 h=>?_) fun g6 h=>oN g6 (oN g6 (oN g6 (oN g6 (oN g6 (oV (zg e g6 e) (hJ5 h 6)))))))
  ·refine om e (jO 6 30 h (fun q8 h=>?_) fun J9 h hJ9=>oI h (fun g10 h=>?_) fun g10 h=>oN g10 (oN g10 (oN g10 (oN g10 (oN g10 (oV (zg e g10 e) (hJ9 h 6)))))))
   ·refine om e (jO 6 37 h (fun q12 h=>?_) fun J13 h hJ13=>oI h (fun g14 h=>?_) fun g14 h=>oN g14 (oN g14 (oN g14 (oN g14 (oN g14 (oV (zg e g14 e) (hJ13 h 6)))))))
    ·refine om e (jO 6 44 h (fun q15 h=>?_) fun J16 h hJ16=>oI h (fun g17 h=>?_) fun g17 h=>oN g17 (oN g17 (oN g17 (oN g17 (oN g17 (oV (zg e g17 e) (hJ16 h 6)))))))
     ·exact ar e (zf (r1 e) k0 (iS h ▸ ⟨e,e⟩))
     exact oG g17 (vI e Val.f5 zdF a_a.more) (oG g17 (za ty24 e) (oG g17 (vI e Val.f5 zdF a_b.more) (oG g17 (za ty24 e) (zd h fun y18 hy18 h=>oH g17 (tC (zcr hy18) hT (s3 e e e) k0 (oV (zh e g17 e) (hJ16 h 6)))))))
    exact oG g14 (vI e Val.f4 zcX a_a.rule) (oG g14 (za ty3 e) (oG g14 (vI e Val.f4 zcX a_b.rule) (oG g14 (za ty3 e) (oG g14 (zD e e) (oV (zh e g14 e) (hJ13 h 6))))))
   exact oG g10 (vI e Val.f3 zaL a_a.l) (oG g10 (za ty23 e) (oG g10 (vI e Val.f3 zaL a_b.l) (oG g10 (za ty23 e) (zd h fun y11 hy11 h=>oH g10 (tC (za0 hy11) hT (s3 e e e) k0 (oV (zh e g10 e) (hJ9 h 6)))))))
  exact oG g6 (vI e Val.f2 zbs a_a.b) (oG g6 (za ty22 e) (oG g6 (vI e Val.f2 zbs a_b.b) (oG g6 (za ty22 e) (zd h fun y7 hy7 h=>oH g6 (tC (zj5 hy7) hT (s2 e e) k0 (oV (zh e g6 e) (hJ5 h 6)))))))
 exact oG g3 (vI e Val.f1 zaT a_a.n) (oG g3 (za ty2 e) (oG g3 (vI e Val.f1 zaT a_b.n) (oG g3 (za ty2 e) (oG g3 (zD e e) (oV (zh e g3 e) (hJ2 h 6))))))

theorem zbX {zdk zM} (zk3:zfr zdk) (za0:zao zM):zao (zae zdk zM):=by
 intro a_s1 a_s2 r h
 unfold zae at h
 refine zi Tryz.func38 e fun w0 S0 hT=>ws (an e (ss (om e (oV (vN e sl23) (om e (oV (vN e sl23) (oV (zaC e e) (rn (ze h e (fun _ h=>?_) (fun _ h=>wk (ss (om e (oV (vN e sl23) (om e (rn (zr (lO 17 h e fun L2 q1 Q15 h hL2 eL2 rL2=>ws (oV (z7 e e) (rn (zE (ze h e (fun _ h=>?_) (fun _ h=>xn (eL2 _ _ (zw (zq (ws (ar e ?_)))))))))))))))))))))))))))
 ·exact ws (ar e (zz (zf (r1 e) k0 (iS h ▸ ⟨e,e⟩))))
 ·refine wk (zE (zr (ws (om e (zd h fun y9 hy9 h=>oV (vX e e sl23 hy9) (oV (za ty26 e) (oT (zC _ ze26 fun b10=>oa e (oT (tS ty26 e e p0 y9 (zI (z8 8 .here e) (rn (ws (om e (om e (zd h fun y11 hy11 h=>oV (vX e e sl23 hy11) (oV (za ty26 e) (oT (zC _ ze26 fun b12=>oT (tS ty26 e e p0 y11 (zI (z8 9 .here e) (rn (ws (om e (oV (za ty26 e) (oV (za ty26 e) (zd h fun y13 hy13 h=>oT (zfT e (.same e (.same e .nil)) (zk3 hy13) hT .nil (fun R H' hR=>?_)))))))))))))))))))))))))))))
  obtain ⟨rfl,rfl⟩:=hR
  refine oV (zal e) (rn (ze h e (fun _ h=>?_) (fun _ h=>zJ (zx (zq (zm (zy h fun q14 h=>oV (zX e e q14) (om e (zK (hL2 h 21))))))))))
  exact ws (ar e (bn (rL2 _ (bn (zf (r1 e) k0 (iS h ▸ ⟨e,e⟩))))))
 exact zf (r1 e) k0 (iS h ▸ ⟨e,e⟩)

theorem zhw:∀ n,zfr (zeI n)∧zao (zaD n)
  | 0=>⟨fun h=>(by cases h),fun h=>(by cases h)⟩
  | n + 1=>by
    obtain ⟨h0,h1⟩:=zhw n
    exact ⟨zng h0 h1,zbX h0 h1⟩
theorem zlc (n:Nat):zfr (zeI n):=(zhw n).1
theorem zh4 {a_c a_i a_v zbD r} (h:zcd a_c a_i a_v=some r):Ctr Tryz.prog 101 [ptrv zbD (Fld.id GChk),isv a_i,isv a_v] [boxE zbD (a_c:GChk)] (Pt [isv r.1] [boxE zbD (r.2)]):=by
 unfold zcd at h
 refine zi Tryz.func101 e fun w0 S0 hT=>ws (oT (tB e (an e (ws (om e (oV (zs e) (oV (zV e GChk.f0 zgN) (oV (zV e GTbd.f0 zgH) (oV (zV e GTab.f3 zbb) (oT (tL ty29 e p0 a_c.tabled.t.types (om e (zd h fun y1 hy1 h=>oV (vX e e sl29 hy1) (oV (za ty82 e) (oT (zC _ ze82 fun b2=>oT (tS ty82 e e p0 y1 (zI (z8 7 .here e) (rn (ss (om e (oV (zs e) (oV (zV e GChk.f0 zgN) (oV (zV e GTbd.f0 zgH) (oT (tL ty31 e p0 a_c.tabled.t (om e (zd h fun y3 hy3 h=>oT (tC (zj2 hy3) hT (s2 e e) k0 (oV (vN e sl125) (om e ?_)))))))))))))))))))))))))))))))
 refine rn (zr (lO 32 h e fun L5 q4 Q90 h hL5 eL5 rL5=>ws (oV (z7 e e) (rn (zE (ze h e (fun _ h=>?_) (fun _ h=>xn (eL5 _ _ (zw (zq (ws (ar e (zf (r1 e) k1 (iS h ▸ ⟨e,e⟩))))))))))))))
 refine wk (zE (jw h Unit (fun q48 g48=>[]) (fun q48 g48=>[]) k0 (fun q48 g48 h=>?_) fun J49 h hJ49=>zr (ws (zd h fun y50 hy50 h=>oV (vX e e sl125 hy50) (oV (za ty28 e) (an e (zE (zE (zH (.v 0 (.v 1 (.v 2 (.v 3 (.v 4 (.v 5 (.v 6 (.v 7 (.v 8 .nil))))))))) moOrd (by kernel_rfl) (zj e (vI e GTyp.f4 zas y1.fields) (zj e (za ty80 e) (rm e e (zd h fun y51 hy51 h=>zj e (vX e e sl28 hy51) (zj e (za ty3 e) (zd h fun y52 hy52 h=>zj e (vX e e sl80 hy52) (zj e (vI e GFld.f5 zgf y52.group) (zj e (za ty3 e) (zj e (zD e e) (z6 (zq (ze h e (fun _ h=>?_) (fun _ h=>wk (ws (oa e (an e ?_)))))))))))))))))))))))))
 ·exact zm (zy h fun q89 h=>oV (zX e e q89) (om e (zK (hL5 h 4))))
 ·exact xn (zw (hJ49 h () 12))
 refine ss (om e (oV (vN e sl28) (om e (rn (zr (lP h Unit () (fun q53 g53=>[(10,isv q53.1),(11,isv q53.2.1),(47,isv q53.2.2)]) (fun q53 g53=>[]) (zB (j:=10) e hI (zB (j:=11) e hI (zB (j:=47) e hI zan))) k0 fun L54 q53 g53 Q88 h hL54 eL54 rL54=>ws (oV (z7 e e) (rn (zE (ze h e (fun _ h=>?_) (fun _ h=>xn (eL54 _ _ (zw (zq (ws (om e (om e (jO 2 89 h (fun q85 h=>?_) fun J86 h hJ86=>oI h (fun g87 h=>?_) fun g87 h=>oN g87 (oV (zg e g87 e) (hJ86 h 2))))))))))))))))))))
 ·refine wk (zE (zr (ws (zd h fun y67 hy67 h=>oV (vX e e sl28 hy67) (oV (za ty3 e) (an e (ws (oV (vI e Val.f3 zaL a_v.l) (oV (za ty23 e) (om e (zd h fun y68 hy68 h=>oV (vX e e sl23 hy68) (oV (za ty26 e) (zd h fun y69 hy69 h=>oT (tC (zg1 hy69) hT (s1 e) k0 (oV (zal e) (an e (ws (om e (om e (jO 2 61 h (fun q70 h=>?_) fun J71 h hJ71=>oI h (fun g72 h=>?_) fun g72 h=>oG g72 (zo e) (oV (zg e g72 e) (hJ71 h 2))))))))))))))))))))))
  ·refine an e (zm (om e (om e (jO 21 84 h (fun q73 h=>?_) fun J74 h hJ74=>oI h (fun g75 h=>?_) fun g75 h=>oG g75 (zo e) (oG g75 (zal e) (oG g75 (zo e) (jO 8 74 h (fun q76 h=>?_) fun J77 h hJ77=>oI h (fun g78 h=>?_) fun g78 h=>oN g78 (oN g78 (oN g78 (oN g78 (oN g78 (oN g78 (oN g78 (oG g75 (zg e g78 e) (hJ77 h 8)))))))))))))))
   ·exact oa e (rb (zq (zm (zy h fun q84 h=>oV (zX e e q84) (om e (zK (hL54 h () 25)))))))
   ·exact oN g75 (oN g75 (oN g75 (oU (oU (oU (oU (oU (oU (oU (oN g75 (oN g75 (oU (oU (oU (oU (oU (oU (oU (oN g75 (oV (zh e g75 e) (hJ74 h 21)))))))))))))))))))))
   ·refine oG g75 (zo e) (jO 8 83 h (fun q80 h=>?_) fun J81 h hJ81=>oI h (fun g82 h=>?_) fun g82 h=>oN g82 (oN g82 (oN g82 (oN g82 (oN g82 (oN g82 (oN g82 (oG g75 (zg e g82 e) (hJ81 h 8)))))))))
    ·exact oV (zg e g75 e) (hJ74 h 7)
    exact oG g82 (vI e GTyp.f4 zas y1.fields) (oG g82 (za ty80 e) (oG g82 (zo e) (zd h fun y83 hy83 h=>oG g82 (vX e e sl80 hy83) (oG g82 (vI e GFld.f3 zgF y83.has) (oG g82 (za ty4 e) (oG g82 (zal e) (oG g75 (zh e g82 e) (hJ81 h 8))))))))
   exact oG g78 (vI e GTyp.f4 zas y1.fields) (oG g78 (za ty80 e) (oG g78 (zo e) (zd h fun y79 hy79 h=>oG g78 (vX e e sl80 hy79) (oG g78 (vI e GFld.f2 zjf y79.optional) (oG g78 (za ty4 e) (oG g78 (zal e) (oG g75 (zh e g78 e) (hJ77 h 8))))))))
  exact oN g72 (oV (zh e g72 e) (hJ71 h 2))
 ·refine rn (ze h e (fun _ h=>?_) (fun _ h=>zJ (zx (hJ49 h () 24))))
  exact ws (ar e (bn (rL5 _ (bn (zf (r1 e) k1 (iS h ▸ ⟨e,e⟩))))))
 exact oG g87 (zo e) (oV (zh e g87 e) (hJ86 h 2))


def zaP (f':Val→GChk→GTyp→Int→Option (Bool × GChk)):Prop :=
 ∀ {a_w_ a_a1 a_a2 a_a3 zgd r},f' a_w_ a_a1 a_a2 a_a3=some r→Ctr Tryz.prog 98 [isv a_w_,immv (PtrB.mk zgd),immv (a_a2),immv (a_a3)] [boxE zgd (a_a1:GChk)] (Pt [isv r.1] [boxE zgd (r.2)])
def zaW (f':GChk→Int→Val→Int→Option (Bool × GChk)):Prop :=
 ∀ {a_c a_i a_v zL zbD r},f' a_c a_i a_v zL=some r→Ctr Tryz.prog 35 [ptrv zbD (Fld.id GChk),isv a_i,isv a_v,isv zL] [boxE zbD (a_c:GChk)] (Pt [isv r.1] [boxE zbD (r.2)])
def za5 (f':GChk→GTyp→Val→Int→Option (Bool × GChk)):Prop :=
 ∀ {a_c a_x a_v zL zbD r},f' a_c a_x a_v zL=some r→Ctr Tryz.prog 66 [ptrv zbD (Fld.id GChk),isv a_x,isv a_v,isv zL] [boxE zbD (a_c:GChk)] (Pt [isv r.1] [boxE zbD (r.2)])
def zab (f':(List Val)→GChk→GTyp→Int→Option (Bool × GChk)):Prop :=
 ∀ {a_s zdl zep ziV zct r},f' a_s zdl zep ziV=some r→Ctr Tryz.prog 97 [isv a_s,clov 98 [immv (PtrB.mk zct),immv (zep),immv (ziV)]] [boxE zct (zdl:GChk)] (Pt [isv r.1] [boxE zct (r.2)])
def zah (f':(List Val)→GChk→GTyp→Int→Option (Int × GChk)):Prop :=
 ∀ {a_s zdl zep ziV zct r},f' a_s zdl zep ziV=some r→Ctr Tryz.prog 132 [isv a_s,clov 98 [immv (PtrB.mk zct),immv (zep),immv (ziV)]] [boxE zct (zdl:GChk)] (Pt [isv r.1] [boxE zct (r.2)])
def zaX (f':GChk→Int→Val→Int→Option (Bool × GChk)):Prop :=
 ∀ {a_c a_i a_v zL zbD r},f' a_c a_i a_v zL=some r→Ctr Tryz.prog 67 [ptrv zbD (Fld.id GChk),isv a_i,isv a_v,isv zL] [boxE zbD (a_c:GChk)] (Pt [isv r.1] [boxE zbD (r.2)])
theorem zhq {zP zS zY zt zu zR} (zbj:zaP zP) (za4:zaW zS) (zbK:za5 zY) (zaq:zab zt) (zat:zah zu) (zbt:zaX zR):zaP (zbL zP zS zY zt zu zR):=by
 intro a_w_ a_a1 a_a2 a_a3 zgd r h
 unfold zbL at h
 exact zi Tryz.func98 e fun w0 S0 hT=>ws (oT (tB e (an e (ws (oV (zmB (α:=GChk) ty89 e) (oV (vI e GTyp.f7 zku a_a2.of) (oV (za ty3 e) (oV (za ty26 e) (oV (za ty3 e) (zy h fun q1 h=>oV (zX e e q1) (zd h fun y2 hy2 h=>oT (tC (za4 hy2) hT (s4 e e e e) k1 (oV (zal e) (ar e (zf (r1 e) k1 (iS h ▸ ⟨e,e⟩))))))))))))))))

theorem ziL {zP zS zY zt zu zR} (zbj:zaP zP) (za4:zaW zS) (zbK:za5 zY) (zaq:zab zt) (zat:zah zu) (zbt:zaX zR):zaW (zbp zP zS zY zt zu zR):=by
 intro a_c a_i a_v zL zbD r h
 unfold zbp at h
 refine zi Tryz.func35 e fun w0 S0 hT=>ws (oT (tB e (an e (ss (om e (oV (z7 e e) (om e (jO 10 22 h (fun q1 h=>?_) fun J2 h hJ2=>oI h (fun g3 h=>?_) fun g3 h=>oG g3 (zo e) (oG g3 (zo e) (oG g3 (zs e) (oG g3 (zV e GChk.f0 zgN) (oG g3 (zV e GTbd.f0 zgH) (oG g3 (zV e GTab.f3 zbb) (oH g3 (tL ty29 e p0 a_c.tabled.t.types (oG g3 (vN e sl29) (oG g3 (zbF e e) (oV (zg e g3 e) (hJ2 h 10)))))))))))))))))))
 ·refine om e (jO 3 26 h (fun q4 h=>?_) fun J5 h hJ5=>oI h (fun g6 h=>?_) fun g6 h=>oG g6 (zo e) (oG g6 (zbc e e) (oV (zg e g6 e) (hJ5 h 3))))
  ·refine rn (ze h e (fun _ h=>?_) (fun _ h=>wk (ws (om e (oV (zs e) (oV (zV e GChk.f0 zgN) (oV (zV e GTbd.f0 zgH) (oV (zV e GTab.f3 zbb) (oT (tL ty29 e p0 a_c.tabled.t.types (om e (zd h fun y7 hy7 h=>oV (vX e e sl29 hy7) (oV (za ty82 e) (oT (zC _ ze82 fun b8=>oT (tS ty82 e e p0 y7 (zI (z8 9 .here e) (rn (ss (oV (vI e Val.f0 zbu a_v.kind) (oV (za ty3 e) (oV (zD e e) (rn (ze h e (fun _ h=>?_) (fun _ h=>wk (ss (oV (vI e Val.f0 zbu a_v.kind) (oV (za ty3 e) (oV (vI e GTyp.f0 zbf y7.kind) (oV (za ty3 e) ?_))))))))))))))))))))))))))))))
   ·exact ws (ar e (zz (zf (r1 e) k1 (iS h ▸ ⟨e,e⟩))))
   ·exact ws (om e (om e (oV (za ty26 e) (zd h fun y9 hy9 h=>oT (tC (zhs hy9) hT (s3 e e e) k1 (ar e (zz (zf (r1 e) k1 (iS h ▸ ⟨e,e⟩)))))))))
   refine oV (zaC e e) (rn (ze h e (fun _ h=>?_) (fun _ h=>wk (ss (oV (vI e GTyp.f0 zbf y7.kind) (oV (za ty3 e) (rn (zr (ws (oV (zD e e) (an e (ze h e (fun _ h=>?_) (fun _ h=>ws (oV (zD e e) (an e (ze h e (fun _ h=>?_) (fun _ h=>ws (oV (zD e e) (an e (ze h e (fun _ h=>?_) (fun _ h=>ws (oV (zD e e) (an e (ze h e (fun _ h=>?_) (fun _ h=>ss (oV (zD e e) (an e (jW 95 h (fun q31 h=>?_) fun J32 h hJ32=>ze h e (fun _ h=>?_) (fun _ h=>?_)))))))))))))))))))))))))))))
   ·exact ws (ar e (zz (zf (r1 e) k1 (iS h ▸ ⟨e,e⟩))))
   ·refine ws (oV (za ty26 e) (zd h fun y10 hy10 h=>oT (tC (zb8 hy10) hT (s2 e e) k0 (om e (jO 9 63 h (fun q11 h=>?_) fun J12 h hJ12=>oI h (fun g13 h=>?_) fun g13 h=>oN g13 (oN g13 (oN g13 (oN g13 (oU (oU (oU (oN g13 (oV (zg e g13 e) (hJ12 h 9))))))))))))))
    ·exact ar e (bn (zf (r1 e) k1 (iS h ▸ ⟨e,e⟩)))
    refine oG g13 (vI e Val.f1 zaT a_v.n) (oG g13 (za ty2 e) (oG g13 (zD e e) (oG g13 (zo e) (jO 4 62 h (fun q14 h=>?_) fun J15 h hJ15=>oI h (fun g16 h=>?_) fun g16 h=>oG g16 (vI e Val.f1 zaT a_v.n) (oG g16 (za ty2 e) (oG g16 (zD e e) (oG g13 (zg e g16 e) (hJ15 h 4))))))))
    ·exact oV (zh e g13 e) (hJ12 h 6)
    exact oN g16 (oN g16 (oN g16 (oG g13 (zh e g16 e) (hJ15 h 4))))
   ·refine ws (oV (za ty26 e) (zd h fun y17 hy17 h=>oT (tC (zb8 hy17) hT (s2 e e) k0 (om e (jO 11 79 h (fun q18 h=>?_) fun J19 h hJ19=>oI h (fun g20 h=>?_) fun g20 h=>oN g20 (oN g20 (oN g20 (oN g20 (oU (oU (oU (oU (oU (oN g20 (oV (zg e g20 e) (hJ19 h 11))))))))))))))))
    ·exact ar e (bn (zf (r1 e) k1 (iS h ▸ ⟨e,e⟩)))
    refine oG g20 (vI e GTyp.f2 zdZ y7.con) (oG g20 (vI e GCon.f3 zkp y7.con.more) (oG g20 (za ty4 e) (oG g20 (zo e) (jO 6 78 h (fun q21 h=>?_) fun J22 h hJ22=>oI h (fun g23 h=>?_) fun g23 h=>oG g23 (vI e GTyp.f2 zdZ y7.con) (oG g23 (za ty78 e) (oG g23 (vI e Val.f1 zaT a_v.n) (oG g23 (za ty2 e) (zd h fun y24 hy24 h=>oH g23 (tC (zge hy24) hT (s2 e e) k0 (oG g20 (zg e g23 e) (hJ22 h 6)))))))))))
    ·exact oV (zh e g20 e) (hJ19 h 6)
    exact oN g23 (oN g23 (oN g23 (oN g23 (oN g23 (oG g20 (zh e g23 e) (hJ22 h 6))))))
   ·refine ws (oV (za ty26 e) (zd h fun y25 hy25 h=>oT (tC (zb8 hy25) hT (s2 e e) k0 (om e (jO 6 90 h (fun q26 h=>?_) fun J27 h hJ27=>oI h (fun g28 h=>?_) fun g28 h=>oN g28 (oN g28 (oN g28 (oN g28 (oN g28 (oV (zg e g28 e) (hJ27 h 6)))))))))))
    ·exact ar e (bn (zf (r1 e) k1 (iS h ▸ ⟨e,e⟩)))
    exact oG g28 (za ty82 e) (oG g28 (vI e Val.f1 zaT a_v.n) (oG g28 (za ty2 e) (zd h fun y29 hy29 h=>oH g28 (tC (zh7 hy29) hT (s2 e e) k0 (oG g28 (zbF e e) (oV (zh e g28 e) (hJ27 h 6)))))))
   ·exact ws (oV (za ty26 e) (zd h fun y30 hy30 h=>oT (tC (zb8 hy30) hT (s2 e e) k0 (ar e (bn (zf (r1 e) k1 (iS h ▸ ⟨e,e⟩)))))))
   ·refine ze h e (fun _ h=>?_) (fun _ h=>ws (oV (zD e e) (an e (ze h e (fun _ h=>?_) (fun _ h=>ws (oV (zD e e) (an e (ze h e (fun _ h=>?_) (fun _ h=>ss (oV (zD e e) (an e (jW 149 h (fun q52 h=>?_) fun J53 h hJ53=>ze h e (fun _ h=>?_) (fun _ h=>zm (oV (zD e e) (oa e (zK (hJ53 h 2)))))))))))))))))
    ·exact ws (om e (oV (za ty82 e) (oV (za ty26 e) (zd h fun y33 hy33 h=>oT (tC (zil hy33) hT (s3 e e e) k1 (ar e (bn (zf (r1 e) k1 (iS h ▸ ⟨e,e⟩)))))))))
    ·exact ws (om e (oV (za ty82 e) (oV (za ty26 e) (om e (zd h fun y34 hy34 h=>oT (tC (zbK hy34) hT (s4 e e e e) k1 (ar e (bn (zf (r1 e) k1 (iS h ▸ ⟨e,e⟩))))))))))
    ·refine zE (zH (.v 0 (.t 1 (.v 2 (.v 3 (.v 4 (.v 5 (.v 6 (.v 7 (.v 8 (.v 9 (.v 10 (.v 11 (.v 12 (.v 13 (.v 14 (.v 15 (.v 16 (.v 17 (.v 18 (.v 19 (.v 20 (.v 21 (.v 22 (.v 23 (.v 24 (.v 25 (.v 26 (.v 27 (.v 28 (.v 29 (.v 30 (.v 31 (.v 32 (.v 33 (.v 34 (.v 35 (.t 36 (.v 37 (.v 38 .nil))))))))))))))))))))))))))))))))))))))) moOrd (by kernel_rfl) (zj e (za ty26 e) (zd h fun y35 hy35 h=>rT e (tC (zb8 hy35) hT (s2 e e) k0 (rm e e (jD 4 117 h (fun q36 h=>?_) fun J37 h hJ37=>rJ h (fun g38 h=>?_) fun g38 h=>rP e g38 (rP e g38 (rP e g38 (zj e (zg e g38 e) (hJ37 h 4))))))))))
     ·refine rm e e (jD 7 125 h (fun q39 h=>?_) fun J40 h hJ40=>rJ h (fun g41 h=>?_) fun g41 h=>rP e g41 (rP e g41 (rP e g41 (rP e g41 (rP e g41 (rP e g41 (zj e (zg e g41 e) (hJ40 h 7))))))))
      ·refine rm e e (jD 5 131 h (fun q42 h=>?_) fun J43 h hJ43=>rJ h (fun g44 h=>?_) fun g44 h=>rP e g44 (rP e g44 (rP e g44 (rP e g44 (zj e (zg e g44 e) (hJ43 h 5))))))
       ·refine rm e e (jd 16 h Unit (fun q45 g45=>[(148,isv q45.1)]) (fun q45 g45=>[boxE zbD (q45.2:GChk)]) k1 (fun q45 g45 h=>?_) fun J46 h hJ46=>rJ h (fun g47 h=>?_) fun g47 h=>rP e g47 (rP e g47 (rP e g47 (rP e g47 (rP e g47 (rP e g47 (rP e g47 (rP e g47 (rP e g47 (rP e g47 (rP e g47 (rP e g47 (rP e g47 (rP e g47 (zcO e e (dj:=132) e g47 (zj e (zg e g47 e) (hJ46 h () 16)))))))))))))))))
        ·exact zj e (zaj e) (z6 (zq (zaQ (bn (zf (r1 e) k1 (iS h ▸ ⟨e,e⟩))))))
        exact rG e g47 (zo e) (rG e g47 (vI e GTyp.f4 zas y7.fields) (rG e g47 (za ty80 e) (rG e g47 (vI e Val.f1 zaT a_v.n) (rG e g47 (za ty2 e) (zd h fun y48 hy48 h=>rG e g47 (vX e e sl80 hy48) (rG e g47 (vI e GFld.f1 zcf y48.ty) (rG e g47 (za ty3 e) (rG e g47 (vI e Val.f3 zaL a_v.l) (rG e g47 (za ty23 e) (zd h fun y49 hy49 h=>rG e g47 (vX e e sl23 hy49) (rG e g47 (za ty26 e) (rG e g47 (zo e) (zy h fun q50 h=>rG e g47 (zX e e q50) (zd h fun y51 hy51 h=>rH e g47 (tC (za4 hy51) hT (s4 e e e e) k1 (zj e (zh e g47 e) (hJ46 h () 16)))))))))))))))))
       exact rG e g44 (vI e Val.f3 zaL a_v.l) (rG e g44 (za ty23 e) (rG e g44 (vN e sl23) (rG e g44 (zD e e) (zj e (zh e g44 e) (hJ43 h 5)))))
      exact rG e g41 (vI e Val.f1 zaT a_v.n) (rG e g41 (za ty2 e) (rG e g41 (vI e GTyp.f4 zas y7.fields) (rG e g41 (za ty80 e) (rG e g41 (vN e sl80) (rG e g41 (z7 e e) (zj e (zh e g41 e) (hJ40 h 7)))))))
     exact rG e g38 (vI e Val.f1 zaT a_v.n) (rG e g38 (za ty2 e) (rG e g38 (zbF e e) (zj e (zh e g38 e) (hJ37 h 4))))
    ·refine ze h e (fun _ h=>?_) (fun _ h=>zJ (zx (zq (ws (ar e (zf (r1 e) k1 (iS h ▸ ⟨e,e⟩)))))))
     exact ws (om e (om e (oV (za ty26 e) (om e (zd h fun y54 hy54 h=>oT (tC (zbt hy54) hT (s4 e e e e) k1 (ar e (bn (zf (r1 e) k1 (iS h ▸ ⟨e,e⟩))))))))))
    exact zJ (hJ53 h 0)
   ·exact zJ (hJ32 h 0)
   exact zm (oV (zD e e) (oa e (zK (hJ32 h 2))))
  exact oN g6 (oN g6 (oV (zh e g6 e) (hJ5 h 3)))
 exact oN g3 (oN g3 (oN g3 (oN g3 (oN g3 (oN g3 (oN g3 (oN g3 (oN g3 (oV (zh e g3 e) (hJ2 h 10))))))))))

theorem ziK {zP zS zY zt zu zR} (zbj:zaP zP) (za4:zaW zS) (zbK:za5 zY) (zaq:zab zt) (zat:zah zu) (zbt:zaX zR):za5 (zce zP zS zY zt zu zR):=by
 intro a_c a_x a_v zL zbD r h
 unfold zce at h
 refine zi Tryz.func66 e fun w0 S0 hT=>ws (oT (znY (y:=PtrB.mk zbD) e zqy (oT (tB e (oT (tB e (oT (tB e (an e (ws (oV (za ty26 e) (zd h fun y1 hy1 h=>oT (tC (zb8 hy1) hT (s2 e e) k0 (om e (jO 12 23 h (fun q2 h=>?_) fun J3 h hJ3=>oI h (fun g4 h=>?_) fun g4 h=>oN g4 (oN g4 (oN g4 (oN g4 (oU (oU (oU (oU (oU (oU (oN g4 (oV (zg e g4 e) (hJ3 h 12)))))))))))))))))))))))))))
 ·refine om e (jo 6 h Unit (fun q9 g9=>[(30,isv q9.1)]) (fun q9 g9=>[boxE zbD (q9.2:GChk)]) k1 (fun q9 g9 h=>?_) fun J10 h hJ10=>oI h (fun g11 h=>?_) fun g11 h=>oN g11 (oN g11 (oN g11 (oN g11 (oN g11 (oV (zg e g11 e) (hJ10 h () 6)))))))
  ·exact ar e (zf (r1 e) k1 (iS h ▸ ⟨e,e⟩))
  exact oG g11 (vI e Val.f3 zaL a_v.l) (oG g11 (za ty23 e) (oG g11 (zh5 (.same e (.same e (.same e .nil)))) (zd h fun y12 hy12 h=>oH g11 (tC (zaq hy12) hT (s2 e e) k1 (oG g11 (zal e) (oV (zh e g11 e) (hJ10 h () 6)))))))
 refine oG g4 (vI e GTyp.f2 zdZ a_x.con) (oG g4 (vI e GCon.f3 zkp a_x.con.more) (oG g4 (za ty4 e) (oG g4 (zo e) (jO 7 22 h (fun q5 h=>?_) fun J6 h hJ6=>oI h (fun g7 h=>?_) fun g7 h=>oG g7 (vI e GTyp.f2 zdZ a_x.con) (oG g7 (za ty78 e) (oG g7 (vI e Val.f3 zaL a_v.l) (oG g7 (za ty23 e) (oG g7 (vN e sl23) (zd h fun y8 hy8 h=>oH g7 (tC (zge hy8) hT (s2 e e) k0 (oG g4 (zg e g7 e) (hJ6 h 7))))))))))))
 ·exact oV (zh e g4 e) (hJ3 h 6)
 exact oN g7 (oN g7 (oN g7 (oN g7 (oN g7 (oN g7 (oG g4 (zh e g7 e) (hJ6 h 7)))))))

theorem zdi {zP zS zY zt zu zR} (zbj:zaP zP) (za4:zaW zS) (zbK:za5 zY) (zaq:zab zt) (zat:zah zu) (zbt:zaX zR):zab (zav zP zS zY zt zu zR):=by
 intro a_s zdl zep ziV zct r h
 unfold zav at h
 exact zi Tryz.func97 e fun w0 S0 hT=>ws (an e (ws (om e (om e (zd h fun y1 hy1 h=>oT (tC (zat hy1) hT (s2 e e) k1 (oV (zbF e e) (ar e (zf (r1 e) k1 (iS h ▸ ⟨e,e⟩))))))))))

theorem zdG {zP zS zY zt zu zR} (zbj:zaP zP) (za4:zaW zS) (zbK:za5 zY) (zaq:zab zt) (zat:zah zu) (zbt:zaX zR):zah (zaE zP zS zY zt zu zR):=by
 intro a_s zdl zep ziV zct r h
 unfold zaE at h
 refine zi Tryz.func132 e fun w0 S0 hT=>ws (an e (ss (om e (oV (vN e sl23) (om e (rn (zr (lP h Unit () (fun q1 g1=>[(8,isv q1.1)]) (fun q1 g1=>[boxE zct (q1.2:GChk)]) (zB (j:=8) e hI zan) k1 fun L2 q1 g1 Q9 h hL2 eL2 rL2=>ws (oV (z7 e e) (rn (zE (ze h e (fun _ h=>?_) (fun _ h=>xn (eL2 _ _ (zw (zq (ws (ar e (zf (r1 e) k1 (iS h ▸ ⟨e,e⟩))))))))))))))))))))
 refine wk (zE (zr (ws (om e (an e (ws (om e (om e (om e (zd h fun y6 hy6 h=>oV (vX e e sl23 hy6) (oV (za ty26 e) (zd h fun y7 hy7 h=>oT (zfT e (.same e .nil) (zbj hy7) hT (.cons .here .nil) (fun R H' hR=>?_))))))))))))))
 obtain ⟨rfl,rfl⟩:=hR
 refine rn (ze h e (fun _ h=>?_) (fun _ h=>zJ (zx (zq (zm (zy h fun q8 h=>oV (zX e e q8) (om e (zK (hL2 h () 12)))))))))
 exact ws (om e (ar e (bn (rL2 _ (bn (zf (r1 e) k1 (iS h ▸ ⟨e,e⟩)))))))

theorem zhx {zP zS zY zt zu zR} (zbj:zaP zP) (za4:zaW zS) (zbK:za5 zY) (zaq:zab zt) (zat:zah zu) (zbt:zaX zR):zaX (zbO zP zS zY zt zu zR):=by
 intro a_c a_i a_v zL zbD r h
 unfold zbO at h
 refine zi Tryz.func67 e fun w0 S0 hT=>ws (oT (tB e (an e (ws (om e (oV (zs e) (oV (zV e GChk.f0 zgN) (oV (zV e GTbd.f0 zgH) (oV (zV e GTab.f3 zbb) (oT (tL ty29 e p0 a_c.tabled.t.types (om e (zd h fun y1 hy1 h=>oV (vX e e sl29 hy1) (oV (za ty82 e) (oT (zC _ ze82 fun b2=>oT (tS ty82 e e p0 y1 (zI (z8 9 .here e) (rn (ss (oV (za ty26 e) (zd h fun y3 hy3 h=>oT (tC (zb8 hy3) hT (s2 e e) k0 (oV (zal e) (om e (jO 8 33 h (fun q4 h=>?_) fun J5 h hJ5=>oI h (fun g6 h=>?_) fun g6 h=>oG g6 (vI e Val.f3 zaL a_v.l) (oG g6 (za ty23 e) (oG g6 (vN e sl23) ?_))))))))))))))))))))))))))))
 ·refine om e (jo 6 h Unit (fun q7 g7=>[(40,isv q7.1)]) (fun q7 g7=>[boxE zbD (q7.2:GChk)]) k1 (fun q7 g7 h=>?_) fun J8 h hJ8=>oI h (fun g9 h=>?_) fun g9 h=>oG g9 (zo e) (oG g9 (zo e) (oG g9 (za ty26 e) (zd h fun y10 hy10 h=>oH g9 (tC (zjh hy10) hT (s3 e e e) k1 (oG g9 (zal e) (oV (zg e g9 e) (hJ8 h () 6))))))))
  ·refine rn (ze h e (fun _ h=>?_) (fun _ h=>wk (ss (oV (vI e GTyp.f4 zas y1.fields) (oV (za ty80 e) (oV (vN e sl80) (om e (rn (zr (lP h Unit () (fun q11 g11=>[(44,isv q11.1)]) (fun q11 g11=>[boxE zbD (q11.2:GChk)]) (zB (j:=44) e hI zan) k1 fun L12 q11 g11 Q57 h hL12 eL12 rL12=>ws (oV (z7 e e) (rn (zE (ze h e (fun _ h=>?_) (fun _ h=>xn (eL12 _ _ (zw (zq (ws (om e (om e (oV (za ty26 e) (zd h fun y56 hy56 h=>oT (tC (zh4 hy56) hT (s3 e e e) k1 (ar e (zf (r1 e) k1 (iS h ▸ ⟨e,e⟩)))))))))))))))))))))))))))
   ·exact ws (ar e (zz (zf (r1 e) k1 (iS h ▸ ⟨e,e⟩))))
   refine wk (zE (jw h Unit (fun q35 g35=>[]) (fun q35 g35=>[boxE zbD (q35:GChk)]) k1 (fun q35 g35 h=>?_) fun J36 h hJ36=>zr (ws (om e (zd h fun y37 hy37 h=>oV (vX e e sl80 hy37) (oV (za ty88 e) (oT (zC _ ze88 fun b38=>oa e (oT (tS ty88 e e p0 y37 (zI (z8 11 .here e) (rn (ws (oV (vI e Val.f3 zaL a_v.l) (oV (za ty23 e) (om e (zd h fun y39 hy39 h=>oV (vX e e sl23 hy39) (oV (za ty26 e) (oT (zC _ ze26 fun b40=>oT (tS ty26 e e p0 y39 (zI (z8 12 .here e) (rn (zr (ws (oV (vI e Val.f0 zbu y39.kind) (oV (za ty3 e) (oV (zD e e) ?_))))))))))))))))))))))))))))
   ·exact zm (zy h fun q55 h=>oV (zX e e q55) (om e (zK (hL12 h () 4))))
   refine an e (ze h e (fun _ h=>?_) (fun _ h=>ws (om e (oV (vI e GFld.f1 zcf y37.ty) (oV (za ty3 e) (oV (za ty26 e) (om e (zy h fun q46 h=>oV (zX e e q46) (zd h fun y47 hy47 h=>oT (tC (za4 hy47) hT (s4 e e e e) k1 (oV (zal e) (om e (jO 9 85 h (fun q48 h=>?_) fun J49 h hJ49=>oI h (fun g50 h=>?_) fun g50 h=>oG g50 (vI e GFld.f3 zgF y37.has) (oG g50 (za ty4 e) (oG g50 (zo e) (jO 5 84 h (fun q51 h=>?_) fun J52 h hJ52=>oI h (fun g53 h=>?_) fun g53 h=>oN g53 (oN g53 (oN g53 (oN g53 (oG g50 (zg e g53 e) (hJ52 h 5)))))))))))))))))))))
   ·refine ws (oV (za ty26 e) (zd h fun y41 hy41 h=>oT (tC (zg1 hy41) hT (s1 e) k0 (oV (zal e) (om e (jO 5 66 h (fun q42 h=>?_) fun J43 h hJ43=>oI h (fun g44 h=>?_) fun g44 h=>oG g44 (za ty82 e) (oG g44 (zo e) (zd h fun y45 hy45 h=>oH g44 (tC (zj9 hy45) hT (s2 e e) k0 (oG g44 (zal e) (oV (zg e g44 e) (hJ43 h 5))))))))))))
    ·refine rn (ze h e (fun _ h=>?_) (fun _ h=>zJ (zx (zx (hJ36 h () 22)))))
     exact ws (ar e (zbm (bn (rL12 _ (bn (zf (r1 e) k1 (iS h ▸ ⟨e,e⟩)))))))
    exact oN g44 (oN g44 (oN g44 (oN g44 (oV (zh e g44 e) (hJ43 h 5)))))
   ·refine an e (ze h e (fun _ h=>?_) (fun _ h=>zJ (zx (zx (hJ36 h () 28)))))
    exact ws (ar e (zbm (bn (rL12 _ (bn (zf (r1 e) k1 (iS h ▸ ⟨e,e⟩)))))))
   ·exact oN g50 (oN g50 (oN g50 (oU (oU (oU (oU (oN g50 (oV (zh e g50 e) (hJ49 h 9)))))))))
   ·exact oV (zg e g50 e) (hJ49 h 5)
   exact oG g53 (za ty26 e) (oG g53 (vI e GFld.f4 zki y37.dflt) (oG g53 (za ty26 e) (zd h fun y54 hy54 h=>oH g53 (tC (zlc fuel hy54) hT (s2 e e) k0 (oG g50 (zh e g53 e) (hJ52 h 5))))))
  exact oN g9 (oN g9 (oN g9 (oN g9 (oN g9 (oV (zh e g9 e) (hJ8 h () 6))))))
 ·exact oN g6 (oN g6 (oN g6 (oN g6 (oN g6 (oN g6 (oN g6 (oV (zh e g6 e) (hJ5 h 8))))))))
 exact oG g6 (vI e GTyp.f4 zas y1.fields) (oG g6 (za ty80 e) (oG g6 (vN e sl80) (oG g6 (zaC e e) (oV (zg e g6 e) (hJ5 h 8)))))

theorem zdP:∀ n,zaP (za1 n)∧zaW (zaO n)∧za5 (zbq n)∧zab (zaf n)∧zah (zai n)∧zaX (za3 n)
  | 0=>⟨fun h=>(by cases h),fun h=>(by cases h),fun h=>(by cases h),fun h=>(by cases h),fun h=>(by cases h),fun h=>(by cases h)⟩
  | n + 1=>by
    obtain ⟨h0,h1,h2,h3,h4,h5⟩:=zdP n
    exact ⟨zhq h0 h1 h2 h3 h4 h5,ziL h0 h1 h2 h3 h4 h5,ziK h0 h1 h2 h3 h4 h5,zdi h0 h1 h2 h3 h4 h5,zdG h0 h1 h2 h3 h4 h5,zhx h0 h1 h2 h3 h4 h5⟩
theorem ziT (n:Nat):zaW (zaO n):=(zdP n).2.1
def zfQ (f':Val→Option (Int)):Prop :=
 ∀ {a_v r},f' a_v=some r→Ctr Tryz.prog 36 [isv a_v] [] (Pt [isv r] [])
theorem zmw {zgo} (znm:zfQ zgo):zfQ (zeq zgo):=by
 intro a_v r h
 unfold zeq at h
 refine zi Tryz.func36 e fun w0 S0 hT=>ws (oT (tB e (an e (ws (an e (ss (oV (vI e Val.f3 zaL a_v.l) (oV (za ty23 e) (oV (vN e sl23) (om e (rn (zr (lP h Unit () (fun q1 g1=>[(3,isv q1.1),(9,isv q1.2)]) (fun q1 g1=>[]) (zB (j:=3) e hI (zB (j:=9) e hI zan)) k0 fun L2 q1 g1 Q13 h hL2 eL2 rL2=>ws (oV (z7 e e) (rn (zE (ze h e (fun _ h=>?_) (fun _ h=>xn (eL2 _ _ (zw (zq (ws (om e (ar e (zf (r1 e) k0 (iS h ▸ ⟨e,e⟩))))))))))))))))))))))))))
 exact wk (zE (zr (ws (zd h fun y8 hy8 h=>oV (vX e e sl23 hy8) (oV (za ty26 e) (oT (zC _ ze26 fun b9=>oT (tS ty26 e e p0 y8 (zI (z8 5 .here e) (rn (zm (om e (oV (za ty26 e) (zd h fun y10 hy10 h=>oT (tC (znm hy10) hT (s1 e) k0 (zy h fun q11 h=>oV (zX e e q11) (oa e (rb (zq (zm (zy h fun q12 h=>oV (zX e e q12) (om e (zK (hL2 h () 14))))))))))))))))))))))))

theorem zhf:∀ n,zfQ (zf6 n)
  | 0=>fun h=>(by cases h)
  | n + 1=>zmw (zhf n)
theorem znc (n:Nat):zfQ (zf6 n):=(zhf n)

theorem zly {a_t a_i a_v r} (h:zdU a_t a_i a_v=some r):Ctr Tryz.prog 18 [isv a_t,isv a_i,isv a_v] [] (Pt [isv r] []):=by
 unfold zdU at h
 refine zi Tryz.func18 e fun w0 S0 hT=>ws (oT (tB e (oT (tB e (an e (ws (oV (za ty31 e) (oV (zaa (z:=(GTbd.mk a_t)) e bu91 ze91 (.cons GTbd.f0 zgH e hI .nil)) (oV (zaa (z:=(GChk.mk (GTbd.mk a_t) true)) e bu93 ze93 (.cons GChk.f0 zgN e hI (.cons GChk.f1 zsR e hI .nil))) (oT (zlL (y:=(GChk.mk (GTbd.mk a_t) true)) e hI fun b1=>an e (ws (om e (om e (oV (za ty26 e) (zd h fun y2 hy2 h=>oT (tC (ziT fuel hy2) hT (s4 e e e e) k1 (om e (jO 4 20 h (fun q3 h=>?_) fun J4 h hJ4=>oI h (fun g5 h=>?_) fun g5 h=>oN g5 (oN g5 (oN g5 (oV (zg e g5 e) (hJ4 h 4)))))))))))))))))))))))
 ·exact ar e (zf (r1 e) k0 (iS h ▸ ⟨e,e⟩))
 exact oG g5 (za ty26 e) (zd h fun y6 hy6 h=>oH g5 (tC (znc fuel hy6) hT (s1 e) k0 (oG g5 (zjo e e) (oV (zh e g5 e) (hJ4 h 4)))))


theorem zbZ {a_s r} (h:zbk a_s=some r):Ctr Tryz.prog 41 [isv a_s] [] (Pt [isv r] []):=by
 unfold zbk at h
 refine zi Tryz.func41 e fun w0 S0 hT=>ws (an e (ss (om e (oV (zug (l:=a_s) sl22 e e) (rn (ztT h e (fun hn=>by rw [hn];rfl) (fun _ h=>?_) (fun h=>wk (ws (oT (zN (l:=([]:(List UInt8))) el22 .nil e e (om e (zI (zau) (zag h fun q3 h=>oT (za7 (l:=([]:(List UInt8))) (m:=a_s) zkR e hI e hI .here q3 fun t2=>ar e (zf (.as e zG .nil) k0 (iS h ▸ ⟨e,e⟩))))))))))))))))
 exact ws (ar e (zz (zf (.as e (zcU (α:=UInt8)) .nil) k0 (iS h ▸ ⟨e,e⟩))))


def zfR (f':Val→Option (Val)):Prop :=
 ∀ {a_v r},f' a_v=some r→Ctr Tryz.prog 20 [isv a_v] [] (Pt [isv r] [])
theorem zmn {zgq} (zj1:zfR zgq):zfR (zev zgq):=by
 intro a_v r h
 unfold zev at h
 refine zi Tryz.func20 e fun w0 S0 hT=>ws (oT (tB e (oT (zC _ ze26 fun b1=>rn (ss (oV (vI e Val.f0 zbu a_v.kind) (oV (za ty3 e) (oV (zD e e) (rn (ze h e (fun _ h=>?_) (fun _ h=>wk (zE (jw h (Nat × Tok) (fun q2 g2=>[(3,ptrv g2.1 (Fld.id (Int × Int × (List UInt8) × (TList Val) × Int × (List Raw))))]) (fun q2 g2=>[boxE g2.1 ((q2.kind,q2.n,q2.b,(TList.mk g2.2 q2.l),q2.rule,q2.more):(Int × Int × (List UInt8) × (TList Val) × Int × (List Raw))),tokE g2.2]) k0 (fun q2 g2 h=>?_) fun J3 h hJ3=>zH (.v 0 (.v 1 (.v 2 (.v 3 (.v 4 (.v 5 (.alt 6 (.v 7 (.t 8 (.t 9 .nil))) (.t 8 (.t 6 (.v 7 (.t 9 .nil))))))))))) moOrd (by kernel_rfl) (zj e (vI e Val.f0 zbu a_v.kind) (zj e (za ty3 e) (zj e (vI e Val.f1 zaT a_v.n) (zj e (za ty2 e) (zj e (vI e Val.f2 zbs a_v.b) (zj e (za ty22 e) (zd h fun y4 hy4 h=>zdu ?_ (rT e (zC _ zi2 fun b8=>zbG (zau) (rT e (tC (zbZ hy4) hT (s1 e) k0 (zj e (zaa (z:=((a_v.kind,a_v.n,y4,(TList.mk none ([]:(List Val))),(0:Int),([]:(List Raw))):(Int × Int × (List UInt8) × (TList Val) × Int × (List Raw)))) e bu26 zi2 (.cons zkZ zbu e hI (.cons zkI zaT e hI (.cons zlo zbs e hI .nil)))) (zbG (zau) (rT e (tS ty26 e e p2 (a_v.kind,a_v.n,y4,⟨none,[]⟩,0,[]) (z6 ?_)))))))))))))))))))))))))))))
 ·exact ws (oV (zaa (z:=(Val.mk (12:Int) (0:Int) ([]:(List UInt8)) ([]:(List Val)) (0:Int) ([]:(List Raw)))) e bu26 ze26 (.cons Val.f0 zbu e hI .nil)) (oT (tS ty26 e e p0 ⟨12,0,[],[],0,[]⟩ (rn (zaQ (zz (zf (.cell e .here ty26 .nil) k0 (iS h ▸ ⟨e,e⟩))))))))
 ·refine ss (oV (vI e Val.f3 zaL a_v.l) (oV (za ty23 e) (oV (vN e sl23) (om e (rn (zr (lP h Tok g2.2 (fun q11 g11=>[(21,isv q11.1)]) (fun q11 g11=>[boxE g2.1 ((q11.2.kind,q11.2.n,q11.2.b,(TList.mk g11 q11.2.l),q11.2.rule,q11.2.more):(Int × Int × (List UInt8) × (TList Val) × Int × (List Raw))),tokE g11]) (zB (j:=21) e hI zan) k2 fun L12 q11 g11 Q35 h hL12 eL12 rL12=>ws (oV (z7 e e) (rn (zE (ze h e (fun _ h=>?_) (fun _ h=>xn (eL12 _ _ (zw (zq (ws (oT (zaz (y:=((q11.2.kind,q11.2.n,q11.2.b,(TList.mk g11 q11.2.l),q11.2.rule,q11.2.more):(Int × Int × (List UInt8) × (TList Val) × Int × (List Raw)))) (R:=isv (((q11.2.kind,q11.2.n,q11.2.b,(TList.mk g11 q11.2.l),q11.2.rule,q11.2.more)):((Int × Int × (List UInt8) × (TList Val) × Int × (List Raw))))) ty26 e .here (by exact hI) (zI (zaA (R':=isv q11.2) 33 e (Cv.isv e fun S=>(fun cs h=>Cv.val cs (((Cv.pair Cv.id (Cv.pair Cv.id (Cv.pair Cv.id (Cv.pair Cv.tl (Cv.pair Cv.id Cv.id))))):Cv S ((q11.2.kind,q11.2.n,q11.2.b,(TList.mk g11 q11.2.l),q11.2.rule,q11.2.more):(Int × Int × (List UInt8) × (TList Val) × Int × (List Raw))) (Val.to q11.2)) cs h)))) (oT (tS ty26 e e p2 q11.2 (rn (zaQ (zf (.cell e .here ty26 .nil) k0 (iS h ▸ ⟨e,e⟩)))))))))))))))))))))))))
  refine wk (zE (zr (ws (zd h fun y24 hy24 h=>oV (vX e e sl23 hy24) (oV (za ty26 e) (oT (zC _ ze26 fun b25=>oT (tS ty26 e e p0 y24 (zI (z8 5 .here e) (rn (zH (.v 0 (.v 2 (.alt 1 (.t 3 (.t 4 (.t 5 (.v 6 (.t 7 .nil))))) (.t 3 (.alt 1 (.t 4 (.t 5 (.v 6 (.t 7 .nil)))) (.t 4 (.t 1 (.t 5 (.v 6 (.t 7 .nil)))))))))) moOrd (by kernel_rfl) (zj e (zV e zer zaL) (zj e (za ty26 e) (zd h fun y26 hy26 h=>zag h fun q29 h=>zy h fun q30 h=>zdu ?_ (rT e (tC (zj1 hy26) hT (s1 e) k0 (zdu ?_ (rT e (zN (l:=([y26]:(List Val))) el23 (.cons e hI .nil) e e (rT e (zaz (R:=appv g11 q11.2.l) ty23 e p0 isvT1 (rT e (za7 (l:=q11.2.l) (m:=([y26]:(List Val))) zjN e hI e zG (.there .here) q29 fun t34=>zj e (zV e zer zaL) (rT e (tR ty23 e e isvT2 p1 (q11.2.kind,q11.2.n,q11.2.b,⟨t34,(q11.2.l ++ ([y26]:(List Val)))⟩,q11.2.rule,q11.2.more) e (z6 (zx (zq (zm (oV (zX e e q30) ?_))))))))))))))))))))))))))))))
  ·exact rT e (zaz (R:=appv g11 q11.2.l) ty23 e p0 isvT1 (rT e (tC (zj1 hy26) hT (s1 e) k0 (rT e (zN (l:=([y26]:(List Val))) el23 (.cons e hI .nil) e e (rT e (za7 (l:=q11.2.l) (m:=([y26]:(List Val))) zjN e hI e zG (.there .here) q29 fun t28=>zj e (zV e zer zaL) (rT e (tR ty23 e e isvT2 p1 (q11.2.kind,q11.2.n,q11.2.b,⟨t28,(q11.2.l ++ ([y26]:(List Val)))⟩,q11.2.rule,q11.2.more) e (z6 (zx (zq (zm (oV (zX e e q30) (om e (zK (hL12 h t28 15)))))))))))))))))
  ·exact rT e (zaz (R:=appv g11 q11.2.l) ty23 e p0 isvT1 (rT e (zN (l:=([y26]:(List Val))) el23 (.cons e hI .nil) e e (rT e (za7 (l:=q11.2.l) (m:=([y26]:(List Val))) zjN e hI e zG (.there .here) q29 fun t32=>zj e (zV e zer zaL) (rT e (tR ty23 e e isvT2 p1 (q11.2.kind,q11.2.n,q11.2.b,⟨t32,(q11.2.l ++ ([y26]:(List Val)))⟩,q11.2.rule,q11.2.more) e (z6 (zx (zq (zm (oV (zX e e q30) (om e (zK (hL12 h t32 15)))))))))))))))
  exact om e (zK (hL12 h t34 15))
 ·exact rT e (tC (zbZ hy4) hT (s1 e) k0 (zj e (zaa (z:=((a_v.kind,a_v.n,y4,(TList.mk none ([]:(List Val))),(0:Int),([]:(List Raw))):(Int × Int × (List UInt8) × (TList Val) × Int × (List Raw)))) e bu26 zi2 (.cons zkZ zbu e hI (.cons zkI zaT e hI (.cons zlo zbs e hI .nil)))) (rT e (zC _ zi2 fun b5=>zbG (zau) (zbG (zau) (rT e (tS ty26 e e p2 (a_v.kind,a_v.n,y4,⟨none,[]⟩,0,[]) (z6 (hJ3 h (b5,none) 9)))))))))
 exact hJ3 h (b8,none) 9

theorem zhh:∀ n,zfR (zfV n)
  | 0=>fun h=>(by cases h)
  | n + 1=>zmn (zhh n)
theorem znj (n:Nat):zfR (zfV n):=(zhh n)

theorem ziN {a_s a_i a_k r} (h:zcq a_s a_i a_k=some r):Ctr Tryz.prog 42 [isv a_s,isv a_i,isv a_k] [] (Pt [isv r.1,isv r.2.1,isv r.2.2] []):=by
 unfold zcq at h
 refine zi Tryz.func42 e fun w0 S0 hT=>ws (oT (tB e (oT (zC _ ze82 fun b1=>oT (zC _ ze82 fun b2=>an e (ss (om e (oV (z7 e e) (om e (jO 7 18 h (fun q3 h=>?_) fun J4 h hJ4=>oI h (fun g5 h=>?_) fun g5 h=>oG g5 (zo e) (oG g5 (vI e GSid.f0 zon a_s.a) (oG g5 (vI e GTab.f3 zbb a_s.a.types) (oG g5 (za ty29 e) (oG g5 (vN e sl29) (oG g5 (zbF e e) (oV (zg e g5 e) (hJ4 h 7)))))))))))))))))
 ·refine om e (jO 3 22 h (fun q6 h=>?_) fun J7 h hJ7=>oI h (fun g8 h=>?_) fun g8 h=>oG g8 (zo e) (oG g8 (z7 e e) (oV (zg e g8 e) (hJ7 h 3))))
  ·refine om e (jO 7 30 h (fun q9 h=>?_) fun J10 h hJ10=>oI h (fun g11 h=>?_) fun g11 h=>oG g11 (zo e) (oG g11 (vI e GSid.f1 zor a_s.b) (oG g11 (vI e GTab.f3 zbb a_s.b.types) (oG g11 (za ty29 e) (oG g11 (vN e sl29) (oG g11 (zbF e e) (oV (zg e g11 e) (hJ10 h 7))))))))
   ·refine rn (ze h e (fun _ h=>?_) (fun _ h=>wk (zE (zH (.v 0 (.v 1 (.v 2 (.v 3 (.v 4 (.v 5 (.v 6 (.v 7 (.v 8 (.v 9 (.v 10 (.v 11 (.v 12 (.v 13 (.v 14 (.v 15 (.v 16 (.v 17 (.v 18 (.v 19 (.v 20 (.v 21 (.v 22 (.v 23 (.v 24 (.v 25 (.v 26 (.t 27 (.t 28 (.v 29 .nil)))))))))))))))))))))))))))))) moOrd (by kernel_rfl) (zj e (vI e GSid.f0 zon a_s.a) (zj e (vI e GTab.f3 zbb a_s.a.types) (zj e (za ty29 e) (rm e e (zd h fun y12 hy12 h=>zj e (vX e e sl29 hy12) (zj e (za ty82 e) (zj e (vI e GSid.f1 zor a_s.b) (zj e (vI e GTab.f3 zbb a_s.b.types) (zj e (za ty29 e) (rm e e (zd h fun y13 hy13 h=>zj e (vX e e sl29 hy13) (zj e (za ty82 e) (zj e (vI e GSid.f0 zon a_s.a) (zj e (vI e GTab.f3 zbb a_s.a.types) (zj e (za ty29 e) (rm e e (zd h fun y14 hy14 h=>zj e (vX e e sl29 hy14) (zj e (vI e GTyp.f0 zbf y14.kind) (zj e (za ty3 e) (zj e (vI e GSid.f1 zor a_s.b) (zj e (vI e GTab.f3 zbb a_s.b.types) (zj e (za ty29 e) ?_))))))))))))))))))))))))))
    ·exact ws (oV (zaa (z:=(GTyp.mk (0:Int) ([]:(List Tag)) (GCon.mk false false false false (0:Int) (0:Int)) ([]:(List GItem)) ([]:(List GFld)) (0:Int) false (0:Int))) e bu82 ze82 .nil) (oV (zaa (z:=(GTyp.mk (0:Int) ([]:(List Tag)) (GCon.mk false false false false (0:Int) (0:Int)) ([]:(List GItem)) ([]:(List GFld)) (0:Int) false (0:Int))) e bu82 ze82 .nil) (oT (tS ty82 e e p1 ⟨0,[],⟨false,false,false,false,0,0⟩,[],[],0,false,0⟩ (oT (tS ty82 e e p1 ⟨0,[],⟨false,false,false,false,0,0⟩,[],[],0,false,0⟩ (ar e (zz (zf (.cell e (.there .here) ty82 (.cell e .here ty82 (.tmp e .nil))) k0 (iS h ▸ ⟨e,e⟩))))))))))
    exact rm e e (zd h fun y15 hy15 h=>zj e (vX e e sl29 hy15) (zj e (vI e GTyp.f0 zbf y15.kind) (zj e (za ty3 e) (zj e (zD e e) (rT e (tS ty82 e e p1 y12 (rT e (tS ty82 e e p1 y13 (zj e (zaj e) (z6 (zq (zaQ (zf (.cell e (.there .here) ty82 (.cell e .here ty82 (.tmp e .nil))) k0 (iS h ▸ ⟨e,e⟩))))))))))))))
   exact oN g11 (oN g11 (oN g11 (oN g11 (oN g11 (oN g11 (oV (zh e g11 e) (hJ10 h 7)))))))
  exact oN g8 (oN g8 (oV (zh e g8 e) (hJ7 h 3)))
 exact oN g5 (oN g5 (oN g5 (oN g5 (oN g5 (oN g5 (oV (zh e g5 e) (hJ4 h 7)))))))

end Go.Proofs.Q


namespace Go.Proofs.Q
open Go.Sy
set_option maxRecDepth 4000
def zcl (f':GWlk→GTyp→GTyp→Val→Option ((List Val) × GWlk)):Prop :=
 ∀ {a_w_ a_x a_y a_v zfB r},f' a_w_ a_x a_y a_v=some r→Ctr Tryz.prog 44 [ptrv zfB (Fld.id GWlk),isv a_x,isv a_y,isv a_v] [boxE zfB (a_w_:GWlk)] (Pt1 (fun u1=>[vecv u1 ((r.1).length)]) fun u1=>[vecE u1 r.1,boxE zfB (r.2)])
def zbN (f':GWlk→Int→Int→Val→Option (Val × GWlk)):Prop :=
 ∀ {a_w_ a_i a_k a_v zfB r},f' a_w_ a_i a_k a_v=some r→Ctr Tryz.prog 21 [ptrv zfB (Fld.id GWlk),isv a_i,isv a_k,isv a_v] [boxE zfB (a_w_:GWlk)] (Pt [isv r.1] [boxE zfB (r.2)])
theorem zho {zaV zaH} (zeZ:zcl zaV) (zbQ:zbN zaH):zcl (zbl zaV zaH):=by
 intro a_w_ a_x a_y a_v zfB r h
 unfold zbl at h
 refine zi Tryz.func44 e fun w0 S0 hT=>ws (oT (tB e (oT (tB e (oT (tB e (oa e (zI (zee (α:=Val)) (zI (zaA 8 e nilvV) (rn (ss (oV (vI e GTyp.f4 zas a_x.fields) (oV (za ty80 e) (oV (vN e sl80) (oV (vI e GTyp.f4 zas a_y.fields) (oV (za ty80 e) (oV (vN e sl80) (oV (zaC e e) (om e (jO 9 28 h (fun q2 h=>?_) fun J3 h hJ3=>oI h (fun g4 h=>?_) fun g4 h=>oN g4 (oN g4 (oN g4 (oN g4 (oU (oU (oU (oN g4 (oV (zg e g4 e) (hJ3 h 9)))))))))))))))))))))))))))))
 ·refine rn (ze h e (fun _ h=>?_) (fun _ h=>wk (ws (oV (vI e GTyp.f4 zas a_y.fields) (oV (za ty80 e) (oV (vN e sl80) (zad h fun q9 h=>oT (zrJ el23 ze26 Tryz.underlying23 e e q9.1 e q9.2 fun v10=>an e (ss (oV (vI e GTyp.f4 zas a_y.fields) (oV (za ty80 e) (oV (vN e sl80) (om e (rn (zr (lP h Unit () (fun q11 g11=>[(39,isv q11.2.1),(9,vecv v10 (q11.1.length))]) (fun q11 g11=>[vecE v10 q11.1,boxE zfB (q11.2.2:GWlk)]) (zB (j:=39) e hI (zB (j:=9) e (vecvE (by first | rfl | simp)) zan)) (a0 (a1 k0)) fun L12 q11 g11 Q43 h hL12 eL12 rL12=>ws (oV (z7 e e) (rn (zE (ze h e (fun _ h=>?_) (fun _ h=>xn (eL12 _ _ (zw (zq (ws (om e (ar e ?_)))))))))))))))))))))))))))
  ·refine ws (om e (oV (zs e) (oV (zV e GWlk.f1 zoq) (oT (tS ty38 e e p1 ({ a_w_ with e:=14 }) (rn (ws (oa e (zI (zee (α:=Val)) (zI (zaA 8 e nilvV) (rn (zaQ (zz (zf (.as e (vecvE (by first | rfl | simp)) .nil) k2 ?_))))))))))))))
   exact iS h ▸ ⟨none,e,e⟩
  ·refine wk (zE (jw h Unit (fun q28 g28=>[(9,vecv v10 (q28.1.length))]) (fun q28 g28=>[vecE v10 q28.1,boxE zfB (q28.2:GWlk)]) k2 (fun q28 g28 h=>?_) fun J29 h hJ29=>zr (ws (om e (zd h fun y30 hy30 h=>oV (vX e e sl80 hy30) (oV (za ty88 e) (oT (zC _ ze88 fun b31=>oa e (oT (tS ty88 e e p0 y30 (zI (z8 11 .here e) (rn (ws (om e (oV (vI e GTyp.f4 zas a_x.fields) (oV (za ty80 e) (oV (vN e sl80) (oV (z7 e e) (om e (jO 8 57 h (fun q32 h=>?_) fun J33 h hJ33=>oI h (fun g34 h=>?_) fun g34 h=>oN g34 (oN g34 (oN g34 (oN g34 (oN g34 (oN g34 (oN g34 ?_))))))))))))))))))))))))))
   ·exact zm (zy h fun q42 h=>oV (zX e e q42) (om e (zK (hL12 h () 6))))
   ·refine rn (ze h e (fun _ h=>?_) (fun _ h=>zJ (zx (hJ29 h () 13))))
    exact zH (.v 0 (.v 1 (.v 2 (.v 3 (.v 4 (.v 5 (.v 6 (.v 7 (.v 8 (.v 9 (.v 10 (.v 11 (.v 12 (.v 13 (.v 14 (.v 15 (.t 16 (.v 17 (.t 18 .nil))))))))))))))))))) moOrd (by kernel_rfl) (rm e e (rm e e (rm e e (zj e (vI e GTyp.f4 zas a_x.fields) (zj e (za ty80 e) (rm e e (zd h fun y37 hy37 h=>zj e (vX e e sl80 hy37) (zj e (vI e GFld.f1 zcf y37.ty) (zj e (za ty3 e) (zj e (vI e GFld.f1 zcf y30.ty) (zj e (za ty3 e) (zj e (vI e Val.f3 zaL a_v.l) (zj e (za ty23 e) (rm e e (zd h fun y38 hy38 h=>zj e (vX e e sl23 hy38) (zj e (za ty26 e) (zd h fun y39 hy39 h=>rT e (tC (zbQ hy39) hT (s4 e e e e) (a1 k0) (zad h fun q40 h=>zj e (zco (α:=Val) sl23 e e q40.1 q40.2) (zd h fun y41 hy41 h=>rT e (zfc ty26 e e (.there .here) hy41 (z6 (zx (hJ29 h () 31))))))))))))))))))))))))
   ·exact oG g34 (vI e Val.f3 zaL a_v.l) (oG g34 (za ty23 e) (oG g34 (zo e) (zd h fun y35 hy35 h=>oG g34 (vX e e sl23 hy35) (oG g34 (za ty26 e) (zd h fun y36 hy36 h=>oH g34 (tC (zg1 hy36) hT (s1 e) k0 (oG g34 (zal e) (oV (zh e g34 e) (hJ33 h 8)))))))))
   exact oV (zg e g34 e) (hJ33 h 8)
  refine zf (.as e (vecvE (by first | rfl | simp)) .nil) k2 ?_
  exact iS h ▸ ⟨v10,e,e⟩
 refine oG g4 (vI e GTyp.f6 zfk a_x.more) (oG g4 (za ty4 e) (oG g4 (zal e) (oG g4 (zo e) (jO 4 27 h (fun q5 h=>?_) fun J6 h hJ6=>oI h (fun g7 h=>?_) fun g7 h=>oG g7 (vI e GTyp.f6 zfk a_y.more) (oG g7 (za ty4 e) (oG g7 (zal e) (oG g4 (zg e g7 e) (hJ6 h 4))))))))
 ·exact oV (zh e g4 e) (hJ3 h 6)
 exact oN g7 (oN g7 (oN g7 (oG g4 (zh e g7 e) (hJ6 h 4))))

theorem zhR {zaV zaH} (zeZ:zcl zaV) (zbQ:zbN zaH):zbN (zbP zaV zaH):=by
 intro a_w_ a_i a_k a_v zfB r h
 unfold zbP at h
 refine zi Tryz.func21 e fun w0 S0 hT=>ws (oT (tB e (oT (zC _ ze26 fun b1=>rn (ws (oV (zaa (z:=(Val.mk (12:Int) (0:Int) ([]:(List UInt8)) ([]:(List Val)) (0:Int) ([]:(List Raw)))) e bu26 ze26 (.cons Val.f0 zbu e hI .nil)) (oT (zC _ ze26 fun b2=>oT (tS ty26 e e p0 ⟨12,0,[],[],0,[]⟩ (zI (z8 9 .here e) (rn (ss (oV (vI e Val.f0 zbu a_v.kind) (oV (za ty3 e) (oV (zD e e) (rn (ze h e (fun _ h=>?_) (fun _ h=>wk (ws (om e (oV (zs e) (oV (zV e GWlk.f0 zsz) (oT (tL ty58 e p1 a_w_.sides (om e (om e (zd h fun y3 hy3 h=>oT (tC (ziN hy3) hT (s3 e e e) k0 (om e (oV (zA e e) (oV (zA e e) ?_)))))))))))))))))))))))))))))))
 ·exact ws (oV (za ty26 e) (oT (tS ty26 e e p0 ⟨12,0,[],[],0,[]⟩ (rn (zaQ (zz (zf (.cell e .here ty26 .nil) (a1 k0) (iS h ▸ ⟨e,e⟩))))))))
 refine oV (zA e e) (oT (zC _ ze82 fun b4=>oT (zC _ ze82 fun b5=>oT (tS ty82 e e p1 y3.1 (zI (z8 10 .here e) (oT (tS ty82 e e p0 y3.2.1 (zI (z8 11 .here e) (an e (ss (om e (oV (zal e) (rn (ze h e (fun _ h=>?_) (fun _ h=>wk (zE (jw h (Nat × Tok) (fun q6 g6=>[(13,ptrv g6.1 (Fld.id (Int × Int × (List UInt8) × (TList Val) × Int × (List Raw))))]) (fun q6 g6=>[boxE g6.1 ((q6.kind,q6.n,q6.b,(TList.mk g6.2 q6.l),q6.rule,q6.more):(Int × Int × (List UInt8) × (TList Val) × Int × (List Raw))),tokE g6.2]) k0 (fun q6 g6 h=>?_) fun J7 h hJ7=>zH (.v 0 (.v 1 (.v 2 (.v 3 (.v 4 (.v 5 (.alt 6 (.v 7 (.t 8 (.t 9 .nil))) (.t 8 (.t 6 (.v 7 (.t 9 .nil))))))))))) moOrd (by kernel_rfl) (zj e (vI e Val.f0 zbu a_v.kind) (zj e (za ty3 e) (zj e (vI e Val.f1 zaT a_v.n) (zj e (za ty2 e) (zj e (vI e Val.f2 zbs a_v.b) (zj e (za ty22 e) (zd h fun y8 hy8 h=>zdu ?_ (rT e (zC _ zi2 fun b12=>zbG (zau) (rT e (tC (zbZ hy8) hT (s1 e) k0 (zj e (zaa (z:=((a_v.kind,a_v.n,y8,(TList.mk none ([]:(List Val))),(0:Int),([]:(List Raw))):(Int × Int × (List UInt8) × (TList Val) × Int × (List Raw)))) e bu26 zi2 (.cons zkZ zbu e hI (.cons zkI zaT e hI (.cons zlo zbs e hI .nil)))) (zbG (zau) ?_))))))))))))))))))))))))))))))
 ·exact ws (om e (oV (zs e) (oV (zV e GWlk.f1 zoq) (oT (tS ty38 e e p1 ({ a_w_ with e:=14 }) (rn (ws (oV (zaa (z:=(Val.mk (0:Int) (0:Int) ([]:(List UInt8)) ([]:(List Val)) (0:Int) ([]:(List Raw)))) e bu26 ze26 .nil) (oT (tS ty26 e e p1 ⟨0,0,[],[],0,[]⟩ (rn (zaQ (zz (zf (.cell e .here ty26 .nil) (a1 k0) (iS h ▸ ⟨e,e⟩)))))))))))))))
 ·refine ss (oV (vI e Val.f0 zbu a_v.kind) (oV (za ty3 e) (rn (jw h Tok (fun q15 g15=>[]) (fun q15 g15=>[boxE g6.1 ((q15.1.kind,q15.1.n,q15.1.b,(TList.mk g15 q15.1.l),q15.1.rule,q15.1.more):(Int × Int × (List UInt8) × (TList Val) × Int × (List Raw))),tokE g15,boxE zfB (q15.2:GWlk)]) (a0 (a2 k1)) (fun q15 g15 h=>?_) fun J16 h hJ16=>zr (ws (oV (zD e e) (an e (ze h e (fun _ h=>?_) (fun _ h=>ws (oV (zD e e) (an e (ze h e (fun _ h=>?_) (fun _ h=>ws (oV (zD e e) (an e (ze h e (fun _ h=>?_) (fun _ h=>ss (oV (zD e e) (an e (jW 109 h (fun q48 h=>?_) fun J49 h hJ49=>ze h e (fun _ h=>?_) (fun _ h=>zm (oV (zD e e) (oa e (zK (hJ49 h 2)))))))))))))))))))))))))
  ·exact ws (oT (zaz (y:=((q15.1.kind,q15.1.n,q15.1.b,(TList.mk g15 q15.1.l),q15.1.rule,q15.1.more):(Int × Int × (List UInt8) × (TList Val) × Int × (List Raw)))) (R:=isv (((q15.1.kind,q15.1.n,q15.1.b,(TList.mk g15 q15.1.l),q15.1.rule,q15.1.more)):((Int × Int × (List UInt8) × (TList Val) × Int × (List Raw))))) ty26 e .here (by exact hI) (zI (zaA (R':=isv q15.1) 118 e (Cv.isv e fun S=>(fun cs h=>Cv.val cs (((Cv.pair Cv.id (Cv.pair Cv.id (Cv.pair Cv.id (Cv.pair Cv.tl (Cv.pair Cv.id Cv.id))))):Cv S ((q15.1.kind,q15.1.n,q15.1.b,(TList.mk g15 q15.1.l),q15.1.rule,q15.1.more):(Int × Int × (List UInt8) × (TList Val) × Int × (List Raw))) (Val.to q15.1)) cs h)))) (oT (tS ty26 e e p3 q15.1 (rn (zaQ (zf (.cell e .here ty26 .nil) (a3 k0) (iS h ▸ ⟨e,e⟩)))))))))
  ·refine ws (oV (za ty82 e) (oV (vI e Val.f1 zaT a_v.n) (oV (za ty2 e) (zd h fun y17 hy17 h=>oT (tC (zh7 hy17) hT (s2 e e) k0 (oV (z7 e e) (rn (ze h e (fun _ h=>?_) (fun _ h=>zJ (zx (hJ16 h g6.2 7)))))))))))
   exact ws (oV (za ty26 e) (oT (tS ty26 e e p2 ⟨12,0,[],[],0,[]⟩ (rn (zaQ (bn (zf (.cell e .here ty26 .nil) (a3 k0) (iS h ▸ ⟨e,e⟩))))))))
  ·refine ws (oV (vI e Val.f3 zaL a_v.l) (oV (za ty23 e) (oV (vN e sl23) (om e (rn (zr (lP h Tok g6.2 (fun q18 g18=>[(61,isv q18.1)]) (fun q18 g18=>[boxE g6.1 ((q18.2.1.kind,q18.2.1.n,q18.2.1.b,(TList.mk g18 q18.2.1.l),q18.2.1.rule,q18.2.1.more):(Int × Int × (List UInt8) × (TList Val) × Int × (List Raw))),tokE g18,boxE zfB (q18.2.2:GWlk)]) (zB (j:=61) e hI zan) (a0 (a0 (a1 k0))) fun L19 q18 g18 Q42 h hL19 eL19 rL19=>ws (oV (z7 e e) (rn (zE (ze h e (fun _ h=>?_) (fun _ h=>xn (eL19 _ _ (zw (zx (hJ16 h g18 10))))))))))))))))
   refine wk (zE (zr (ws (zd h fun y31 hy31 h=>oV (vX e e sl23 hy31) (oV (za ty26 e) (oT (zC _ ze26 fun b32=>oT (tS ty26 e e p0 y31 (zI (z8 15 .here e) (rn (zH (.v 0 (.v 2 (.v 3 (.v 4 (.v 5 (.v 6 (.v 7 (.alt 1 (.t 8 (.t 9 (.t 10 (.v 11 (.t 12 .nil))))) (.t 8 (.alt 1 (.t 9 (.t 10 (.v 11 (.t 12 .nil)))) (.t 9 (.t 1 (.t 10 (.v 11 (.t 12 .nil))))))))))))))) moOrd (by kernel_rfl) (zj e (zV e zer zaL) (rm e e (zj e (vI e GTyp.f7 zku y3.1.of) (zj e (za ty3 e) (zj e (vI e GTyp.f7 zku y3.2.1.of) (zj e (za ty3 e) (zj e (za ty26 e) (zd h fun y33 hy33 h=>zag h fun q36 h=>zy h fun q37 h=>zdu ?_ (rT e (tC (zbQ hy33) hT (s4 e e e e) (a2 k0) (zdu ?_ (rT e (zN (l:=([y33.1]:(List Val))) el23 (.cons e hI .nil) e e (rT e (zaz (R:=appv g18 q18.2.1.l) ty23 e p1 isvT1 (rT e (za7 (l:=q18.2.1.l) (m:=([y33.1]:(List Val))) zjN e hI e zG (.there (.there .here)) q36 fun t41=>zj e (zV e zer zaL) (rT e (tR ty23 e e isvT2 p2 (q18.2.1.kind,q18.2.1.n,q18.2.1.b,⟨t41,(q18.2.1.l ++ ([y33.1]:(List Val)))⟩,q18.2.1.rule,q18.2.1.more) e ?_))))))))))))))))))))))))))))))
   ·exact rT e (zaz (R:=appv g18 q18.2.1.l) ty23 e p0 isvT1 (rT e (tC (zbQ hy33) hT (s4 e e e e) (a2 k0) (rT e (zN (l:=([y33.1]:(List Val))) el23 (.cons e hI .nil) e e (rT e (za7 (l:=q18.2.1.l) (m:=([y33.1]:(List Val))) zjN e hI e zG (.there (.there .here)) q36 fun t35=>zj e (zV e zer zaL) (rT e (tR ty23 e e isvT2 p2 (q18.2.1.kind,q18.2.1.n,q18.2.1.b,⟨t35,(q18.2.1.l ++ ([y33.1]:(List Val)))⟩,q18.2.1.rule,q18.2.1.more) e (z6 (zx (zq (zm (oV (zX e e q37) (om e (zK (hL19 h t35 20)))))))))))))))))
   ·exact rT e (zaz (R:=appv g18 q18.2.1.l) ty23 e p1 isvT1 (rT e (zN (l:=([y33.1]:(List Val))) el23 (.cons e hI .nil) e e (rT e (za7 (l:=q18.2.1.l) (m:=([y33.1]:(List Val))) zjN e hI e zG (.there (.there .here)) q36 fun t39=>zj e (zV e zer zaL) (rT e (tR ty23 e e isvT2 p2 (q18.2.1.kind,q18.2.1.n,q18.2.1.b,⟨t39,(q18.2.1.l ++ ([y33.1]:(List Val)))⟩,q18.2.1.rule,q18.2.1.more) e (z6 (zx (zq (zm (oV (zX e e q37) (om e (zK (hL19 h t39 20)))))))))))))))
   exact z6 (zx (zq (zm (oV (zX e e q37) (om e (zK (hL19 h t41 20)))))))
  ·refine ss (oV (vI e Val.f1 zaT a_v.n) (oV (za ty2 e) (oV (vI e GTyp.f4 zas y3.2.1.fields) (oV (za ty80 e) (oV (vN e sl80) (oV (zbF e e) (rn (ze h e (fun _ h=>?_) (fun _ h=>wk (zH (.v 0 (.v 1 (.v 2 (.v 3 (.v 4 (.v 5 (.v 6 (.v 7 (.v 8 (.v 9 (.v 10 (.v 11 (.v 12 (.v 13 (.v 14 (.v 15 (.v 16 (.v 17 (.v 18 (.t 19 (.t 20 (.v 21 (.t 22 .nil))))))))))))))))))))))) moOrd (by kernel_rfl) (rm e e (zj e (vI e GTyp.f4 zas y3.1.fields) (zj e (za ty80 e) (zj e (vI e Val.f1 zaT a_v.n) (zj e (za ty2 e) (zd h fun y43 hy43 h=>zj e (vX e e sl80 hy43) (zj e (vI e GFld.f1 zcf y43.ty) (zj e (za ty3 e) (zj e (vI e GTyp.f4 zas y3.2.1.fields) (zj e (za ty80 e) (zj e (vI e Val.f1 zaT a_v.n) (zj e (za ty2 e) (zd h fun y44 hy44 h=>zj e (vX e e sl80 hy44) (zj e (vI e GFld.f1 zcf y44.ty) (zj e (za ty3 e) (zj e (vI e Val.f3 zaL a_v.l) (zj e (za ty23 e) ?_)))))))))))))))))))))))))))
   ·exact ws (oV (za ty26 e) (oT (tS ty26 e e p2 ⟨12,0,[],[],0,[]⟩ (rn (zaQ (zz (bn (zf (.cell e .here ty26 .nil) (a3 k0) (iS h ▸ ⟨e,e⟩)))))))))
   exact zd h fun y45 hy45 h=>zj e (vX e e sl23 hy45) (zj e (za ty26 e) (zd h fun y46 hy46 h=>rT e (tC (zbQ hy46) hT (s4 e e e e) (a3 k0) (rT e (zN (l:=([y46.1]:(List Val))) el23 (.cons e hI .nil) e e (zj e (zV e zer zaL) (zbG (zau) (rT e (tR ty23 e e isvT2 p2 (q6.kind,q6.n,q6.b,⟨none,([y46.1]:(List Val))⟩,q6.rule,q6.more) e (z6 (zx (hJ16 h none 34))))))))))))
  ·refine ze h e (fun _ h=>?_) (fun _ h=>zJ (zx (hJ16 h g6.2 9)))
   exact zm (om e (oV (za ty82 e) (oV (za ty82 e) (oV (za ty26 e) (zd h fun y50 hy50 h=>oT (tC1 (zeZ hy50) hT (s4 e e e e) (a3 k0) (fun v51=>oV (zV e zer zaL) (zI (zsq 116 .here e (by first | rfl | simp)) (oT (tR ty23 e e isvT2 p2 (q6.kind,q6.n,q6.b,⟨(vtok (Rep.n Val) v51 (y50.1).length),y50.1⟩,q6.rule,q6.more) e (rb (hJ16 h (vtok (Rep.n Val) v51 (y50.1).length) 16))))))))))))
  exact zJ (hJ49 h 0)
 ·exact rT e (tC (zbZ hy8) hT (s1 e) k0 (zj e (zaa (z:=((a_v.kind,a_v.n,y8,(TList.mk none ([]:(List Val))),(0:Int),([]:(List Raw))):(Int × Int × (List UInt8) × (TList Val) × Int × (List Raw)))) e bu26 zi2 (.cons zkZ zbu e hI (.cons zkI zaT e hI (.cons zlo zbs e hI .nil)))) (rT e (zC _ zi2 fun b9=>zbG (zau) (zbG (zau) (rT e (tS ty26 e e p2 (a_v.kind,a_v.n,y8,⟨none,[]⟩,0,[]) (z6 (hJ7 h (b9,none) 9)))))))))
 exact rT e (tS ty26 e e p2 (a_v.kind,a_v.n,y8,⟨none,[]⟩,0,[]) (z6 (hJ7 h (b12,none) 9)))

theorem zdK:∀ n,zcl (zcG n)∧zbN (zbo n)
  | 0=>⟨fun h=>(by cases h),fun h=>(by cases h)⟩
  | n + 1=>by
    obtain ⟨h0,h1⟩:=zdK n
    exact ⟨zho h0 h1,zhR h0 h1⟩
theorem zit (n:Nat):zbN (zbo n):=(zdK n).2

theorem zez {a_a a_i a_b a_k a_v r} (h:zb7 a_a a_i a_b a_k a_v=some r):Ctr Tryz.prog 9 [isv a_a,isv a_i,isv a_b,isv a_k,isv a_v] [] (Pt [isv r.1,isv r.2] []):=by
 unfold zb7 at h
 refine zi Tryz.func9 e fun w0 S0 hT=>ws (oT (tB e (oT (tB e (oT (tB e (oT (zC _ ze26 fun b1=>an e (zE (zE (zH (.v 0 (.v 1 (.v 2 (.t 3 (.v 4 (.v 5 (.v 6 (.v 8 (.t 7 (.t 9 (.v 10 (.v 11 .nil)))))))))))) moOrd (by kernel_rfl) (zj e (za ty31 e) (rm e e (zj e (za ty26 e) (zd h fun y2 hy2 h=>rT e (tC (zly hy2) hT (s3 e e e) k0 (zj e (zal e) (rm e e (jD 6 25 h (fun q3 h=>?_) fun J4 h hJ4=>rJ h (fun g5 h=>?_) fun g5 h=>rG e g5 (za ty26 e) (rG e g5 (za ty26 e) (zd h fun y6 hy6 h=>rH e g5 (tC (znj fuel hy6) hT (s1 e) k0 (zd h fun y7 hy7 h=>rH e g5 (tC (zlc fuel hy7) hT (s2 e e) k0 (rG e g5 (zal e) (zj e (zg e g5 e) (hJ4 h 6)))))))))))))))))))))))))))
 ·refine z6 (zq (ze h e (fun _ h=>?_) (fun _ h=>wk (ws (oV (za ty31 e) (oV (za ty31 e) (oV (zaa (z:=(GSid.mk a_a a_b)) e bu58 ze58 (.cons GSid.f0 zon e hI (.cons GSid.f1 zor e hI .nil))) (oV (zaa (z:=(GWlk.mk (GSid.mk a_a a_b) (0:Int))) e bu60 ze60 (.cons GWlk.f0 zsz e hI .nil)) (oT (zlL (y:=(GWlk.mk (GSid.mk a_a a_b) (0:Int))) e hI fun b8=>an e (ws (om e (om e (om e (oV (za ty26 e) (zd h fun y9 hy9 h=>oT (tC (zit fuel hy9) hT (s4 e e e e) k1 (oT (zC _ ze26 fun b10=>oT (tS ty26 e e p0 y9.1 (zI (z8 13 .here e) (rn (ss (om e (oV (zs e) (oV (zV e GWlk.f1 zoq) (oT (tL ty38 e p0 y9.2.e (oV (zaC e e) (rn (ze h e (fun _ h=>?_) (fun _ h=>?_))))))))))))))))))))))))))))))))
  ·exact ws (oV (zaa (z:=(Val.mk (0:Int) (0:Int) ([]:(List UInt8)) ([]:(List Val)) (0:Int) ([]:(List Raw)))) e bu26 ze26 .nil) (oT (tS ty26 e e p0 ⟨0,0,[],[],0,[]⟩ (ar e (zz (zf (.cell e .here ty26 (.tmp e .nil)) k0 (iS h ▸ ⟨e,e⟩)))))))
  ·exact zE (zdH 12 .here e (fun o11 hn12=>zH (.v 0 (.v 1 (.v 2 (.v 3 (.v 4 (.t 5 (.v 6 .nil))))))) moOrd (by kernel_rfl) (zj e (zaa (z:=(Val.mk (0:Int) (0:Int) ([]:(List UInt8)) ([]:(List Val)) (0:Int) ([]:(List Raw)))) e bu26 ze26 .nil) (rm e e (zj e (zbA e) (zj e (zhl e GWlk.f1 zoq) (zj e (vP ty38 e m0 y9.2.e) (rT e (tS ty26 e e p0 ⟨0,0,[],[],0,[]⟩ (zj e (zaj e) (z6 (zaZ 12 hn12 e (zq (zaQ (zz (zf (.cell e (.there .here) ty26 (.tmp e .nil)) k0 (iS h ▸ ⟨e,e⟩)))))))))))))))))
  exact wk (ws (oV (za ty26 e) (oT (tS ty26 e e p1 y9.1 (ar e (zf (.cell e .here ty26 (.tmp e .nil)) k0 (iS h ▸ ⟨e,e⟩)))))))
 exact rP e g5 (rP e g5 (zcO e e (dj:=19) e g5 (zcO e e (dj:=19) e g5 (rP e g5 (zj e (zh e g5 e) (hJ4 h 6))))))


theorem zj6:∀  {r:Bool},zd4 =some r→Ctr Tryz.prog 8 [] [] (fun R H=>R=oneOf [isv (r)]∧H=[]):=by
 intro  r h
 unfold zd4 at h
 refine zi Tryz.func8 e fun w0 S0 hT=>ws (an e (ws (zd h fun y1 hy1 h=>oT (tC (ze2 hy1) hT (s1 e) k0 (om e (oV (zA e e) (oV (zA e e) (oT (zC _ ze31 fun b2=>oT (tS ty31 e e p0 y1.1 (zI (z8 1 .here e) (an e (ws (oV (za ty31 e) (oV (za ty31 e) (oV (zaa (z:=(Val.mk (2:Int) (5:Int) ([]:(List UInt8)) ([]:(List Val)) (0:Int) ([]:(List Raw)))) e bu26 ze26 (.cons Val.f0 zbu e hI (.cons Val.f1 zaT e hI .nil))) (zd h fun y3 hy3 h=>oT (tC (zez hy3) hT (.same e (.same e (.same e (.same e (.same e .nil))))) k0 (om e (oV (zA e e) (oV (zA e e) (oT (zC _ ze26 fun b4=>oT (tS ty26 e e p0 y3.1 (zI (z8 3 .here e) (an e (ws (om e (om e (jO 3 20 h (fun q5 h=>?_) fun J6 h hJ6=>?_))))))))))))))))))))))))))))))
 ·refine om e (jO 4 25 h (fun q8 h=>?_) fun J9 h hJ9=>oI h (fun g10 h=>?_) fun g10 h=>oN g10 (oN g10 (oN g10 (oV (zg e g10 e) (hJ9 h 4)))))
  ·exact ar e (zf (r1 e) k0 (iS h ▸ ⟨e,e⟩))
  exact oG g10 (vI e Val.f1 zaT y3.1.n) (oG g10 (za ty2 e) (oG g10 (zD e e) (oV (zh e g10 e) (hJ9 h 4))))
 refine oI h (fun g7 h=>?_) fun g7 h=>oN g7 (oN g7 (oV (zg e g7 e) (hJ6 h 3)))
 exact oG g7 (zo e) (oG g7 (zD e e) (oV (zh e g7 e) (hJ6 h 3)))


theorem zjX {zgn zft zcP a_v r} (h:zdJ zgn zft zcP a_v=some r):Ctr Tryz.prog 3 [isv zgn,isv zft,isv zcP,isv a_v] [] (Pt [isv r] []):=by
 unfold zdJ at h
 refine zi Tryz.func3 e fun w0 S0 hT=>ws (oT (tB e (an e (ws (om e (om e (om e (zd h fun y1 hy1 h=>oT (tC (zlQ hy1) hT (s3 e e e) k0 (om e (oV (zA e e) (oV (zA e e) (oV (zA e e) (oV (zA e e) (oV (zA e e) (oT (zC _ ze31 fun b2=>oT (zC _ ze31 fun b3=>oT (tS ty31 e e p1 y1.1 (zI (z8 9 .here e) (oa e (oT (tS ty31 e e p0 y1.2.2.1 (zI (z8 11 .here e) (oa e (an e (ss (om e (oV (zal e) (om e (jO 4 36 h (fun q4 h=>?_) fun J5 h hJ5=>?_)))))))))))))))))))))))))))))))
 ·refine om e (jO 6 43 h (fun q8 h=>?_) fun J9 h hJ9=>oI h (fun g10 h=>?_) fun g10 h=>oG g10 (za ty31 e) (oG g10 (zo e) (oG g10 (za ty26 e) (zd h fun y11 hy11 h=>oH g10 (tC (zpM hy11) hT (s3 e e e) k0 (oG g10 (zal e) (oV (zg e g10 e) (hJ9 h 6))))))))
  ·refine om e (jO 4 48 h (fun q12 h=>?_) fun J13 h hJ13=>oI h (fun g14 h=>?_) fun g14 h=>oG g14 (za ty26 e) (zd h fun y15 hy15 h=>oH g14 (tC (zpH fuel hy15) hT (s1 e) k0 (oG g14 (zal e) (oV (zg e g14 e) (hJ13 h 4))))))
   ·refine rn (ze h e (fun _ h=>?_) (fun _ h=>wk (ws (oV (za ty31 e) (om e (oV (za ty31 e) (om e (oV (za ty26 e) (zd h fun y17 hy17 h=>oT (tC (zez hy17) hT (.same e (.same e (.same e (.same e (.same e .nil))))) k0 (om e (oV (zA e e) (oV (zA e e) (oT (zC _ ze26 fun b18=>oT (tS ty26 e e p0 y17.1 (zI (z8 14 .here e) (an e (ss (zd h fun y19 hy19 h=>oT (tC (zj6 hy19) hT .nil k0 (oV (zal e) (om e (jO 3 64 h (fun q20 h=>?_) fun J21 h hJ21=>oI h (fun g22 h=>?_) fun g22 h=>oG g22 (zo e) (oG g22 (zaC e e) (oV (zg e g22 e) (hJ21 h 3)))))))))))))))))))))))))))
    ·exact ws (zd h fun y16 hy16 h=>oT (tC (zj6 hy16) hT .nil k0 (ar e (zz (zf (r1 e) k0 (iS h ▸ ⟨e,e⟩))))))
    ·refine rn (ze h e (fun _ h=>?_) (fun _ h=>wk (ws (oV (za ty31 e) (om e (oV (za ty31 e) (om e (oV (za ty26 e) (zd h fun y23 hy23 h=>oT (tC (zez hy23) hT (.same e (.same e (.same e (.same e (.same e .nil))))) k0 (om e (oV (zA e e) (oV (zA e e) (oT (zC _ ze26 fun b24=>oT (tS ty26 e e p0 y23.1 (zI (z8 16 .here e) (an e (ws (oV (za ty31 e) (om e (oV (za ty31 e) (om e (oV (za ty26 e) (zd h fun y25 hy25 h=>oT (tC (zez hy25) hT (.same e (.same e (.same e (.same e (.same e .nil))))) k0 (om e (oV (zA e e) (oV (zA e e) (oT (zC _ ze26 fun b26=>?_)))))))))))))))))))))))))))))))
     ·exact ws (ar e (zz (zf (r1 e) k0 (iS h ▸ ⟨e,e⟩))))
     refine oT (tS ty26 e e p0 y25.1 (zI (z8 18 .here e) (an e (ws (om e (oV (zD e e) (om e (jO 3 88 h (fun q27 h=>?_) fun J28 h hJ28=>oI h (fun g29 h=>?_) fun g29 h=>oN g29 (oN g29 (oV (zg e g29 e) (hJ28 h 3)))))))))))
     ·refine om e (jO 4 93 h (fun q30 h=>?_) fun J31 h hJ31=>oI h (fun g32 h=>?_) fun g32 h=>oN g32 (oN g32 (oN g32 (oV (zg e g32 e) (hJ31 h 4)))))
      ·exact ar e (zf (r1 e) k0 (iS h ▸ ⟨e,e⟩))
      exact oG g32 (za ty26 e) (oG g32 (za ty26 e) (zd h fun y33 hy33 h=>oH g32 (tC (zjw fuel hy33) hT (s2 e e) k0 (oV (zh e g32 e) (hJ31 h 4)))))
     exact oG g29 (zo e) (oG g29 (zD e e) (oV (zh e g29 e) (hJ28 h 3)))
    exact oN g22 (oN g22 (oV (zh e g22 e) (hJ21 h 3)))
   exact oN g14 (oN g14 (oN g14 (oV (zh e g14 e) (hJ13 h 4))))
  exact oN g10 (oN g10 (oN g10 (oN g10 (oN g10 (oV (zh e g10 e) (hJ9 h 6))))))
 refine oI h (fun g6 h=>?_) fun g6 h=>oG g6 (za ty26 e) (zd h fun y7 hy7 h=>oH g6 (tC (zr0 hy7) hT (s2 e e) k0 (oG g6 (zal e) (oV (zg e g6 e) (hJ5 h 4)))))
 exact oN g6 (oN g6 (oN g6 (oV (zh e g6 e) (hJ5 h 4))))

end Go.Proofs.Q

