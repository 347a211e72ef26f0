/- Walks, printed by mill.py. -/
import Derived.Test.YtmahnaanhhojkaaGreatDoorNmA
import Derived.Test.YtmahnaanhhojkaaGreatDoorNmB
import Derived.Test.YtmahnaanhhojkaaGreatDoorNmC
import Derived.Test.YtmahnaanhhojkaaGreatDoorNmD
import Derived.Test.YtmahnaanhhojkaaGreatDoorNmE
set_option linter.unusedVariables false
set_option linter.unusedSimpArgs false

namespace Go.Proofs.Q
open Go.Sy
set_option maxRecDepth 4000
theorem zkZ {a_b r} (h:zgw a_b=some r):Ctr Tryz.prog 250 [isv a_b] [] (Pt [isv r.1,isv r.2.1,isv r.2.2] []):=by
 unfold zgw at h
 refine zi Tryz.func250 e λw0 S0 hT=>ws (oa e (oa e (an e (ws (an e (ss (om e (oV (vN e sl22) (om e (rn (zn (lP h Unit () (λq1 g1=>[(5,isv q1.1),(10,isv q1.2)]) (λq1 g1=>[]) (zB (j:=5) e hI (zB (j:=10) e hI zay)) k0 λL2 q1 g1 Q23 h hL2 eL2 rL2=>ws (oV (zau e e) (rn (zF (zd h e (λ_ h=>?_) (λ_ h=>xn (eL2 _ _ (zw (zp (ws (oa e (oa e (ar e (ze (.tmp e (.tmp e (.tmp e .nil))) k0 (iS h ▸ ⟨e,e⟩))))))))))))))))))))))))))
 refine wk (zF (zn (ws (om e (za h λy13 hy13 h=>oV (vX e e sl22 hy13) (oV (zb ty5 e) (oa e (an e (ss (om e (oV (zP e e) (om e (jO 3 20 h (λq14 h=>?_) λJ15 h hJ15=>oI h (λg16 h=>?_) λg16 h=>oN g16 (oN g16 (oV (zg e g16 e) (hJ15 h 3))))))))))))))))
 ·refine om e (jO 4 25 h (λq17 h=>?_) λJ18 h hJ18=>oI h (λg19 h=>?_) λg19 h=>oG g19 (zm e) (oG g19 (zuZ (q:=(57:UInt64)) e e (by decide)) (oG g19 (zi3 eq102 e e) (oV (zg e g19 e) (hJ18 h 4)))))
  ·refine rn (zd h e (λ_ h=>?_) (λ_ h=>wk (ws (om e (zam h λq20 h=>oV (zg7 e e q20) (om e (oV (znS e e) (oV (zfw Tryz.underlying5 Tryz.underlying102 e) (oV (zg2 e e) (an e (ws (om e (oV (zfX e e) (rn (zd h e (λ_ h=>?_) (λ_ h=>zC (zs (zp (zj (zy h λq22 h=>oV (zaa e e q22) (om e (zN (hL2 h () 25)))))))))))))))))))))))
   ·exact ws (oa e (oa e (ar e (zD (bn (rL2 _ (bn (ze (.tmp e (.tmp e (.tmp e .nil))) k0 (iS h ▸ ⟨e,e⟩)))))))))
   exact ws (om e (om e (zy h λq21 h=>oV (zaa e e q21) (oa e (oa e (ar e (bn (rL2 _ (bn (ze (.tmp e (.tmp e (.tmp e .nil))) k0 (iS h ▸ ⟨e,e⟩)))))))))))
  exact oN g19 (oN g19 (oN g19 (oV (zh e g19 e) (hJ18 h 4))))
 exact oG g16 (zm e) (oG g16 (zaW eq5 e e) (oV (zh e g16 e) (hJ15 h 3)))


theorem zpp {a_b r} (h:zlA a_b=some r):Ctr Tryz.prog 237 [isv a_b] [] (Pt [isv r.1,isv r.2.1,isv r.2.2] []):=by
 unfold zlA at h
 refine zi Tryz.func237 e λw0 S0 hT=>ws (oa e (oa e (an e (ss (om e (za h λy1 hy1 h=>oV (vX e e sl22 hy1) (oV (zb ty5 e) (oV (znS e e) (oV (zp8 Tryz.underlying5 Tryz.underlying3 e) (an e (ws (om e (oV (zau e e) (rn (zd h e (λ_ h=>?_) (λ_ h=>wk (ws (om e (zaj h λq2 h=>oV (zhR (l:=a_b) e hI sl22 (.inr ⟨_,e,e⟩) (.inl ⟨e,e⟩) q2.1 q2.2.1 q2.2.2) (za h λy3 hy3 h=>oT (tC (zkZ hy3) hT (s1 e) k0 (om e (oV (zr e e) (oV (zr e e) (oV (zr e e) (oa e ?_))))))))))))))))))))))))))
 ·exact ws (om e (oa e (oa e (ar e (zD (ze (.tmp e (.tmp e (.tmp e .nil))) k0 (iS h ▸ ⟨e,e⟩)))))))
 refine oa e (an e (zF (zn (ws (om e (oV (zbz e e) (an e (zd h e (λ_ h=>?_) (λ_ h=>ws (om e (oV (znf e e) (om e (jO 3 34 h (λq4 h=>?_) λJ5 h hJ5=>oI h (λg6 h=>?_) λg6 h=>oG g6 (zm e) (oG g6 (znd e e) (oV (zg e g6 e) (hJ5 h 3))))))))))))))))
 ·exact ws (om e (oa e (oa e (ar e (bn (ze (.tmp e (.tmp e (.tmp e .nil))) k0 (iS h ▸ ⟨e,e⟩)))))))
 ·refine an e (zd h e (λ_ h=>?_) (λ_ h=>zC (zs (zp (ws (om e (zy h λq7 h=>oV (zpk Tryz.underlying102 Tryz.underlying3 e q7) (om e (oa e (oa e (ar e (ze (.tmp e (.tmp e (.tmp e .nil))) k0 (iS h ▸ ⟨e,e⟩)))))))))))))
  exact ws (oa e (oa e (ar e (bn (ze (.tmp e (.tmp e (.tmp e .nil))) k0 (iS h ▸ ⟨e,e⟩))))))
 exact oN g6 (oN g6 (oV (zh e g6 e) (hJ5 h 3)))


theorem zob {a_b r} (h:zja a_b=some r):Ctr Tryz.prog 254 [isv a_b] [] (Pt [isv r] []):=by
 unfold zja at h
 refine zi Tryz.func254 e λw0 S0 hT=>ws (an e (ws (an e (ss (om e (oV (vN e sl22) (om e (rn (zn (lP h Unit () (λq1 g1=>[(3,isv q1.1),(8,isv q1.2)]) (λq1 g1=>[]) (zB (j:=3) e hI (zB (j:=8) e hI zay)) k0 λL2 q1 g1 Q9 h hL2 eL2 rL2=>ws (oV (zau e e) (rn (zF (zd h e (λ_ h=>?_) (λ_ h=>xn (eL2 _ _ (zw (zp (ws (om e (ar e (ze (r1 e) k0 (iS h ▸ ⟨e,e⟩)))))))))))))))))))))))
 exact wk (zF (zn (ws (za h λy6 hy6 h=>oV (vX e e sl22 hy6) (oV (zb ty5 e) (an e (zj (om e (zam h λq7 h=>oV (zg7 e e q7) (om e (oV (zfw Tryz.underlying5 Tryz.underlying102 e) (oV (zg2 e e) (oa e (rb (zp (zj (zy h λq8 h=>oV (zaa e e q8) (om e (zN (hL2 h () 14))))))))))))))))))))


theorem zjM {a_b r} (h:zfD a_b=some r):Ctr Tryz.prog 251 [isv a_b] [] (Pt [isv r.1,isv r.2] []):=by
 unfold zfD at h
 refine zi Tryz.func251 e λw0 S0 hT=>ws (oa e (an e (ss (om e (oV (vN e sl22) (oV (zP e e) (rn (zd h e (λ_ h=>?_) (λ_ h=>wk (ss (om e (oV (vN e sl22) (oV (zcy e e) (om e (jO 10 20 h (λq1 h=>?_) λJ2 h hJ2=>oI h (λg3 h=>?_) λg3 h=>oG g3 (zm e) (oG g3 (vN e sl22) (oG g3 (zcy e e) (oG g3 (zm e) (jO 5 19 h (λq4 h=>?_) λJ5 h hJ5=>oI h (λg6 h=>?_) λg6 h=>oN g6 (oN g6 (oN g6 (oN g6 (oG g3 (zg e g6 e) (hJ5 h 5))))))))))))))))))))))))
 ·exact ws (oa e (ar e (zD (ze (r2 e e) k0 (iS h ▸ ⟨e,e⟩)))))
 ·refine rn (zd h e (λ_ h=>?_) (λ_ h=>wk (ws (om e (za h λy8 hy8 h=>oT (tC (zob hy8) hT (s1 e) k0 (oa e (ar e (ze (r2 e e) k0 (iS h ▸ ⟨e,e⟩))))))))))
  exact ws (oa e (ar e (zD (ze (r2 e e) k0 (iS h ▸ ⟨e,e⟩)))))
 ·exact oN g3 (oN g3 (oN g3 (oN g3 (oU (oU (oU (oU (oN g3 (oV (zh e g3 e) (hJ2 h 10))))))))))
 ·exact oV (zg e g3 e) (hJ2 h 6)
 exact oG g6 (zm e) (za h λy7 hy7 h=>oG g6 (vX e e sl22 hy7) (oG g6 (zb ty5 e) (oG g6 (zaW eq5 e e) (oG g3 (zh e g6 e) (hJ5 h 5)))))


theorem zpB {a_b r} (h:zlx a_b=some r):Ctr Tryz.prog 238 [isv a_b] [] (Pt [isv r.1,isv r.2.1,isv r.2.2] []):=by
 unfold zlx at h
 refine zi Tryz.func238 e λw0 S0 hT=>ws (oa e (oa e (an e (ss (om e (oV (vN e sl22) (oV (zP e e) (rn (zd h e (λ_ h=>?_) (λ_ h=>wk (ss (om e (za h λy1 hy1 h=>oV (vX e e sl22 hy1) (oV (zb ty5 e) (oV (zfX e e) (rn (zd h e (λ_ h=>?_) (λ_ h=>wk (ws (om e (za h λy3 hy3 h=>oV (vX e e sl22 hy3) (oV (zb ty5 e) (oV (zsG e e) (oV (zp8 Tryz.underlying5 Tryz.underlying3 e) (an e (zF ?_))))))))))))))))))))))))))
 ·exact ws (oa e (oa e (ar e (zD (ze (.tmp e (.tmp e (.tmp e .nil))) k0 (iS h ▸ ⟨e,e⟩))))))
 ·exact ws (om e (za h λy2 hy2 h=>oV (vX e e sl22 hy2) (oV (zb ty5 e) (oV (zp8 Tryz.underlying5 Tryz.underlying3 e) (oa e (oa e (ar e (zD (ze (.tmp e (.tmp e (.tmp e .nil))) k0 (iS h ▸ ⟨e,e⟩))))))))))
 refine zn (ws (om e (oV (zP e e) (om e (jO 3 30 h (λq4 h=>?_) λJ5 h hJ5=>oI h (λg6 h=>?_) λg6 h=>oG g6 (zm e) (oG g6 (zcy e e) (oV (zg e g6 e) (hJ5 h 3))))))))
 ·refine an e (zd h e (λ_ h=>?_) (λ_ h=>ws (om e (oV (vN e sl22) (om e (oV (zk6 e e) (an e (zd h e (λ_ h=>?_) (λ_ h=>zC (zs (zp (ws (om e (om e (zy h λq7 h=>oV (zaa e e q7) (zaj h λq8 h=>oV (zhR (l:=a_b) e hI sl22 (.inr ⟨_,e,e⟩) (.inr ⟨_,e,e⟩) q8.1 q8.2.1 q8.2.2) (za h λy9 hy9 h=>oT (tC (zjM hy9) hT (s1 e) k0 (om e (oV (zr e e) (oV (zr e e) (oa e (an e (ss (om e (oV (zbz e e) (om e ?_)))))))))))))))))))))))))))
  ·exact ws (oa e (oa e (ar e (bn (ze (.tmp e (.tmp e (.tmp e .nil))) k0 (iS h ▸ ⟨e,e⟩))))))
  ·exact ws (oa e (oa e (ar e (bn (ze (.tmp e (.tmp e (.tmp e .nil))) k0 (iS h ▸ ⟨e,e⟩))))))
  refine jO 3 49 h (λq10 h=>?_) λJ11 h hJ11=>oI h (λg12 h=>?_) λg12 h=>oG g12 (zm e) (oG g12 (znf e e) (oV (zg e g12 e) (hJ11 h 3)))
  ·refine om e (jO 3 53 h (λq13 h=>?_) λJ14 h hJ14=>oI h (λg15 h=>?_) λg15 h=>oG g15 (zm e) (oG g15 (znd e e) (oV (zg e g15 e) (hJ14 h 3))))
   ·refine rn (zd h e (λ_ h=>?_) (λ_ h=>wk (ws (om e (zy h λq16 h=>oV (zpk Tryz.underlying102 Tryz.underlying3 e q16) (om e (zy h λq17 h=>oV (zaa e e q17) (oa e (oa e (ar e (ze (.tmp e (.tmp e (.tmp e .nil))) k0 (iS h ▸ ⟨e,e⟩))))))))))))
    exact ws (oa e (oa e (ar e (zD (ze (.tmp e (.tmp e (.tmp e .nil))) k0 (iS h ▸ ⟨e,e⟩))))))
   exact oN g15 (oN g15 (oV (zh e g15 e) (hJ14 h 3)))
  exact oN g12 (oN g12 (oV (zh e g12 e) (hJ11 h 3)))
 exact oN g6 (oN g6 (oV (zh e g6 e) (hJ5 h 3)))


theorem zn6 {a_b r} (h:zi7 a_b=some r):Ctr Tryz.prog 215 [isv a_b] [] (Pt [isv r.1,isv r.2.1,isv r.2.2.1,isv r.2.2.2.1,isv r.2.2.2.2] []):=by
 unfold zi7 at h
 refine zi Tryz.func215 e λw0 S0 hT=>ws (oT (zX _ ze206 λb1=>oa e (oa e (oa e (an e (ss (om e (oV (vN e sl22) (oV (zP e e) (rn (zd h e (λ_ h=>?_) (λ_ h=>wk (ws (om e (za h λy2 hy2 h=>oT (tC (zpp hy2) hT (s1 e) k0 (om e (oV (zr e e) (oV (zr e e) (oV (zr e e) (oa e (oa e (an e (ss (om e (oV (zbz e e) (rn (zd h e (λ_ h=>?_) (λ_ h=>?_)))))))))))))))))))))))))))))
 ·exact ws (oV (zao (z:=(Tag.mk (0:Int) (0:Int))) e bu206 ze206 .nil) (oT (tS ty206 e e p0 ⟨0,0⟩ (oa e (oa e (oa e (ar e (zD (ze (.cell e .here ty206 (.tmp e (.tmp e (.tmp e (.tmp e .nil))))) k0 (iS h ▸ ⟨e,e⟩))))))))))
 ·exact ws (oV (zao (z:=(Tag.mk (0:Int) (0:Int))) e bu206 ze206 .nil) (om e (oT (tS ty206 e e p0 ⟨0,0⟩ (oa e (oa e (oa e (ar e (zD (ze (.cell e .here ty206 (.tmp e (.tmp e (.tmp e (.tmp e .nil))))) k0 (iS h ▸ ⟨e,e⟩)))))))))))
 refine wk (ws (om e (om e (zy h λq3 h=>oV (zaa e e q3) (zaj h λq4 h=>oV (zhR (l:=a_b) e hI sl22 (.inr ⟨_,e,e⟩) (.inl ⟨e,e⟩) q4.1 q4.2.1 q4.2.2) (za h λy5 hy5 h=>oT (tC (zpB hy5) hT (s1 e) k0 (om e (oV (zr e e) (oV (zr e e) (oV (zr e e) (oa e (oa e (an e (ss (om e (oV (zbz e e) (rn (zd h e (λ_ h=>?_) (λ_ h=>wk (zF (zH (.v 0 (.v 1 (.v 2 (.v 3 (.v 4 (.v 5 (.v 6 (.v 7 (.v 8 (.v 9 (.v 10 (.v 11 (.v 12 (.v 13 (.v 14 (.v 15 (.v 16 (.t 17 (.v 18 (.v 19 (.v 20 (.v 21 .nil)))))))))))))))))))))) moOrd (by kernel_rfl) (rm e e (za h λy6 hy6 h=>zl e (vX e e sl22 hy6) (zl e (zb ty5 e) (zam h λq7 h=>?_))))))))))))))))))))))))))
 ·exact ws (oV (zao (z:=(Tag.mk (0:Int) (0:Int))) e bu206 ze206 .nil) (om e (oT (tS ty206 e e p0 ⟨0,0⟩ (oa e (oa e (oa e (ar e (zD (ze (.cell e .here ty206 (.tmp e (.tmp e (.tmp e (.tmp e .nil))))) k0 (iS h ▸ ⟨e,e⟩)))))))))))
 exact zl e (zrj e e q7) (zl e (zp8 Tryz.underlying5 Tryz.underlying3 e) (rm e e (zl e (zao (z:=(Tag.mk ((shr8 y6 (6:UInt64).toNat).toNat:Int) y2.1)) e bu206 ze206 (.cons Tag.f0 zks e hI (.cons Tag.f1 zfQ e hI .nil))) (rm e e (za h λy8 hy8 h=>zl e (vX e e sl22 hy8) (zl e (zb ty5 e) (zl e (znS e e) (zl e (zi3 eq5 e e) (rm e e (rm e e (zy h λq9 h=>zl e (zaa e e q9) (rm e e (zy h λq10 h=>zl e (zaa e e q10) (rT e (tS ty206 e e p0 ⟨((shr8 y6 (6:UInt64).toNat).toNat:Int),y2.1⟩ (zl e (zaD e) (zl e (zaD e) (zl e (zaD e) (zl e (zaD e) (zak (zp (zbK (ze (.cell e .here ty206 (.tmp e (.tmp e (.tmp e (.tmp e .nil))))) k0 (iS h ▸ ⟨e,e⟩))))))))))))))))))))))))


theorem zrf {a_b r} (h:znF a_b=some r):Ctr Tryz.prog 185 [isv a_b] [] (Pt [isv r.1,isv r.2.1,isv r.2.2.1,isv r.2.2.2.1,isv r.2.2.2.2] []):=by
 unfold znF at h
 refine zi Tryz.func185 e λw0 S0 hT=>ws (oT (zX _ ze206 λb1=>oa e (oa e (oa e (an e (ws (om e (za h λy2 hy2 h=>oT (tC (zn6 hy2) hT (s1 e) k0 (om e (oV (zr e e) (oV (zr e e) (oV (zr e e) (oV (zr e e) (oV (zr e e) (oT (zX _ ze206 λb3=>oT (tS ty206 e e p0 y2.1 (zah (zaJ 7 .here e) (oa e (oa e (oa e (an e (ss (om e (oV (zP e e) (om e (jO 7 29 h (λq4 h=>?_) λJ5 h hJ5=>oI h (λg6 h=>?_) λg6 h=>?_))))))))))))))))))))))))))))
 ·refine rn (jW 11 h (λq8 h=>?_) λJ9 h hJ9=>zd h e (λ_ h=>?_) (λ_ h=>zC (hJ9 h 0)))
  ·refine ss (om e (oV (zbz e e) (rn (zd h e (λ_ h=>?_) (λ_ h=>wk (zF (zH (.v 0 (.v 1 (.v 2 (.v 3 (.v 4 (.v 5 (.v 6 (.v 7 (.v 9 (.v 10 (.v 11 (.t 8 (.t 12 (.v 13 (.v 14 (.v 15 (.v 16 .nil))))))))))))))))) moOrd (by kernel_rfl) (zl e (zb ty206 e) (rm e e (rm e e (rm e e (rm e e (rm e e (zy h λq10 h=>zl e (zaa e e q10) (zaj h λq11 h=>zl e (zhR (l:=a_b) e hI sl22 (.inr ⟨_,e,e⟩) (.inr ⟨_,e,e⟩) q11.1 q11.2.1 q11.2.2) (rm e e (rm e e (zy h λq12 h=>zl e (zaa e e q12) (zam h λq14 h=>rT e (zpV (m:=((a_b.take ((y2.2.2.2.1 + y2.2.2.1)).toNat).drop (y2.2.2.2.1).toNat)) zkD e e hI q14 λt13=>rT e (tS ty206 e e p1 y2.1 (zl e (zaD e) (zl e (zaD e) (zl e (zaD e) (zl e (zaD e) (zak ?_))))))))))))))))))))))))))
   ·exact ws (oV (zao (z:=(Tag.mk (0:Int) (0:Int))) e bu206 ze206 .nil) (om e (oT (tS ty206 e e p0 ⟨0,0⟩ (oa e (oa e (oa e (ar e (zD (ze (.cell e .here ty206 (.tmp e (.as e (zeZ (α:=UInt8)) (.tmp e (.tmp e .nil))))) k0 (iS h ▸ ⟨e,e⟩)))))))))))
   exact zp (zbK (ze (.cell e .here ty206 (.tmp e (.as e zx (.tmp e (.tmp e .nil))))) k0 (iS h ▸ ⟨e,e⟩)))
  exact zj (oa e (zN (hJ9 h 1)))
 ·exact oG g6 (zm e) (oG g6 (zm e) (oG g6 (vN e sl22) (oG g6 (zm e) (zy h λq7 h=>oG g6 (zhh e e q7) (oG g6 (zcy e e) (oV (zh e g6 e) (hJ5 h 7)))))))
 exact oN g6 (oN g6 (oN g6 (oN g6 (oN g6 (oN g6 (oV (zg e g6 e) (hJ5 h 7)))))))


theorem zlb {a_t a_k r} (h:zgd a_t a_k=some r):Ctr Tryz.prog 159 [isv a_t,isv a_k] [] (Pt [isv r] []):=by
 unfold zgd at h
 refine zi Tryz.func159 e λw0 S0 hT=>ws (oT (tB e (an e (ws (oV (vI e GTyp.f4 zbi a_t.fields) (oV (zb ty127 e) (om e (za h λy1 hy1 h=>oV (vX e e sl127 hy1) (oV (vI e GFld.f2 zna y1.optional) (oV (zb ty4 e) (om e (jO 7 18 h (λq2 h=>?_) λJ3 h hJ3=>oI h (λg4 h=>?_) λg4 h=>oG g4 (vI e GTyp.f4 zbi a_t.fields) (oG g4 (zb ty127 e) (oG g4 (zm e) (za h λy5 hy5 h=>oG g4 (vX e e sl127 hy5) (oG g4 (vI e GFld.f3 zji y5.has) (oG g4 (zb ty4 e) (oV (zg e g4 e) (hJ3 h 7)))))))))))))))))))
 ·refine om e (jO 5 24 h (λq6 h=>?_) λJ7 h hJ7=>oI h (λg8 h=>?_) λg8 h=>oG g8 (zm e) (oG g8 (vI e GTyp.f5 zik a_t.root) (oG g8 (zb ty3 e) (oG g8 (zdT e e) (oV (zg e g8 e) (hJ7 h 5))))))
  ·exact ar e (ze (r1 e) k0 (iS h ▸ ⟨e,e⟩))
  exact oN g8 (oN g8 (oN g8 (oN g8 (oV (zh e g8 e) (hJ7 h 5)))))
 exact oN g4 (oN g4 (oN g4 (oN g4 (oN g4 (oN g4 (oV (zh e g4 e) (hJ3 h 7)))))))


theorem zpM {a_t r} (h:zlg a_t=some r):Ctr Tryz.prog 186 [isv a_t] [] (Pt [isv r] []):=by
 unfold zlg at h
 refine zi Tryz.func186 e λw0 S0 hT=>ws (oT (tB e (an e (ws (oV (vI e GTyp.f5 zik a_t.root) (oV (zb ty3 e) (oV (zvH e e) (oV (vI e GTyp.f4 zbi a_t.fields) (oV (zb ty127 e) (oV (vN e sl127) (oV (zvI e e) (an e (zF (zn (lO 3 h e λL2 q1 Q15 h hL2 eL2 rL2=>ss (om e (oV (zcy e e) (om e (jO 5 18 h (λq9 h=>?_) λJ10 h hJ10=>oI h (λg11 h=>?_) λg11 h=>oN g11 (oN g11 (oN g11 (oN g11 (oV (zg e g11 e) (hJ10 h 5))))))))))))))))))))))))
 ·refine rn (zd h e (λ_ h=>?_) (λ_ h=>xn (eL2 _ _ (zw (zp (ws (om e (ar e (ze (r1 e) k0 (iS h ▸ ⟨e,e⟩))))))))))
  exact wk (zn (zj (om e (zy h λq14 h=>oV (zhh e e q14) (oa e (rb (hL2 h 8)))))))
 exact oG g11 (zb ty129 e) (oG g11 (zm e) (zy h λq12 h=>oG g11 (zhh e e q12) (za h λy13 hy13 h=>oH g11 (tC (zlb hy13) hT (s2 e e) k0 (oV (zh e g11 e) (hJ10 h 5))))))


theorem ziy {a_x a_a1 zfn t_a_a11 r} (h:ze4 a_x a_a1=some r):Ctr Tryz.prog 240 [isv a_x,ptrv zfn (Fld.id (TList Tag))] [boxE zfn ((TList.mk t_a_a11 a_a1):(TList Tag)),tokE t_a_a11] (Pt1 (λ_=>[]) λu1=>[boxE zfn ((TList.mk u1 r)),tokE u1]):=by
 unfold ze4 at h
 refine zi Tryz.func240 e λw0 S0 hT=>ws (oT (tB e (rn (ws (oV (vI e GTyp.f1 zg4 a_x.tags) (oV (zb ty123 e) (oV (vN e sl123) (oV (zcy e e) (rn (zd h e (λ_ h=>?_) (λ_ h=>zC (zaQ .nil k2 (iS h ▸ ⟨t_a_a11,e,e⟩)))))))))))))
 refine zH (.v 1 (.v 2 (.v 3 (.v 4 (.alt 0 (.t 5 (.t 6 (.t 7 .nil))) (.t 5 (.t 0 (.t 6 (.t 7 .nil))))))))) moOrd (by kernel_rfl) (zl e (vI e GTyp.f1 zg4 a_x.tags) (zl e (zb ty123 e) (za h λy2 hy2 h=>zl e (vX e e sl123 hy2) (zl e (zb ty206 e) (zam h λq5 h=>zfr ?_ (rT e (zA (l:=([y2]:(List Tag))) el123 (.cons e hI .nil) e e (rT e (zaS (R:=appv t_a_a11 a_a1) ty123 e p0 isvT1 (rT e (zcj (l:=a_a1) (m:=([y2]:(List Tag))) zhD e hI e zx (.there .here) q5 λt7=>rT e (tR ty123 e e isvT2 p1 ⟨t7,(a_a1 ++ ([y2]:(List Tag)))⟩ e (zak (zaQ .nil k2 (iS h ▸ ⟨t7,e,e⟩)))))))))))))))
 exact rT e (zaS (R:=appv t_a_a11 a_a1) ty123 e p0 isvT1 (rT e (zA (l:=([y2]:(List Tag))) el123 (.cons e hI .nil) e e (rT e (zcj (l:=a_a1) (m:=([y2]:(List Tag))) zhD e hI e zx (.there .here) q5 λt4=>rT e (tR ty123 e e isvT2 p1 ⟨t4,(a_a1 ++ ([y2]:(List Tag)))⟩ e (zak (zaQ .nil k2 (iS h ▸ ⟨t4,e,e⟩)))))))))


def zer (f':GTys->Int->Int->(List Tag)->Option (GTys × Int × (List Tag))):Prop :=
 ∀ {a_t zjK zhk zkw zl2 zj3 ziC t_a_do__01 r},f' a_t zjK zhk zkw=some r->Ctr Tryz.prog 239 [ptrv zl2 (Fld.id GTys),isv zjK,ptrv zj3 (Fld.id Int),clov 240 [ptrv ziC (Fld.id (TList Tag))]] [boxE zl2 (a_t:GTys),boxE zj3 (zhk:Int),boxE ziC ((TList.mk t_a_do__01 zkw):(TList Tag)),tokE t_a_do__01] (Pt1 (λ_=>[]) λu1=>[boxE zl2 (r.1),boxE zj3 (r.2.1),boxE ziC ((TList.mk u1 r.2.2)),tokE u1])
theorem zki {zeJ} (zk0:zer zeJ):zer (zfE zeJ):=by
 intro a_t zjK zhk zkw zl2 zj3 ziC t_a_do__01 r h
 unfold zfE at h
 refine zi Tryz.func239 e λw0 S0 hT=>ss (om e (oV (zau e e) (om e (jO 8 21 h (λq2 h=>?_) λJ3 h hJ3=>oI h (λg4 h=>?_) λg4 h=>oG g4 (zm e) (oG g4 (zm e) (oG g4 (zf e) (oG g4 (zu e GTys.f0 zo9) (oH g4 (tL ty29 e p0 a_t.l (oG g4 (vN e sl29) (oG g4 (zdT e e) (oV (zg e g4 e) (hJ3 h 8)))))))))))))
 ·refine om e (jO 5 27 h (λq5 h=>?_) λJ6 h hJ6=>oI h (λg7 h=>?_) λg7 h=>oG g7 (zm e) (oG g7 (zf e) (oH g7 (tL ty3 e p1 zhk (oG g7 (zP e e) (oV (zg e g7 e) (hJ6 h 5)))))))
  ·refine rn (zd h e (λ_ h=>?_) (λ_ h=>wk (ws (om e (oV (zf e) (oT (tL ty3 e p1 zhk (zy h λq8 h=>oV (zhh e e q8) (oV (zf e) (oT (tS ty3 e e p1 (zhk - 1) (rn (ws (om e (oV (zf e) (oV (zu e GTys.f0 zo9) (oT (tL ty29 e p1 a_t.l (om e (za h λy9 hy9 h=>oV (vX e e sl29 hy9) (oV (zb ty129 e) (oT (zX _ ze129 λb10=>oT (tS ty129 e e p0 y9 (zah (zaJ 8 .here e) (rn (ws (om e (oV (zb ty129 e) (za h λy11 hy11 h=>oT (zfB e (.same e .nil) (ziy hy11) hT (.cons (.there (.there .here)) (.cons (.there (.there .here)) .nil)) (λR H' hR=>?_))))))))))))))))))))))))))))))))
   ·exact zbK (zD (ze .nil k4 (iS h ▸ ⟨t_a_do__01,e,e⟩)))
   obtain ⟨t12,rfl,rfl⟩:=hR
   refine rn (ss (oV (vI e GTyp.f1 zg4 y9.tags) (oV (zb ty123 e) (oV (vN e sl123) (oV (zcy e e) (rn (zd h e (λ_ h=>?_) (λ_ h=>wk (ws (oV (vI e GTyp.f4 zbi y9.fields) (oV (zb ty127 e) (oV (vN e sl127) (om e (rn (zn (lP h Tok t12 (λq13 g13=>[(50,isv q13.1)]) (λq13 g13=>[boxE ziC ((TList.mk g13 q13.2.1):(TList Tag)),tokE g13,boxE zj3 (q13.2.2.1:Int),boxE zl2 (q13.2.2.2:GTys)]) (zB (j:=50) e hI zay) k4 λL14 q13 g13 Q25 h hL14 eL14 rL14=>ws (oV (zau e e) (rn (zF (zd h e (λ_ h=>?_) (λ_ h=>xn (eL14 _ _ (zw (zaQ .nil (a3 (a2 k2)) (iS h ▸ ⟨g13,e,e⟩)))))))))))))))))))))))))
   ·exact zbK (zD (ze .nil (a3 (a2 k2)) (iS h ▸ ⟨t12,e,e⟩)))
   exact wk (zF (zn (ws (za h λy20 hy20 h=>oV (vX e e sl127 hy20) (oV (zb ty137 e) (oT (zX _ ze137 λb21=>oT (tS ty137 e e p0 y20 (zah (zaJ 10 .here e) (rn (zj (om e (oV (vI e GFld.f1 zdH y20.ty) (oV (zb ty3 e) (om e (om e (za h λy22 hy22 h=>oT (tC1 (zk0 hy22) hT (s4 e e e e) (a3 (a2 k2)) (λt23=>rb (zp (zj (zy h λq24 h=>oV (zaa e e q24) (om e (zN (hL14 h t23 14)))))))))))))))))))))))))
  exact oN g7 (oN g7 (oN g7 (oN g7 (oV (zh e g7 e) (hJ6 h 5)))))
 exact oN g4 (oN g4 (oN g4 (oN g4 (oN g4 (oN g4 (oN g4 (oV (zh e g4 e) (hJ3 h 8))))))))

theorem zf6:∀ n,zer (zgB n)
  | 0=>λh=>(by cases h)
  | n + 1=>zki (zf6 n)
theorem zk1 (n:Nat):zer (zgB n):=(zf6 n)

theorem zkl {a_t zjK zl2 r} (h:zf4 a_t zjK=some r):Ctr Tryz.prog 218 [ptrv zl2 (Fld.id GTys),isv zjK] [boxE zl2 (a_t:GTys)] (Pt [isv r.1] [boxE zl2 (r.2)]):=by
 unfold zf4 at h
 exact zi Tryz.func218 e λw0 S0 hT=>ws (an e (ws (oT (zX _ zu8 λb1=>zah (zbC) (rn (ws (oT (zX _ ze3 λb3=>oT (tS ty3 e e p0 300 (rn (ws (om e (om e (oV (zfp (.same e .nil)) (za h λy4 hy4 h=>oT (tC1 (zk1 fuel hy4) hT (s4 e e e e) (a3 (a0 (a1 k1))) (λt5=>rn (ws (oT (zaS (R:=appv t5 y4.2.2) ty123 e p2 isvT1 (ar e (ze (.as e zx .nil) k1 (iS h ▸ ⟨e,e⟩)))))))))))))))))))))))


theorem znM {a_t a_i r} (h:zjw a_t a_i=some r):Ctr Tryz.prog 190 [isv a_t,isv a_i] [] (Pt [isv r] []):=by
 unfold zjw at h
 exact zi Tryz.func190 e λw0 S0 hT=>ws (oT (tB e (an e (ws (oV (vI e GTab.f3 zfC a_t.types) (oV (zb ty29 e) (oV (zao (z:=(GTys.mk a_t.types)) e bu272 ze272 (.cons GTys.f0 zo9 e hI .nil)) (oT (zkn (y:=(GTys.mk a_t.types)) e hI λb1=>an e (ws (om e (om e (za h λy2 hy2 h=>oT (tC (zkl hy2) hT (s2 e e) k1 (ar e (ze (r1 e) k0 (iS h ▸ ⟨e,e⟩)))))))))))))))))


theorem zgG {a_s a_v r} (h:zdC a_s a_v=some r):Ctr Tryz.prog 217 [isv a_s,isv a_v] [] (Pt [isv r] []):=by
 unfold zdC at h
 refine zi Tryz.func217 e λw0 S0 hT=>ws (oT (tB e (an e (ss (om e (oV (vN e sl123) (om e (rn (zn (lO 8 h e λL2 q1 Q7 h hL2 eL2 rL2=>ws (oV (zau e e) (rn (zF (zd h e (λ_ h=>?_) (λ_ h=>xn (eL2 _ _ (zw (zp (ws (ar e (ze (r1 e) k0 (iS h ▸ ⟨e,e⟩))))))))))))))))))))))
 refine wk (zF (zn (ws (om e (an e (zF (zH (.v 0 (.v 1 (.v 2 (.v 3 (.v 4 (.v 5 .nil)))))) moOrd (by kernel_rfl) (zl e (zb ty206 e) (rm e e (rm e e (za h λy5 hy5 h=>zl e (vX e e sl123 hy5) (zl e (zb ty206 e) (zl e (zaW eq206 e e) (zak (zp (zd h e (λ_ h=>?_) (λ_ h=>zC (zs (zp (zj (zy h λq6 h=>oV (zaa e e q6) (om e (zN (hL2 h 12))))))))))))))))))))))))
 exact ws (om e (ar e (bn (rL2 _ (bn (ze (r1 e) k0 (iS h ▸ ⟨e,e⟩)))))))


theorem zfW {a_s a_v r} (h:zc1 a_s a_v=some r):Ctr Tryz.prog 189 [isv a_s,isv a_v] [] (Pt [isv r] []):=by
 unfold zc1 at h
 exact zi Tryz.func189 e λw0 S0 hT=>ws (oT (tB e (an e (ws (om e (oV (zb ty206 e) (za h λy1 hy1 h=>oT (tC (zgG hy1) hT (s2 e e) k0 (oV (zdT e e) (ar e (ze (r1 e) k0 (iS h ▸ ⟨e,e⟩))))))))))))


theorem zhN {a_f a_a1 a_a2 zfn r} (h:zem a_f a_a1 a_a2=some r):Ctr Tryz.prog 188 [isv a_f,immv (PtrB.mk zfn),immv (a_a2)] [boxE zfn (a_a1:GChk)] (Pt [isv r.1] [boxE zfn (r.2)]):=by
 unfold zem at h
 exact zi Tryz.func188 e λw0 S0 hT=>ws (oT (tB e (an e (zF (zH (.v 0 (.v 1 (.v 2 (.v 3 (.v 5 (.v 6 (.v 8 (.t 4 (.t 7 (.t 9 (.v 10 .nil))))))))))) moOrd (by kernel_rfl) (zl e (zbb (α:=GChk) ty116 e) (zl e (zf e) (zl e (zu e GChk.f0 zgu) (zl e (zu e GTbd.f0 zgE) (zl e (vI e GFld.f1 zdH a_f.ty) (zl e (zb ty3 e) (zl e (zb ty206 e) (rT e (tL ty31 e p0 a_a1.tabled.t (za h λy1 hy1 h=>rT e (tC (znM hy1) hT (s2 e e) k0 (za h λy2 hy2 h=>rT e (tC (zfW hy2) hT (s2 e e) k0 (zl e (zaD e) (zak (zp (zbK (ze (r1 e) k1 (iS h ▸ ⟨e,e⟩))))))))))))))))))))))))


theorem zff {a_s zeG zfG zdQ r} (h:zct a_s zeG zfG=some r):Ctr Tryz.prog 216 [isv a_s,clov 188 [immv (PtrB.mk zdQ),immv (zfG)]] [boxE zdQ (zeG:GChk)] (Pt [isv r.1] [boxE zdQ (r.2)]):=by
 unfold zct at h
 refine zi Tryz.func216 e λw0 S0 hT=>ws (an e (ss (om e (oV (vN e sl127) (om e (rn (zn (lP h Unit () (λq1 g1=>[(8,isv q1.1)]) (λq1 g1=>[boxE zdQ (q1.2:GChk)]) (zB (j:=8) e hI zay) k1 λL2 q1 g1 Q9 h hL2 eL2 rL2=>ws (oV (zau e e) (rn (zF (zd h e (λ_ h=>?_) (λ_ h=>xn (eL2 _ _ (zw (zp (ws (ar e (ze (r1 e) k1 (iS h ▸ ⟨e,e⟩))))))))))))))))))))
 refine wk (zF (zn (ws (om e (an e (ws (om e (om e (om e (za h λy6 hy6 h=>oV (vX e e sl127 hy6) (oV (zb ty137 e) (za h λy7 hy7 h=>oT (zfB e (.same e .nil) (zhN hy7) hT (.cons .here .nil) (λR H' hR=>?_))))))))))))))
 obtain ⟨rfl,rfl⟩:=hR
 refine rn (zd h e (λ_ h=>?_) (λ_ h=>zC (zs (zp (zj (zy h λq8 h=>oV (zaa e e q8) (om e (zN (hL2 h () 12)))))))))
 exact ws (om e (ar e (bn (rL2 _ (bn (ze (r1 e) k1 (iS h ▸ ⟨e,e⟩)))))))


theorem zeV {a_s zeG zfG zdQ r} (h:zcb a_s zeG zfG=some r):Ctr Tryz.prog 187 [isv a_s,clov 188 [immv (PtrB.mk zdQ),immv (zfG)]] [boxE zdQ (zeG:GChk)] (Pt [isv r.1] [boxE zdQ (r.2)]):=by
 unfold zcb at h
 exact zi Tryz.func187 e λw0 S0 hT=>ws (an e (ws (om e (om e (za h λy1 hy1 h=>oT (tC (zff hy1) hT (s2 e e) k1 (oV (zdT e e) (ar e (ze (r1 e) k1 (iS h ▸ ⟨e,e⟩))))))))))


theorem zge {a_c a_i a_b zcH r} (h:zd7 a_c a_i a_b=some r):Ctr Tryz.prog 155 [ptrv zcH (Fld.id GChk),isv a_i,isv a_b] [boxE zcH (a_c:GChk)] (Pt [isv r.1,isv r.2.1] [boxE zcH (r.2.2)]):=by
 unfold zd7 at h
 refine zi Tryz.func155 e λw0 S0 hT=>ws (oT (zi8 (y:=PtrB.mk zcH) e zkz (oT (zX _ ze206 λb1=>an e (ws (om e (za h λy2 hy2 h=>oT (tC (zrf hy2) hT (s1 e) k0 (om e (oV (zr e e) (oV (zr e e) (oV (zr e e) (oV (zr e e) (oV (zr e e) (oT (zX _ ze206 λb3=>oT (tS ty206 e e p0 y2.1 (zah (zaJ 8 .here e) (oa e (oa e (oa e (an e (ss (om e (oV (zbz e e) (om e (jO 5 31 h (λq4 h=>?_) λJ5 h hJ5=>oI h (λg6 h=>?_) λg6 h=>oG g6 (zm e) (oG g6 (zm e) ?_))))))))))))))))))))))))))))
 ·refine rn (zd h e (λ_ h=>?_) (λ_ h=>wk (ws (oV (zbb (α:=GChk) ty116 e) (oV (zf e) (oV (zu e GChk.f0 zgu) (oV (zu e GTbd.f0 zgE) (oV (zu e GTab.f3 zfC) (oT (tL ty29 e p1 a_c.tabled.t.types (om e (za h λy7 hy7 h=>oV (vX e e sl29 hy7) (oV (zb ty129 e) (oT (zX _ ze129 λb8=>oT (tS ty129 e e p0 y7 (zah (zaJ 13 .here e) (an e (ss (oV (vI e GTyp.f0 zdI y7.kind) (oV (zb ty3 e) (oV (zP e e) (rn (jW 14 h (λq9 h=>?_) λJ10 h hJ10=>zd h e (λ_ h=>?_) (λ_ h=>zC (hJ10 h 0))))))))))))))))))))))))))
  ·exact ws (oV (zao (z:=(Tag.mk (0:Int) (0:Int))) e bu206 ze206 .nil) (oT (tS ty206 e e p0 ⟨0,0⟩ (ar e (zD (ze (.cell e .here ty206 (.tmp e .nil)) (a1 k0) (iS h ▸ ⟨e,e⟩)))))))
  ·exact ws (oV (vI e GTyp.f4 zbi y7.fields) (oV (zb ty127 e) (om e (zaj h λq12 h=>oV (zhR (l:=y7.fields) e hI sl127 (.inr ⟨_,e,e⟩) (.inl ⟨e,e⟩) q12.1 q12.2.1 q12.2.2) (oV (zfp (.same e (.same e .nil))) (za h λy13 hy13 h=>oT (tC (zeV hy13) hT (s2 e e) (a1 k0) (an e (ws (oV (zb ty206 e) (om e (oV (za2 e) (oT (tS ty206 e e p1 y2.1 (ar e (ze (.cell e .here ty206 (.tmp e .nil)) (a1 k0) (iS h ▸ ⟨e,e⟩)))))))))))))))))
  exact zj (oV (zb ty129 e) (za h λy11 hy11 h=>oT (tC (zpM hy11) hT (s1 e) k0 (oa e (zN (hJ10 h 3))))))
 ·exact oN g6 (oN g6 (oN g6 (oN g6 (oV (zh e g6 e) (hJ5 h 5)))))
 exact oG g6 (vN e sl22) (oG g6 (zbz e e) (oV (zg e g6 e) (hJ5 h 5)))


theorem zm3 {a_y a_a1 r} (h:zfJ a_y a_a1=some r):Ctr Tryz.prog 112 [isv a_y,immv (a_a1)] [] (Pt [isv r] []):=by
 unfold zfJ at h
 exact zi Tryz.func112 e λw0 S0 hT=>ws (oT (tB e (an e (ws (oV (vI e GItem.f1 zep a_y.number) (oV (zb ty2 e) (oV (zb ty2 e) (oV (zP e e) (ar e (ze (r1 e) k0 (iS h ▸ ⟨e,e⟩)))))))))))


theorem zfy {a_s zeG r} (h:za5 a_s zeG=some r):Ctr Tryz.prog 111 [isv a_s,clov 112 [immv (zeG)]] [] (Pt [isv r] []):=by
 unfold za5 at h
 refine zi Tryz.func111 e λw0 S0 hT=>ws (an e (ss (om e (oV (vN e sl126) (om e (rn (zn (lO 8 h e λL2 q1 Q9 h hL2 eL2 rL2=>ws (oV (zau e e) (rn (zF (zd h e (λ_ h=>?_) (λ_ h=>xn (eL2 _ _ (zw (zp (ws (ar e (ze (r1 e) k0 (iS h ▸ ⟨e,e⟩))))))))))))))))))))
 refine wk (zF (zn (ws (om e (an e (ws (om e (om e (om e (za h λy6 hy6 h=>oV (vX e e sl126 hy6) (oV (zb ty132 e) (za h λy7 hy7 h=>oT (zfB e (.same e .nil) (zm3 hy7) hT .nil (λR H' hR=>?_))))))))))))))
 obtain ⟨rfl,rfl⟩:=hR
 refine rn (zd h e (λ_ h=>?_) (λ_ h=>zC (zs (zp (zj (zy h λq8 h=>oV (zaa e e q8) (om e (zN (hL2 h 12)))))))))
 exact ws (om e (ar e (bn (rL2 _ (bn (ze (r1 e) k0 (iS h ▸ ⟨e,e⟩)))))))


theorem zjd {a_x a_n_ r} (h:zd1 a_x a_n_=some r):Ctr Tryz.prog 57 [isv a_x,isv a_n_] [] (Pt [isv r] []):=by
 unfold zd1 at h
 exact zi Tryz.func57 e λw0 S0 hT=>ws (oT (tB e (oT (tB e (an e (ws (oV (vI e GTyp.f3 zh7 a_x.items) (oV (zb ty126 e) (oV (zfp (.same e .nil)) (za h λy1 hy1 h=>oT (tC (zfy hy1) hT (s2 e e) k0 (ar e (ze (r1 e) k0 (iS h ▸ ⟨e,e⟩))))))))))))))


theorem zmf {a_b r} (h:zjC a_b=some r):Ctr Tryz.prog 156 [isv a_b] [] (Pt [isv r] []):=by
 unfold zjC at h
 refine zi Tryz.func156 e λw0 S0 hT=>ws (an e (ws (om e (oV (vN e sl22) (oV (zcy e e) (om e (jO 4 10 h (λq1 h=>?_) λJ2 h hJ2=>oI h (λg3 h=>?_) λg3 h=>oN g3 (oN g3 (oN g3 (oV (zg e g3 e) (hJ2 h 4)))))))))))
 ·exact ar e (ze (r1 e) k0 (iS h ▸ ⟨e,e⟩))
 exact oG g3 (zm e) (oG g3 (vN e sl22) (oG g3 (zk6 e e) (oV (zh e g3 e) (hJ2 h 4))))


theorem ziV {a_c a_i a_v zcH r} (h:zd9 a_c a_i a_v=some r):Ctr Tryz.prog 104 [ptrv zcH (Fld.id GChk),isv a_i,isv a_v] [boxE zcH (a_c:GChk)] (Pt [isv r.1] [boxE zcH (r.2)]):=by
 unfold zd9 at h
 refine zi Tryz.func104 e λw0 S0 hT=>ws (oT (tB e (an e (ws (om e (oV (zf e) (oV (zu e GChk.f0 zgu) (oV (zu e GTbd.f0 zgE) (oV (zu e GTab.f3 zfC) (oT (tL ty29 e p0 a_c.tabled.t.types (om e (za h λy1 hy1 h=>oV (vX e e sl29 hy1) (oV (zb ty129 e) (oT (zX _ ze129 λb2=>oT (tS ty129 e e p0 y1 (zah (zaJ 7 .here e) (rn (ws (oV (vI e GTyp.f0 zdI y1.kind) (oV (zb ty3 e) (oV (zP e e) (an e (ss (oV (vI e GTyp.f6 zkJ y1.more) (oV (zb ty4 e) (oV (za2 e) (om e (jO 8 35 h (λq3 h=>?_) λJ4 h hJ4=>?_))))))))))))))))))))))))))))))
 ·refine om e (jO 9 45 h (λq9 h=>?_) λJ10 h hJ10=>oI h (λg11 h=>?_) λg11 h=>oG g11 (vI e Val.f3 zcK a_v.l) (oG g11 (zb ty23 e) (oG g11 (vN e sl23) (oG g11 (vI e Val.f5 zjn a_v.more) (oG g11 (zb ty24 e) (oG g11 (vN e sl24) (zy h λq12 h=>oG g11 (zaa e e q12) (oG g11 (zcy e e) (oV (zg e g11 e) (hJ10 h 9))))))))))
  ·refine rn (zd h e (λ_ h=>?_) (λ_ h=>wk (ss (om e (oV (zf e) (oV (zu e GChk.f1 zvg) (oT (tL ty4 e p0 a_c.bare (rn (zd h e (λ_ h=>?_) (λ_ h=>wk (ws (oV (vI e GTyp.f3 zh7 y1.items) (oV (zb ty126 e) (oV (vN e sl126) (oV (vI e GTyp.f4 zbi y1.fields) (oV (zb ty127 e) (oV (vN e sl127) (zy h λq19 h=>oV (zaa e e q19) (oV (vI e GTyp.f5 zik y1.root) (oV (zb ty3 e) (zy h λq20 h=>oV (zhh e e q20) (an e (zF (zn (ws (oV (vI e Val.f4 zgJ a_v.rule) (oV (zb ty3 e) ?_))))))))))))))))))))))))))))
   ·exact ws (ar e (zD (ze (r1 e) k1 (iS h ▸ ⟨e,e⟩))))
   ·refine ws (oV (vI e Val.f1 zcB a_v.n) (oV (zb ty2 e) (oV (zP e e) (om e (jO 5 58 h (λq13 h=>?_) λJ14 h hJ14=>oI h (λg15 h=>?_) λg15 h=>oN g15 (oN g15 (oN g15 (oN g15 (oV (zg e g15 e) (hJ14 h 5))))))))))
    ·refine om e (jO 4 63 h (λq16 h=>?_) λJ17 h hJ17=>oI h (λg18 h=>?_) λg18 h=>oN g18 (oN g18 (oN g18 (oV (zg e g18 e) (hJ17 h 4)))))
     ·exact ar e (zD (ze (r1 e) k1 (iS h ▸ ⟨e,e⟩)))
     exact oG g18 (vI e Val.f4 zgJ a_v.rule) (oG g18 (zb ty3 e) (oG g18 (zP e e) (oV (zh e g18 e) (hJ17 h 4))))
    exact oG g15 (vI e Val.f2 zdR a_v.b) (oG g15 (zb ty22 e) (oG g15 (vN e sl22) (oG g15 (zP e e) (oV (zh e g15 e) (hJ14 h 5)))))
   refine oV (zP e e) (om e (jO 2 80 h (λq21 h=>?_) λJ22 h hJ22=>oI h (λg23 h=>?_) λg23 h=>oN g23 (oV (zg e g23 e) (hJ22 h 2))))
   ·refine an e (zd h e (λ_ h=>?_) (λ_ h=>ws (oV (vI e Val.f4 zgJ a_v.rule) (oV (zb ty3 e) (oV (zP e e) (an e (zd h e (λ_ h=>?_) (λ_ h=>ws (oV (vI e Val.f4 zgJ a_v.rule) (oV (zb ty3 e) (oV (zbz e e) (om e (jO 5 119 h (λq33 h=>?_) λJ34 h hJ34=>oI h (λg35 h=>?_) λg35 h=>oG g35 (vI e Val.f1 zcB a_v.n) (oG g35 (zb ty2 e) (oG g35 (zm e) (oG g35 (zau e e) (oV (zg e g35 e) (hJ34 h 5))))))))))))))))))
    ·refine ws (om e (om e (oV (vI e Val.f2 zdR a_v.b) (oV (zb ty22 e) (za h λy24 hy24 h=>oT (tC (zge hy24) hT (s3 e e e) k1 (om e (oV (zr e e) (oV (zr e e) (oT (zX _ ze206 λb25=>oT (tS ty206 e e p0 y24.1 (zah (zaJ 10 .here e) (an e (ws (om e (om e (jO 4 94 h (λq26 h=>?_) λJ27 h hJ27=>oI h (λg28 h=>?_) λg28 h=>oN g28 (oN g28 (oN g28 (oV (zg e g28 e) (hJ27 h 4))))))))))))))))))))))
     ·exact ar e (bn (ze (r1 e) k1 (iS h ▸ ⟨e,e⟩)))
     exact oG g28 (vI e Val.f1 zcB a_v.n) (oG g28 (zb ty2 e) (oG g28 (zP e e) (oV (zh e g28 e) (hJ27 h 4))))
    ·refine ws (oV (vI e Val.f2 zdR a_v.b) (oV (zb ty22 e) (oV (vN e sl22) (oV (zP e e) (om e (jO 6 109 h (λq29 h=>?_) λJ30 h hJ30=>oI h (λg31 h=>?_) λg31 h=>oN g31 (oN g31 (oN g31 (oN g31 (oN g31 (oV (zg e g31 e) (hJ30 h 6))))))))))))
     ·exact ar e (bn (ze (r1 e) k1 (iS h ▸ ⟨e,e⟩)))
     exact oG g31 (zb ty129 e) (oG g31 (vI e Val.f1 zcB a_v.n) (oG g31 (zb ty2 e) (za h λy32 hy32 h=>oH g31 (tC (zjd hy32) hT (s2 e e) k0 (oG g31 (zau e e) (oV (zh e g31 e) (hJ30 h 6)))))))
    ·refine om e (jO 4 124 h (λq36 h=>?_) λJ37 h hJ37=>oI h (λg38 h=>?_) λg38 h=>oG g38 (vI e Val.f1 zcB a_v.n) (oG g38 (zb ty2 e) (oG g38 (zdT e e) (oV (zg e g38 e) (hJ37 h 4)))))
     ·refine an e (zd h e (λ_ h=>?_) (λ_ h=>ws (om e (an e (zd h e (λ_ h=>?_) (λ_ h=>zC (zs (zp (ws (oV (vI e Val.f2 zdR a_v.b) (oV (zb ty22 e) (oV (vN e sl22) (oV (zP e e) (ar e (ze (r1 e) k1 (iS h ▸ ⟨e,e⟩))))))))))))))))
      ·exact ws (ar e (bn (ze (r1 e) k1 (iS h ▸ ⟨e,e⟩))))
      exact ws (oV (vI e Val.f2 zdR a_v.b) (oV (zb ty22 e) (za h λy39 hy39 h=>oT (tC (zmf hy39) hT (s1 e) k0 (ar e (bn (ze (r1 e) k1 (iS h ▸ ⟨e,e⟩))))))))
     exact oN g38 (oN g38 (oN g38 (oV (zh e g38 e) (hJ37 h 4))))
    exact oN g35 (oN g35 (oN g35 (oN g35 (oV (zh e g35 e) (hJ34 h 5)))))
   exact oG g23 (zm e) (oV (zh e g23 e) (hJ22 h 2))
  exact oN g11 (oN g11 (oN g11 (oN g11 (oN g11 (oN g11 (oN g11 (oN g11 (oV (zh e g11 e) (hJ10 h 9)))))))))
 refine oI h (λg5 h=>?_) λg5 h=>oG g5 (zm e) (oG g5 (za2 e) (oG g5 (zm e) (jO 4 34 h (λq6 h=>?_) λJ7 h hJ7=>oI h (λg8 h=>?_) λg8 h=>oN g8 (oN g8 (oN g8 (oG g5 (zg e g8 e) (hJ7 h 4)))))))
 ·exact oN g5 (oN g5 (oN g5 (oU (oU (oU (oN g5 (oV (zh e g5 e) (hJ4 h 8))))))))
 ·exact oV (zg e g5 e) (hJ4 h 5)
 exact oG g8 (vI e GTyp.f0 zdI y1.kind) (oG g8 (zb ty3 e) (oG g8 (zbz e e) (oG g5 (zh e g8 e) (hJ7 h 4))))


theorem zds {a_v zhL r} (h:zcW a_v zhL=some r):Ctr Tryz.prog 105 [isv a_v,isv zhL] [] (Pt [isv r] []):=by
 unfold zcW at h
 refine zi Tryz.func105 e λw0 S0 hT=>ws (oT (tB e (an e (ws (om e (zaj h λq1 h=>oV (zpv e e q1.1 q1.2) (oV (zbz e e) (om e (jO 4 12 h (λq2 h=>?_) λJ3 h hJ3=>oI h (λg4 h=>?_) λg4 h=>oG g4 (vI e Val.f1 zcB a_v.n) (oG g4 (zb ty2 e) (oG g4 (zP e e) (oV (zg e g4 e) (hJ3 h 4)))))))))))))
 ·refine om e (jO 10 23 h (λq5 h=>?_) λJ6 h hJ6=>oI h (λg7 h=>?_) λg7 h=>oN g7 (oN g7 (oN g7 (oN g7 (oU (oU (oU (oU (oN g7 (oV (zg e g7 e) (hJ6 h 10)))))))))))
  ·refine om e (jO 10 34 h (λq12 h=>?_) λJ13 h hJ13=>oI h (λg14 h=>?_) λg14 h=>oN g14 (oN g14 (oN g14 (oN g14 (oU (oU (oU (oU (oN g14 (oV (zg e g14 e) (hJ13 h 10)))))))))))
   ·refine om e (jO 15 50 h (λq19 h=>?_) λJ20 h hJ20=>oI h (λg21 h=>?_) λg21 h=>oN g21 (oN g21 (oN g21 (oN g21 (oU (oU (oU (oU (oU (oU (oU (oU (oU (oN g21 (oV (zg e g21 e) (hJ20 h 15))))))))))))))))
    ·exact ar e (ze (r1 e) k0 (iS h ▸ ⟨e,e⟩))
    refine oG g21 (zm e) (zaj h λq22 h=>oG g21 (zpv e e q22.1 q22.2) (oG g21 (zbz e e) (oG g21 (zm e) (jO 10 49 h (λq23 h=>?_) λJ24 h hJ24=>oI h (λg25 h=>?_) λg25 h=>oG g25 (vI e Val.f4 zgJ a_v.rule) (oG g25 (zb ty3 e) (oG g25 (zP e e) (oG g25 (zm e) (jO 5 48 h (λq26 h=>?_) λJ27 h hJ27=>oI h (λg28 h=>?_) λg28 h=>oN g28 (oN g28 (oN g28 (oN g28 (oG g25 (zg e g28 e) (hJ27 h 5)))))))))))))
    ·exact oV (zh e g21 e) (hJ20 h 6)
    ·exact oN g25 (oN g25 (oN g25 (oN g25 (oU (oU (oU (oU (oN g25 (oG g21 (zh e g25 e) (hJ24 h 10))))))))))
    ·exact oG g21 (zg e g25 e) (hJ24 h 6)
    exact oG g28 (vI e Val.f5 zjn a_v.more) (oG g28 (zb ty24 e) (oG g28 (vN e sl24) (oG g28 (zP e e) (oG g25 (zh e g28 e) (hJ27 h 5)))))
   refine oG g14 (zm e) (zaj h λq15 h=>oG g14 (zpv e e q15.1 q15.2) (oG g14 (zbz e e) (oG g14 (zm e) (jO 5 33 h (λq16 h=>?_) λJ17 h hJ17=>oI h (λg18 h=>?_) λg18 h=>oG g18 (vI e Val.f3 zcK a_v.l) (oG g18 (zb ty23 e) (oG g18 (vN e sl23) (oG g18 (zP e e) (oG g14 (zg e g18 e) (hJ17 h 5)))))))))
   ·exact oV (zh e g14 e) (hJ13 h 6)
   exact oN g18 (oN g18 (oN g18 (oN g18 (oG g14 (zh e g18 e) (hJ17 h 5)))))
  refine oG g7 (zm e) (zaj h λq8 h=>oG g7 (zpv e e q8.1 q8.2) (oG g7 (zbz e e) (oG g7 (zm e) (jO 5 22 h (λq9 h=>?_) λJ10 h hJ10=>oI h (λg11 h=>?_) λg11 h=>oG g11 (vI e Val.f2 zdR a_v.b) (oG g11 (zb ty22 e) (oG g11 (vN e sl22) (oG g11 (zP e e) (oG g7 (zg e g11 e) (hJ10 h 5)))))))))
  ·exact oV (zh e g7 e) (hJ6 h 6)
  exact oN g11 (oN g11 (oN g11 (oN g11 (oG g7 (zh e g11 e) (hJ10 h 5)))))
 exact oN g4 (oN g4 (oN g4 (oV (zh e g4 e) (hJ3 h 4))))


theorem zhp {a_c a_v r} (h:zen a_c a_v=some r):Ctr Tryz.prog 106 [isv a_c,isv a_v] [] (Pt [isv r] []):=by
 unfold zen at h
 refine zi Tryz.func106 e λw0 S0 hT=>ws (oT (tB e (an e (ws (oV (vI e GCon.f0 znk a_c.has) (oV (zb ty4 e) (oV (za2 e) (om e (jO 21 29 h (λq1 h=>?_) λJ2 h hJ2=>oI h (λg3 h=>?_) λg3 h=>oG g3 (vI e GCon.f1 zkF a_c.hasLow) (oG g3 (zb ty4 e) (oG g3 (za2 e) (oG g3 (zm e) (jO 5 17 h (λq4 h=>?_) λJ5 h hJ5=>oI h (λg6 h=>?_) λg6 h=>oG g6 (zm e) (oG g6 (vI e GCon.f4 zjG a_c.low) (oG g6 (zb ty2 e) (oG g6 (zdT e e) (oG g3 (zg e g6 e) (hJ5 h 5))))))))))))))))))
 ·exact ar e (ze (r1 e) k0 (iS h ▸ ⟨e,e⟩))
 ·exact oN g3 (oN g3 (oN g3 (oN g3 (oU (oU (oU (oU (oN g3 (oN g3 (oU (oU (oU (oU (oU (oU (oU (oU (oU (oN g3 (oV (zh e g3 e) (hJ2 h 21)))))))))))))))))))))
 ·refine oG g3 (zm e) (jO 10 28 h (λq7 h=>?_) λJ8 h hJ8=>oI h (λg9 h=>?_) λg9 h=>oN g9 (oN g9 (oN g9 (oN g9 (oU (oU (oU (oU (oN g9 (oG g3 (zg e g9 e) (hJ8 h 10)))))))))))
  ·exact oV (zg e g3 e) (hJ2 h 8)
  refine oG g9 (vI e GCon.f2 zky a_c.hasHigh) (oG g9 (zb ty4 e) (oG g9 (za2 e) (oG g9 (zm e) (jO 5 27 h (λq10 h=>?_) λJ11 h hJ11=>oI h (λg12 h=>?_) λg12 h=>oG g12 (zm e) (oG g12 (vI e GCon.f5 zjj a_c.high) (oG g12 (zb ty2 e) (oG g12 (zk6 e e) (oG g9 (zg e g12 e) (hJ11 h 5)))))))))
  ·exact oG g3 (zh e g9 e) (hJ8 h 6)
  exact oN g12 (oN g12 (oN g12 (oN g12 (oG g9 (zh e g12 e) (hJ11 h 5)))))
 exact oN g6 (oN g6 (oN g6 (oN g6 (oG g3 (zh e g6 e) (hJ5 h 5)))))


theorem zjf {a_c a_x a_v zcH r} (h:zdv a_c a_x a_v=some r):Ctr Tryz.prog 107 [ptrv zcH (Fld.id GChk),isv a_x,isv a_v] [boxE zcH (a_c:GChk)] (Pt [isv r.1] [boxE zcH (r.2)]):=by
 unfold zdv at h
 refine zi Tryz.func107 e λw0 S0 hT=>ws (oT (tB e (oT (tB e (an e (ws (oV (zb ty26 e) (za h λy1 hy1 h=>oT (tC (zds hy1) hT (s2 e e) k0 (om e (jO 5 14 h (λq2 h=>?_) λJ3 h hJ3=>oI h (λg4 h=>?_) λg4 h=>oN g4 (oN g4 (oN g4 (oN g4 (oV (zg e g4 e) (hJ3 h 5))))))))))))))))
 ·refine om e (jO 12 27 h (λq5 h=>?_) λJ6 h hJ6=>oI h (λg7 h=>?_) λg7 h=>oN g7 (oN g7 (oN g7 (oN g7 (oU (oU (oU (oU (oU (oU (oN g7 (oV (zg e g7 e) (hJ6 h 12)))))))))))))
  ·refine om e (jO 9 37 h (λq12 h=>?_) λJ13 h hJ13=>oI h (λg14 h=>?_) λg14 h=>oN g14 (oN g14 (oN g14 (oN g14 (oU (oU (oU (oN g14 (oV (zg e g14 e) (hJ13 h 9))))))))))
   ·exact ar e (ze (r1 e) k1 (iS h ▸ ⟨e,e⟩))
   refine oG g14 (vI e GTyp.f0 zdI a_x.kind) (oG g14 (zb ty3 e) (oG g14 (zP e e) (oG g14 (zm e) (jO 4 36 h (λq15 h=>?_) λJ16 h hJ16=>oI h (λg17 h=>?_) λg17 h=>oG g17 (vI e Val.f2 zdR a_v.b) (oG g17 (zb ty22 e) (za h λy18 hy18 h=>oH g17 (tC (zjk hy18) hT (s1 e) k0 (oG g14 (zg e g17 e) (hJ16 h 4)))))))))
   ·exact oV (zh e g14 e) (hJ13 h 6)
   exact oN g17 (oN g17 (oN g17 (oG g14 (zh e g17 e) (hJ16 h 4))))
  refine oG g7 (vI e GTyp.f2 zhw a_x.con) (oG g7 (vI e GCon.f3 zm4 a_x.con.more) (oG g7 (zb ty4 e) (oG g7 (zm e) (jO 7 26 h (λq8 h=>?_) λJ9 h hJ9=>oI h (λg10 h=>?_) λg10 h=>oG g10 (vI e GTyp.f2 zhw a_x.con) (oG g10 (zb ty125 e) (oG g10 (vI e Val.f2 zdR a_v.b) (oG g10 (zb ty22 e) (oG g10 (vN e sl22) (za h λy11 hy11 h=>oH g10 (tC (zhp hy11) hT (s2 e e) k0 (oG g7 (zg e g10 e) (hJ9 h 7))))))))))))
  ·exact oV (zh e g7 e) (hJ6 h 6)
  exact oN g10 (oN g10 (oN g10 (oN g10 (oN g10 (oN g10 (oG g7 (zh e g10 e) (hJ9 h 7)))))))
 exact oG g4 (vI e Val.f2 zdR a_v.b) (oG g4 (zb ty22 e) (oG g4 (vN e sl22) (oG g4 (zk6 e e) (oV (zh e g4 e) (hJ3 h 5)))))


theorem zol {a_t a_i r} (h:zha a_t a_i=some r):Ctr Tryz.prog 219 [isv a_t,isv a_i] [] (Pt [isv r] []):=by
 unfold zha at h
 refine zi Tryz.func219 e λw0 S0 hT=>ws (oT (tB e (oT (zX _ ze129 λb1=>rn (ss (om e (oV (zau e e) (om e (jO 6 13 h (λq2 h=>?_) λJ3 h hJ3=>oI h (λg4 h=>?_) λg4 h=>oG g4 (zm e) (oG g4 (vI e GTab.f3 zfC a_t.types) (oG g4 (zb ty29 e) (oG g4 (vN e sl29) (oG g4 (zdT e e) (oV (zg e g4 e) (hJ3 h 6)))))))))))))))
 ·refine rn (zd h e (λ_ h=>?_) (λ_ h=>wk (ws (oV (vI e GTab.f3 zfC a_t.types) (oV (zb ty29 e) (om e (za h λy5 hy5 h=>oV (vX e e sl29 hy5) (oV (zb ty129 e) (oT (tS ty129 e e p0 y5 (rn (zbK (ze (.cell e .here ty129 .nil) k0 (iS h ▸ ⟨e,e⟩))))))))))))))
  exact ws (oV (zao (z:=(GTyp.mk (0:Int) ([]:(List Tag)) (GCon.mk false false false false (0:Int) (0:Int)) ([]:(List GItem)) ([]:(List GFld)) (0:Int) false (0:Int))) e bu129 ze129 .nil) (oT (tS ty129 e e p0 ⟨0,[],⟨false,false,false,false,0,0⟩,[],[],0,false,0⟩ (rn (zbK (zD (ze (.cell e .here ty129 .nil) k0 (iS h ▸ ⟨e,e⟩))))))))
 exact oN g4 (oN g4 (oN g4 (oN g4 (oN g4 (oV (zh e g4 e) (hJ3 h 6))))))


theorem zn7 {zfe a_to r} (h:zgz zfe a_to=some r):Ctr Tryz.prog 220 [isv zfe,isv a_to] [] (Pt1 (λu1=>[vecv u1 ((r).length)]) λu1=>[vecE u1 r]):=by
 unfold zgz at h
 refine zi Tryz.func220 e λw0 S0 hT=>ws (oa e (zah (zgo (α:=Int)) (zah (zcp 4 e nilvV) (rn (ws (oa e (zah (zgo (α:=Int)) (zah (zcp 5 e nilvV) (rn (ss (om e (an e (zn (lP h Vt none (λq3 g3=>[(5,vecv g3 (q3.1.length)),(6,isv q3.2)]) (λq3 g3=>[vecE g3 q3.1]) (zB (j:=5) e (vecvE (by first | rfl | simp)) (zB (j:=6) e hI zay)) k1 λL4 q3 g3 Q13 h hL4 eL4 rL4=>ss (om e (om e (oV (zau e e) (rn (zd h e (λ_ h=>?_) (λ_ h=>xn (eL4 _ _ (zw (zp (ws (om e (ar e (ze (.as e (vecvE (by first | rfl | simp)) .nil) k1 ?_)))))))))))))))))))))))))))
 ·exact wk (zF (zn (zj (om e (om e (oT (zA (l:=([q3.2]:(List Int))) el28 (.cons e hI .nil) e e (zam h λq11 h=>oT (zjs (m:=([q3.2]:(List Int))) zgh e e zx .here (by first | rfl | simp) q11 λv10=>oa e (rb (zp (zj (om e (zy h λq12 h=>oV (zaa e e q12) (oa e (zN (hL4 h v10 13)))))))))))))))))
 exact iS h ▸ ⟨g3,e,e⟩


theorem zk8 {a_t a_i r} (h:zgc a_t a_i=some r):Ctr Tryz.prog 191 [isv a_t,isv a_i] [] (Pt [isv r] []):=by
 unfold zgc at h
 refine zi Tryz.func191 e λw0 S0 hT=>ws (oT (tB e (oa e (zah (zbC) (zah (zgo (α:=NL Int)) (zah (zcp 4 e nilvV) (rn (ws (oV (zb ty31 e) (om e (za h λy3 hy3 h=>oT (tC (zol hy3) hT (s2 e e) k0 (oT (zX _ ze129 λb4=>oT (tS ty129 e e p0 y3 (zah (zaJ 5 .here e) (rn (ss (oV (vI e GTyp.f0 zdI y3.kind) (oV (zb ty3 e) (oV (zbz e e) (om e (jO 4 21 h (λq5 h=>?_) λJ6 h hJ6=>oI h (λg7 h=>?_) λg7 h=>oN g7 (oN g7 (oN g7 (oV (zg e g7 e) (hJ6 h 4)))))))))))))))))))))))))))
 ·refine om e (jO 4 26 h (λq8 h=>?_) λJ9 h hJ9=>oI h (λg10 h=>?_) λg10 h=>oN g10 (oN g10 (oN g10 (oV (zg e g10 e) (hJ9 h 4)))))
  ·refine rn (zd h e (λ_ h=>?_) (λ_ h=>wk (ws (oa e (zah (zbC) (zah (zgo (α:=NL Int)) (zah (zcp 6 e nilvV) (rn (ss (oV (vI e GTyp.f5 zik y3.root) (oV (zb ty3 e) (oV (zvH e e) (oV (vI e GTyp.f4 zbi y3.fields) (oV (zb ty127 e) (oV (vN e sl127) (za h λy15 hy15 h=>oT (tC1 (zn7 hy15) hT (s2 e e) k0 (λv16=>oV (zhZ sl28 e) (om e (rn (zn (lP h (Vt × Tok) (none,none) (λq17 g17=>[(6,vecv g17.1 (q17.1.length)),(35,isv q17.2)]) (λq17 g17=>[vecE g17.1 (nestL g17.2 (q17.1:List (List Int))),tokE g17.2]) (zB (j:=6) e (vecvE (by first | rfl | simp)) (zB (j:=35) e hI zay)) (a1 (a1 k0)) λL18 q17 g17 Q79 h hL18 eL18 rL18=>ws (oV (zau e e) (rn (zF (zd h e (λ_ h=>?_) (λ_ h=>xn (eL18 _ _ ?_))))))))))))))))))))))))))))
   ·exact ws (oa e (zah (zbC) (zah (zgo (α:=NL Int)) (zah (zcp 4 e nilvV) (rn (zbK (zD (zm9 (zmj 4 .here e (by first | rfl | simp)) (zm9 (zcp 4 e (zqT (t:=none) (L:=(([]:(List (List Int))):List (List Int))))) (ze (r1 e) k0 (iS h ▸ ⟨e,e⟩)))))))))))
   ·refine wk (zF (jw h (Vt × Tok) (λq49 g49=>[(6,vecv g49.1 (q49.length))]) (λq49 g49=>[vecE g49.1 (nestL g49.2 (q49:List (List Int))),tokE g49.2]) k2 (λq49 g49 h=>?_) λJ50 h hJ50=>zn (ws (zaj h λq51 h=>oV (zdw (α:=Int) sl28 e e q51.1 q51.2) (za h λy52 hy52 h=>oT (zeS ty3 e (.there (.there .here)) hy52 (an e (ws (om e (oV (zhZ sl178 e) (zy h λq53 h=>oV (zhh e e q53) (an e (ss (oV (vI e GTyp.f4 zbi y3.fields) (oV (zb ty127 e) (om e (za h λy54 hy54 h=>oV (vX e e sl127 hy54) (oV (vI e GFld.f5 zm6 y54.group) (oV (zb ty3 e) (an e (ws (oV (vI e GTyp.f0 zdI y3.kind) (oV (zb ty3 e) (oV (zbz e e) (om e ?_)))))))))))))))))))))))))
    ·exact zj (zy h λq78 h=>oV (zaa e e q78) (om e (zN (hL18 h (g49.1,g49.2) 6))))
    refine jO 3 54 h (λq55 h=>?_) λJ56 h hJ56=>oI h (λg57 h=>?_) λg57 h=>oN g57 (oN g57 (oV (zg e g57 e) (hJ56 h 3)))
    ·refine om e (jO 3 58 h (λq58 h=>?_) λJ59 h hJ59=>oI h (λg60 h=>?_) λg60 h=>oN g60 (oN g60 (oV (zg e g60 e) (hJ59 h 3))))
     ·refine om e (jO 10 69 h (λq61 h=>?_) λJ62 h hJ62=>oI h (λg63 h=>?_) λg63 h=>oN g63 (oN g63 (oN g63 (oN g63 (oN g63 (oN g63 (oN g63 (oN g63 (oN g63 (oV (zg e g63 e) (hJ62 h 10)))))))))))
      ·refine rn (zd h e (λ_ h=>?_) (λ_ h=>wk (zj (om e (om e (oT (zA (l:=([y52]:(List Int))) el28 (.cons e hI .nil) e e (zah (zbC) (oT (zA (l:=[NL.mk (([y52]:(List Int))) (some none)]) el178 (.cons e ztC .nil) e e (zam h λq77 h=>oT (zjs (m:=[NL.mk (([y52]:(List Int))) (some none)]) zoE e e zx (.there .here) (by first | rfl | simp) (by rw [zgD];exact q77) λv76=>zah (ztS .here) (zah (zcp (R':=vecv v76 (q17.1 ++ [([y52]:(List Int))]).length) 84 e (vecvE (by simp))) (oa e (rb (hJ50 h (v76,none) 30))))))))))))))))
       exact ws (om e (om e (om e (om e (zaj h λq66 h=>oV (zdw (α:=NL Int) sl178 e e q66.1 q66.2) (zaj h λq67 h=>za h λy68 hy68 h=>oT (zeS ty28 e .here (zlu q67 hy68) (zah (zcp 75 e zv6) (om e (oT (zA (l:=([y52]:(List Int))) el28 (.cons e hI .nil) e e (zam h λq71 h=>oT (zcj (l:=y68) (m:=([y52]:(List Int))) zgh e hI e zx (.there .here) q71 λt70=>zaj h λq72 h=>oV (zdw (α:=NL Int) sl178 e e q72.1 q72.2) (zaj h λq73 h=>za h λy74 hy74 h=>zah (zcp 78 e ztC) (oT (zeu ty28 e e (.there .here) (zlu q73 hy74) (zah (ztF .here (zoI q73)) (zah (zcp (R':=vecv g17.1 (q17.1.set ((((q17.1.length:Nat):Int) - (1:Int)).toNat) (y68 ++ ([y52]:(List Int)))).length) 6 e (vecvE (by simp))) (zah (zcp (R':=vecv g17.1 (q17.1.set ((((q17.1.length:Nat):Int) - (1:Int)).toNat) (y68 ++ ([y52]:(List Int)))).length) 39 e (vecvE (by simp))) (zah (zcp (R':=vecv g17.1 (q17.1.set ((((q17.1.length:Nat):Int) - (1:Int)).toNat) (y68 ++ ([y52]:(List Int)))).length) 70 e (vecvE (by simp))) (zah (zcp (R':=vecv g17.1 (q17.1.set ((((q17.1.length:Nat):Int) - (1:Int)).toNat) (y68 ++ ([y52]:(List Int)))).length) 72 e (vecvE (by simp))) (rn (xn (zw (hJ50 h (g17.1,t70) 39)))))))))))))))))))))))))
      exact oG g63 (vI e GTyp.f4 zbi y3.fields) (oG g63 (zb ty127 e) (oG g63 (zm e) (zy h λq64 h=>oG g63 (zhh e e q64) (za h λy65 hy65 h=>oG g63 (vX e e sl127 hy65) (oG g63 (vI e GFld.f5 zm6 y65.group) (oG g63 (zb ty3 e) (oG g63 (zm e) (oG g63 (zP e e) (oV (zh e g63 e) (hJ62 h 10))))))))))
     exact oG g60 (zm e) (oG g60 (zdT e e) (oV (zh e g60 e) (hJ59 h 3)))
    exact oG g57 (zm e) (oG g57 (zcy e e) (oV (zh e g57 e) (hJ56 h 3)))
   exact zw (zp (ws (om e (ar e (zm9 (zmj 4 .here e (by first | rfl | simp)) (zm9 (zcp 4 e (zqT (t:=g17.2) (L:=(q17.1:List (List Int))))) (ze (r1 e) k0 (iS h ▸ ⟨e,e⟩))))))))
  exact oG g10 (vI e GTyp.f0 zdI y3.kind) (oG g10 (zb ty3 e) (oG g10 (zbz e e) (oV (zh e g10 e) (hJ9 h 4))))
 exact oG g7 (vI e GTyp.f0 zdI y3.kind) (oG g7 (zb ty3 e) (oG g7 (zbz e e) (oV (zh e g7 e) (hJ6 h 4))))


theorem zqn {a_a a_b r} (h:zmG a_a a_b=some r):Ctr Tryz.prog 192 [isv a_a,isv a_b] [] (Pt [isv r] []):=by
 unfold zmG at h
 refine zi Tryz.func192 e λw0 S0 hT=>ws (oT (tB e (oT (tB e (an e (ss (oV (vI e Tag.f0 zks a_a.cls) (oV (zb ty3 e) (oV (vI e Tag.f0 zks a_b.cls) (oV (zb ty3 e) (oV (zbz e e) (rn (zd h e (λ_ h=>?_) (λ_ h=>wk (ws (oV (vI e Tag.f1 zfQ a_a.num) (oV (zb ty3 e) (oV (vI e Tag.f1 zfQ a_b.num) (oV (zb ty3 e) (oV (zau e e) (ar e (ze (r1 e) k0 (iS h ▸ ⟨e,e⟩)))))))))))))))))))))))
 exact ws (oV (vI e Tag.f0 zks a_a.cls) (oV (zb ty3 e) (oV (vI e Tag.f0 zks a_b.cls) (oV (zb ty3 e) (oV (zau e e) (ar e (zD (ze (r1 e) k0 (iS h ▸ ⟨e,e⟩)))))))))

end Go.Proofs.Q


namespace Go.Proofs.Q
open Go.Sy
set_option maxRecDepth 4000
theorem zjU {a_c a_i a_v zcH r} (h:zdl a_c a_i a_v=some r):Ctr Tryz.prog 158 [ptrv zcH (Fld.id GChk),isv a_i,isv a_v] [boxE zcH (a_c:GChk)] (Pt [isv r.1] [boxE zcH (r.2)]):=by
 unfold zdl at h
 refine zi Tryz.func158 e λw0 S0 hT=>ws (oT (tB e (an e (ws (om e (oV (zf e) (oV (zu e GChk.f0 zgu) (oV (zu e GTbd.f0 zgE) (oV (zu e GTab.f3 zfC) (oT (tL ty29 e p0 a_c.tabled.t.types (om e (za h λy1 hy1 h=>oV (vX e e sl29 hy1) (oV (zb ty129 e) (oT (zX _ ze129 λb2=>oT (tS ty129 e e p0 y1 (zah (zaJ 7 .here e) (rn (ss (oV (vI e Val.f5 zjn a_v.more) (oV (zb ty24 e) (oV (vN e sl24) (oV (zP e e) (rn (zd h e (λ_ h=>?_) (λ_ h=>wk (ss (oV (vI e GTyp.f6 zkJ y1.more) (oV (zb ty4 e) ?_))))))))))))))))))))))))))))))
 ·exact ws (oV (vI e Val.f4 zgJ a_v.rule) (oV (zb ty3 e) (oV (zP e e) (ar e (zD (ze (r1 e) k1 (iS h ▸ ⟨e,e⟩)))))))
 refine oV (za2 e) (om e (jO 9 42 h (λq3 h=>?_) λJ4 h hJ4=>oI h (λg5 h=>?_) λg5 h=>oG g5 (vI e Val.f4 zgJ a_v.rule) (oG g5 (zb ty3 e) (oG g5 (zbz e e) (oG g5 (zm e) (jO 4 41 h (λq6 h=>?_) λJ7 h hJ7=>oI h (λg8 h=>?_) λg8 h=>oN g8 (oN g8 (oN g8 (oG g5 (zg e g8 e) (hJ7 h 4))))))))))
 ·refine rn (zd h e (λ_ h=>?_) (λ_ h=>wk (ws (om e (oV (zf e) (oV (zu e GChk.f0 zgu) (oV (zu e GTbd.f0 zgE) (oT (tL ty31 e p0 a_c.tabled.t (om e (za h λy9 hy9 h=>oT (tC (zk8 hy9) hT (s2 e e) k0 (oV (vN e sl178) (an e (ws (oT (zX _ ze206 λb10=>rn (ss (oV (vI e Val.f5 zjn a_v.more) (oV (zb ty24 e) (oV (vN e sl24) (om e (rn (zn (lP h Unit () (λq11 g11=>[(8,isv q11.1),(54,isv q11.2.1)]) (λq11 g11=>[boxE b10 (q11.2.2.1:Tag),boxE zcH (q11.2.2.2:GChk)]) (zB (j:=8) e hI (zB (j:=54) e hI zay)) k2 λL12 q11 g11 Q69 h hL12 eL12 rL12=>ws (oV (zau e e) (rn (zF (zd h e (λ_ h=>?_) (λ_ h=>?_))))))))))))))))))))))))))))))
  ·exact ws (ar e (zD (ze (r1 e) k1 (iS h ▸ ⟨e,e⟩))))
  ·refine wk (zF (jw h Unit (λq41 g41=>[(8,isv q41.1)]) (λq41 g41=>[boxE b10 (q41.2.1:Tag),boxE zcH (q41.2.2:GChk)]) k2 (λq41 g41 h=>?_) λJ42 h hJ42=>zn (ws (om e (za h λy43 hy43 h=>oV (vX e e sl24 hy43) (oV (zb ty92 e) (oT (zX _ ze92 λb44=>oa e (oT (tS ty92 e e p0 y43 (zah (zaJ 11 .here e) (rn (ss (oV (vI e Val.f4 zgJ a_v.rule) (oV (zb ty3 e) (oV (zP e e) (rn (zd h e (λ_ h=>?_) (λ_ h=>wk (ws (om e (om e (oV (vI e Raw.f1 zmn y43.b) (oV (zb ty22 e) (za h λy53 hy53 h=>oT (tC (zge hy53) hT (s3 e e e) (a1 k0) (om e (oV (zr e e) ?_))))))))))))))))))))))))))))
   ·exact zj (zy h λq68 h=>oV (zaa e e q68) (om e (zN (hL12 h () 6))))
   ·refine ss (oV (vI e Raw.f0 zj1 y43.n) (oV (zb ty3 e) (om e (oV (zau e e) (om e (jO 4 70 h (λq45 h=>?_) λJ46 h hJ46=>oI h (λg47 h=>?_) λg47 h=>oG g47 (vI e Raw.f0 zj1 y43.n) (oG g47 (zb ty3 e) (oG g47 (zdT e e) (oV (zg e g47 e) (hJ46 h 4))))))))))
    ·refine om e (jO 5 76 h (λq48 h=>?_) λJ49 h hJ49=>oI h (λg50 h=>?_) λg50 h=>oG g50 (vI e Raw.f1 zmn y43.b) (oG g50 (zb ty22 e) (za h λy51 hy51 h=>oH g50 (tC (zmf hy51) hT (s1 e) k0 (oG g50 (za2 e) (oV (zg e g50 e) (hJ49 h 5)))))))
     ·refine rn (zd h e (λ_ h=>?_) (λ_ h=>wk (ws (oV (vI e Raw.f0 zj1 y43.n) (oV (zb ty3 e) (zy h λq52 h=>oV (zaa e e q52) (an e (xn (zw (hJ42 h () 21))))))))))
      exact ws (ar e (zD (zD (bn (rL12 _ (bn (ze (r1 e) (a1 k0) (iS h ▸ ⟨e,e⟩))))))))
     exact oN g50 (oN g50 (oN g50 (oN g50 (oV (zh e g50 e) (hJ49 h 5)))))
    exact oN g47 (oN g47 (oN g47 (oV (zh e g47 e) (hJ46 h 4))))
   refine oV (zr e e) (oT (zX _ ze206 λb54=>oT (tS ty206 e e p0 y53.1 (zah (zaJ 12 .here e) (an e (ss (om e (oV (za2 e) (om e (jO 4 94 h (λq55 h=>?_) λJ56 h hJ56=>oI h (λg57 h=>?_) λg57 h=>oG g57 (vI e Raw.f0 zj1 y43.n) (oG g57 (zb ty3 e) (oG g57 (zbz e e) (oV (zg e g57 e) (hJ56 h 4))))))))))))))
   ·refine om e (jO 14 109 h (λq58 h=>?_) λJ59 h hJ59=>oI h (λg60 h=>?_) λg60 h=>oG g60 (vI e GTyp.f0 zdI y1.kind) (oG g60 (zb ty3 e) (oG g60 (zP e e) (oG g60 (zm e) (jO 3 102 h (λq61 h=>?_) λJ62 h hJ62=>oI h (λg63 h=>?_) λg63 h=>oN g63 (oN g63 (oG g60 (zg e g63 e) (hJ62 h 3))))))))
    ·refine rn (zd h e (λ_ h=>?_) (λ_ h=>wk (zj (oV (zb ty206 e) (oT (tS ty206 e e p1 y53.1 (rb (hJ42 h () 27))))))))
     exact ws (ar e (zD (bn (rL12 _ (bn (ze (r1 e) k1 (iS h ▸ ⟨e,e⟩)))))))
    ·exact oN g60 (oN g60 (oN g60 (oN g60 (oU (oU (oN g60 (oN g60 (oU (oU (oU (oU (oN g60 (oV (zh e g60 e) (hJ59 h 14))))))))))))))
    ·refine oG g60 (zm e) (jO 5 108 h (λq64 h=>?_) λJ65 h hJ65=>oI h (λg66 h=>?_) λg66 h=>oN g66 (oN g66 (oN g66 (oN g66 (oG g60 (zg e g66 e) (hJ65 h 5))))))
     ·exact oV (zg e g60 e) (hJ59 h 8)
     exact oH g66 (tL ty206 e p1 q11.2.2.1 (oG g66 (zb ty206 e) (za h λy67 hy67 h=>oH g66 (tC (zqn hy67) hT (s2 e e) k0 (oG g66 (za2 e) (oG g60 (zh e g66 e) (hJ65 h 5)))))))
    exact oG g63 (zm e) (oG g63 (zcy e e) (oG g60 (zh e g63 e) (hJ62 h 3)))
   exact oN g57 (oN g57 (oN g57 (oV (zh e g57 e) (hJ56 h 4))))
  exact xn (eL12 _ _ (zw (zp (ws (ar e (ze (r1 e) (a1 k0) (iS h ▸ ⟨e,e⟩)))))))
 ·exact oN g5 (oN g5 (oN g5 (oN g5 (oU (oU (oU (oN g5 (oV (zh e g5 e) (hJ4 h 9)))))))))
 ·exact oV (zg e g5 e) (hJ4 h 6)
 exact oG g8 (vI e Val.f4 zgJ a_v.rule) (oG g8 (zb ty3 e) (oG g8 (zbz e e) (oG g5 (zh e g8 e) (hJ7 h 4))))


theorem zhY {a_v r} (h:zeT a_v=some r):Ctr Tryz.prog 61 [isv a_v] [] (Pt [isv r] []):=by
 unfold zeT at h
 refine zi Tryz.func61 e λw0 S0 hT=>ws (oT (tB e (an e (ws (oV (vI e Val.f0 zdy a_v.kind) (oV (zb ty3 e) (oV (zP e e) (om e (jO 3 9 h (λq1 h=>?_) λJ2 h hJ2=>oI h (λg3 h=>?_) λg3 h=>oN g3 (oN g3 (oV (zg e g3 e) (hJ2 h 3))))))))))))
 ·exact ar e (ze (r1 e) k0 (iS h ▸ ⟨e,e⟩))
 exact oG g3 (zb ty26 e) (za h λy4 hy4 h=>oH g3 (tC (zds hy4) hT (s2 e e) k0 (oV (zh e g3 e) (hJ2 h 3))))


theorem zk7 {a_a a_b r} (h:zij a_a a_b=some r):Ctr Tryz.prog 170 [isv a_a,isv a_b] [] (Pt [isv r] []):=by
 unfold zij at h
 exact zi Tryz.func170 e λw0 S0 hT=>ws (an e (ws (om e (oV (zmM (l:=a_a) Tryz.underlying22 Tryz.underlying5 Tryz.underlying9 e hI) (om e (oV (zmM (l:=a_b) Tryz.underlying22 Tryz.underlying5 Tryz.underlying9 e hI) (oV (zaW eq9 e e) (ar e (ze (r1 e) k0 (iS h ▸ ⟨e,e⟩))))))))))


theorem zm1 {a_a a_b r} (h:zfK a_a a_b=some r):Ctr Tryz.prog 173 [isv a_a,isv a_b] [] (Pt [isv r] []):=by
 unfold zfK at h
 refine zi Tryz.func173 e λw0 S0 hT=>ws (oT (tB e (oT (tB e (an e (ws (oV (vI e Raw.f0 zj1 a_a.n) (oV (zb ty3 e) (oV (vI e Raw.f0 zj1 a_b.n) (oV (zb ty3 e) (oV (zP e e) (om e (jO 6 16 h (λq1 h=>?_) λJ2 h hJ2=>oI h (λg3 h=>?_) λg3 h=>oN g3 (oN g3 (oN g3 (oN g3 (oN g3 (oV (zg e g3 e) (hJ2 h 6)))))))))))))))))))
 ·exact ar e (ze (r1 e) k0 (iS h ▸ ⟨e,e⟩))
 exact oG g3 (vI e Raw.f1 zmn a_a.b) (oG g3 (zb ty22 e) (oG g3 (vI e Raw.f1 zmn a_b.b) (oG g3 (zb ty22 e) (za h λy4 hy4 h=>oH g3 (tC (zk7 hy4) hT (s2 e e) k0 (oV (zh e g3 e) (hJ2 h 6)))))))


theorem zdS {a_s1 a_s2 r} (h:zaZ a_s1 a_s2=some r):Ctr Tryz.prog 172 [isv a_s1,isv a_s2,clov 173 []] [] (Pt [isv r] []):=by
 unfold zaZ at h
 refine zi Tryz.func172 e λw0 S0 hT=>ws (an e (ss (om e (oV (vN e sl24) (om e (oV (vN e sl24) (oV (zbz e e) (rn (zd h e (λ_ h=>?_) (λ_ h=>wk (ss (om e (oV (vN e sl24) (om e (rn (zn (lO 17 h e λL2 q1 Q15 h hL2 eL2 rL2=>ws (oV (zau e e) (rn (zF (zd h e (λ_ h=>?_) (λ_ h=>xn (eL2 _ _ (zw (zp (ws (ar e ?_)))))))))))))))))))))))))))
 ·exact ws (ar e (zD (ze (r1 e) k0 (iS h ▸ ⟨e,e⟩))))
 ·refine wk (zF (zn (ws (om e (za h λy9 hy9 h=>oV (vX e e sl24 hy9) (oV (zb ty92 e) (oT (zX _ ze92 λb10=>oa e (oT (tS ty92 e e p0 y9 (zah (zaJ 8 .here e) (rn (ws (om e (om e (za h λy11 hy11 h=>oV (vX e e sl24 hy11) (oV (zb ty92 e) (oT (zX _ ze92 λb12=>oT (tS ty92 e e p0 y11 (zah (zaJ 9 .here e) (rn (ws (om e (oV (zb ty92 e) (oV (zb ty92 e) (za h λy13 hy13 h=>oT (zfB e (.same e (.same e .nil)) (zm1 hy13) hT .nil (λR H' hR=>?_)))))))))))))))))))))))))))))
  obtain ⟨rfl,rfl⟩:=hR
  refine oV (za2 e) (rn (zd h e (λ_ h=>?_) (λ_ h=>zC (zs (zp (zj (zy h λq14 h=>oV (zaa e e q14) (om e (zN (hL2 h 21))))))))))
  exact ws (ar e (bn (rL2 _ (bn (ze (r1 e) k0 (iS h ▸ ⟨e,e⟩))))))
 exact ze (r1 e) k0 (iS h ▸ ⟨e,e⟩)


def zgl (f':Val->Val->Option (Bool)):Prop :=
 ∀ {a_a a_b r},f' a_a a_b=some r->Ctr Tryz.prog 130 [isv a_a,isv a_b] [] (Pt [isv r] [])
def zaE (f':(List Val)->(List Val)->Option (Bool)):Prop :=
 ∀ {a_s1 a_s2 r},f' a_s1 a_s2=some r->Ctr Tryz.prog 171 [isv a_s1,isv a_s2,clov 130 []] [] (Pt [isv r] [])
theorem zoy {zeI zK} (zmc:zgl zeI) (zbD:zaE zK):zgl (zgm zeI zK):=by
 intro a_a a_b r h
 unfold zgm at h
 refine zi Tryz.func130 e λw0 S0 hT=>ws (oT (tB e (oT (tB e (an e (ws (oV (vI e Val.f0 zdy a_a.kind) (oV (zb ty3 e) (oV (vI e Val.f0 zdy a_b.kind) (oV (zb ty3 e) (oV (zP e e) (om e (jO 6 16 h (λq1 h=>?_) λJ2 h hJ2=>oI h (λg3 h=>?_) λg3 h=>oN g3 (oN g3 (oN g3 (oN g3 (oN g3 (oV (zg e g3 e) (hJ2 h 6)))))))))))))))))))
 ·refine om e (jO 6 23 h (λq4 h=>?_) λJ5 h hJ5=>oI h (λg6 h=>?_) λg6 h=>oN g6 (oN g6 (oN g6 (oN g6 (oN g6 (oV (zg e g6 e) (hJ5 h 6)))))))
  ·refine om e (jO 6 30 h (λq8 h=>?_) λJ9 h hJ9=>oI h (λg10 h=>?_) λg10 h=>oN g10 (oN g10 (oN g10 (oN g10 (oN g10 (oV (zg e g10 e) (hJ9 h 6)))))))
   ·refine om e (jO 6 37 h (λq12 h=>?_) λJ13 h hJ13=>oI h (λg14 h=>?_) λg14 h=>oN g14 (oN g14 (oN g14 (oN g14 (oN g14 (oV (zg e g14 e) (hJ13 h 6)))))))
    ·refine om e (jO 6 44 h (λq15 h=>?_) λJ16 h hJ16=>oI h (λg17 h=>?_) λg17 h=>oN g17 (oN g17 (oN g17 (oN g17 (oN g17 (oV (zg e g17 e) (hJ16 h 6)))))))
     ·exact ar e (ze (r1 e) k0 (iS h ▸ ⟨e,e⟩))
     exact oG g17 (vI e Val.f5 zjn a_a.more) (oG g17 (zb ty24 e) (oG g17 (vI e Val.f5 zjn a_b.more) (oG g17 (zb ty24 e) (za h λy18 hy18 h=>oH g17 (tC (zdS hy18) hT (s3 e e e) k0 (oV (zh e g17 e) (hJ16 h 6)))))))
    exact oG g14 (vI e Val.f4 zgJ a_a.rule) (oG g14 (zb ty3 e) (oG g14 (vI e Val.f4 zgJ a_b.rule) (oG g14 (zb ty3 e) (oG g14 (zP e e) (oV (zh e g14 e) (hJ13 h 6))))))
   exact oG g10 (vI e Val.f3 zcK a_a.l) (oG g10 (zb ty23 e) (oG g10 (vI e Val.f3 zcK a_b.l) (oG g10 (zb ty23 e) (za h λy11 hy11 h=>oH g10 (tC (zbD hy11) hT (s3 e e e) k0 (oV (zh e g10 e) (hJ9 h 6)))))))
  exact oG g6 (vI e Val.f2 zdR a_a.b) (oG g6 (zb ty22 e) (oG g6 (vI e Val.f2 zdR a_b.b) (oG g6 (zb ty22 e) (za h λy7 hy7 h=>oH g6 (tC (zk7 hy7) hT (s2 e e) k0 (oV (zh e g6 e) (hJ5 h 6)))))))
 exact oG g3 (vI e Val.f1 zcB a_a.n) (oG g3 (zb ty2 e) (oG g3 (vI e Val.f1 zcB a_b.n) (oG g3 (zb ty2 e) (oG g3 (zP e e) (oV (zh e g3 e) (hJ2 h 6))))))

theorem zdb {zeI zK} (zmc:zgl zeI) (zbD:zaE zK):zaE (zar zeI zK):=by
 intro a_s1 a_s2 r h
 unfold zar at h
 refine zi Tryz.func171 e λw0 S0 hT=>ws (an e (ss (om e (oV (vN e sl23) (om e (oV (vN e sl23) (oV (zbz e e) (rn (zd h e (λ_ h=>?_) (λ_ h=>wk (ss (om e (oV (vN e sl23) (om e (rn (zn (lO 17 h e λL2 q1 Q15 h hL2 eL2 rL2=>ws (oV (zau e e) (rn (zF (zd h e (λ_ h=>?_) (λ_ h=>xn (eL2 _ _ (zw (zp (ws (ar e ?_)))))))))))))))))))))))))))
 ·exact ws (ar e (zD (ze (r1 e) k0 (iS h ▸ ⟨e,e⟩))))
 ·refine wk (zF (zn (ws (om e (za h λy9 hy9 h=>oV (vX e e sl23 hy9) (oV (zb ty26 e) (oT (zX _ ze26 λb10=>oa e (oT (tS ty26 e e p0 y9 (zah (zaJ 8 .here e) (rn (ws (om e (om e (za h λy11 hy11 h=>oV (vX e e sl23 hy11) (oV (zb ty26 e) (oT (zX _ ze26 λb12=>oT (tS ty26 e e p0 y11 (zah (zaJ 9 .here e) (rn (ws (om e (oV (zb ty26 e) (oV (zb ty26 e) (za h λy13 hy13 h=>oT (zfB e (.same e (.same e .nil)) (zmc hy13) hT .nil (λR H' hR=>?_)))))))))))))))))))))))))))))
  obtain ⟨rfl,rfl⟩:=hR
  refine oV (za2 e) (rn (zd h e (λ_ h=>?_) (λ_ h=>zC (zs (zp (zj (zy h λq14 h=>oV (zaa e e q14) (om e (zN (hL2 h 21))))))))))
  exact ws (ar e (bn (rL2 _ (bn (ze (r1 e) k0 (iS h ▸ ⟨e,e⟩))))))
 exact ze (r1 e) k0 (iS h ▸ ⟨e,e⟩)

theorem ziH:∀ n,zgl (zfV n)/\zaE (za9 n)
  | 0=>⟨λh=>(by cases h),λh=>(by cases h)⟩
  | n + 1=>by
    obtain ⟨h0,h1⟩:=ziH n
    exact ⟨zoy h0 h1,zdb h0 h1⟩
theorem zmg (n:Nat):zgl (zfV n):=(ziH n).1
theorem zjD {a_c a_i a_v zcH r} (h:zcm a_c a_i a_v=some r):Ctr Tryz.prog 160 [ptrv zcH (Fld.id GChk),isv a_i,isv a_v] [boxE zcH (a_c:GChk)] (Pt [isv r.1] [boxE zcH (r.2)]):=by
 unfold zcm at h
 refine zi Tryz.func160 e λw0 S0 hT=>ws (oT (tB e (an e (ws (om e (oV (zf e) (oV (zu e GChk.f0 zgu) (oV (zu e GTbd.f0 zgE) (oV (zu e GTab.f3 zfC) (oT (tL ty29 e p0 a_c.tabled.t.types (om e (za h λy1 hy1 h=>oV (vX e e sl29 hy1) (oV (zb ty129 e) (oT (zX _ ze129 λb2=>oT (tS ty129 e e p0 y1 (zah (zaJ 7 .here e) (rn (ss (om e (oV (zf e) (oV (zu e GChk.f0 zgu) (oV (zu e GTbd.f0 zgE) (oT (tL ty31 e p0 a_c.tabled.t (om e (za h λy3 hy3 h=>oT (tC (zk8 hy3) hT (s2 e e) k0 (oV (vN e sl178) (om e ?_)))))))))))))))))))))))))))))))
 refine rn (zn (lO 32 h e λL5 q4 Q90 h hL5 eL5 rL5=>ws (oV (zau e e) (rn (zF (zd h e (λ_ h=>?_) (λ_ h=>xn (eL5 _ _ (zw (zp (ws (ar e (ze (r1 e) k1 (iS h ▸ ⟨e,e⟩))))))))))))))
 refine wk (zF (jw h Unit (λq48 g48=>[]) (λq48 g48=>[]) k0 (λq48 g48 h=>?_) λJ49 h hJ49=>zn (ws (za h λy50 hy50 h=>oV (vX e e sl178 hy50) (oV (zb ty28 e) (an e (zF (zF (zH (.v 0 (.v 1 (.v 2 (.v 3 (.v 4 (.v 5 (.v 6 (.v 7 (.v 8 .nil))))))))) moOrd (by kernel_rfl) (zl e (vI e GTyp.f4 zbi y1.fields) (zl e (zb ty127 e) (rm e e (za h λy51 hy51 h=>zl e (vX e e sl28 hy51) (zl e (zb ty3 e) (za h λy52 hy52 h=>zl e (vX e e sl127 hy52) (zl e (vI e GFld.f5 zm6 y52.group) (zl e (zb ty3 e) (zl e (zP e e) (zak (zp (zd h e (λ_ h=>?_) (λ_ h=>wk (ws (oa e (an e ?_)))))))))))))))))))))))))
 ·exact zj (zy h λq89 h=>oV (zaa e e q89) (om e (zN (hL5 h 4))))
 ·exact xn (zw (hJ49 h () 12))
 refine ss (om e (oV (vN e sl28) (om e (rn (zn (lP h Unit () (λq53 g53=>[(10,isv q53.1),(11,isv q53.2.1),(47,isv q53.2.2)]) (λq53 g53=>[]) (zB (j:=10) e hI (zB (j:=11) e hI (zB (j:=47) e hI zay))) k0 λL54 q53 g53 Q88 h hL54 eL54 rL54=>ws (oV (zau e e) (rn (zF (zd h e (λ_ h=>?_) (λ_ h=>xn (eL54 _ _ (zw (zp (ws (om e (om e (jO 2 89 h (λq85 h=>?_) λJ86 h hJ86=>oI h (λg87 h=>?_) λg87 h=>oN g87 (oV (zg e g87 e) (hJ86 h 2))))))))))))))))))))
 ·refine wk (zF (zn (ws (za h λy67 hy67 h=>oV (vX e e sl28 hy67) (oV (zb ty3 e) (an e (ws (oV (vI e Val.f3 zcK a_v.l) (oV (zb ty23 e) (om e (za h λy68 hy68 h=>oV (vX e e sl23 hy68) (oV (zb ty26 e) (za h λy69 hy69 h=>oT (tC (zhY hy69) hT (s1 e) k0 (oV (za2 e) (an e (ws (om e (om e (jO 2 61 h (λq70 h=>?_) λJ71 h hJ71=>oI h (λg72 h=>?_) λg72 h=>oG g72 (zm e) (oV (zg e g72 e) (hJ71 h 2))))))))))))))))))))))
  ·refine an e (zj (om e (om e (jO 21 84 h (λq73 h=>?_) λJ74 h hJ74=>oI h (λg75 h=>?_) λg75 h=>oG g75 (zm e) (oG g75 (za2 e) (oG g75 (zm e) (jO 8 74 h (λq76 h=>?_) λJ77 h hJ77=>oI h (λg78 h=>?_) λg78 h=>oN g78 (oN g78 (oN g78 (oN g78 (oN g78 (oN g78 (oN g78 (oG g75 (zg e g78 e) (hJ77 h 8)))))))))))))))
   ·exact oa e (rb (zp (zj (zy h λq84 h=>oV (zaa e e q84) (om e (zN (hL54 h () 25)))))))
   ·exact oN g75 (oN g75 (oN g75 (oU (oU (oU (oU (oU (oU (oU (oN g75 (oN g75 (oU (oU (oU (oU (oU (oU (oU (oN g75 (oV (zh e g75 e) (hJ74 h 21)))))))))))))))))))))
   ·refine oG g75 (zm e) (jO 8 83 h (λq80 h=>?_) λJ81 h hJ81=>oI h (λg82 h=>?_) λg82 h=>oN g82 (oN g82 (oN g82 (oN g82 (oN g82 (oN g82 (oN g82 (oG g75 (zg e g82 e) (hJ81 h 8)))))))))
    ·exact oV (zg e g75 e) (hJ74 h 7)
    exact oG g82 (vI e GTyp.f4 zbi y1.fields) (oG g82 (zb ty127 e) (oG g82 (zm e) (za h λy83 hy83 h=>oG g82 (vX e e sl127 hy83) (oG g82 (vI e GFld.f3 zji y83.has) (oG g82 (zb ty4 e) (oG g82 (za2 e) (oG g75 (zh e g82 e) (hJ81 h 8))))))))
   exact oG g78 (vI e GTyp.f4 zbi y1.fields) (oG g78 (zb ty127 e) (oG g78 (zm e) (za h λy79 hy79 h=>oG g78 (vX e e sl127 hy79) (oG g78 (vI e GFld.f2 zna y79.optional) (oG g78 (zb ty4 e) (oG g78 (za2 e) (oG g75 (zh e g78 e) (hJ77 h 8))))))))
  exact oN g72 (oV (zh e g72 e) (hJ71 h 2))
 ·refine rn (zd h e (λ_ h=>?_) (λ_ h=>zC (zs (hJ49 h () 24))))
  exact ws (ar e (bn (rL5 _ (bn (ze (r1 e) k1 (iS h ▸ ⟨e,e⟩))))))
 exact oG g87 (zm e) (oV (zh e g87 e) (hJ86 h 2))


def zbo (f':Val->GChk->GTyp->Int->Option (Bool × GChk)):Prop :=
 ∀ {a_w_ a_a1 a_a2 a_a3 zfn r},f' a_w_ a_a1 a_a2 a_a3=some r->Ctr Tryz.prog 157 [isv a_w_,immv (PtrB.mk zfn),immv (a_a2),immv (a_a3)] [boxE zfn (a_a1:GChk)] (Pt [isv r.1] [boxE zfn (r.2)])
def zbv (f':GChk->Int->Val->Int->Option (Bool × GChk)):Prop :=
 ∀ {a_c a_i a_v zJ zcH r},f' a_c a_i a_v zJ=some r->Ctr Tryz.prog 52 [ptrv zcH (Fld.id GChk),isv a_i,isv a_v,isv zJ] [boxE zcH (a_c:GChk)] (Pt [isv r.1] [boxE zcH (r.2)])
def zbV (f':GChk->GTyp->Val->Int->Option (Bool × GChk)):Prop :=
 ∀ {a_c a_x a_v zJ zcH r},f' a_c a_x a_v zJ=some r->Ctr Tryz.prog 108 [ptrv zcH (Fld.id GChk),isv a_x,isv a_v,isv zJ] [boxE zcH (a_c:GChk)] (Pt [isv r.1] [boxE zcH (r.2)])
def zan (f':(List Val)->GChk->GTyp->Int->Option (Bool × GChk)):Prop :=
 ∀ {a_s zeG zfG zjW zdQ r},f' a_s zeG zfG zjW=some r->Ctr Tryz.prog 54 [isv a_s,clov 157 [immv (PtrB.mk zdQ),immv (zfG),immv (zjW)]] [boxE zdQ (zeG:GChk)] (Pt [isv r.1] [boxE zdQ (r.2)])
def zas (f':(List Val)->GChk->GTyp->Int->Option (Int × GChk)):Prop :=
 ∀ {a_s zeG zfG zjW zdQ r},f' a_s zeG zfG zjW=some r->Ctr Tryz.prog 110 [isv a_s,clov 157 [immv (PtrB.mk zdQ),immv (zfG),immv (zjW)]] [boxE zdQ (zeG:GChk)] (Pt [isv r.1] [boxE zdQ (r.2)])
def zbt (f':GChk->Int->Val->Int->Option (Bool × GChk)):Prop :=
 ∀ {a_c a_i a_v zJ zcH r},f' a_c a_i a_v zJ=some r->Ctr Tryz.prog 109 [ptrv zcH (Fld.id GChk),isv a_i,isv a_v,isv zJ] [boxE zcH (a_c:GChk)] (Pt [isv r.1] [boxE zcH (r.2)])
theorem zim {zO zU zad zo zq zT} (zch:zbo zO) (zbX:zbv zU) (zcR:zbV zad) (zaI:zan zo) (zaP:zas zq) (zcx:zbt zT):zbo (zbM zO zU zad zo zq zT):=by
 intro a_w_ a_a1 a_a2 a_a3 zfn r h
 unfold zbM at h
 exact zi Tryz.func157 e λw0 S0 hT=>ws (oT (tB e (an e (ws (oV (zbb (α:=GChk) ty116 e) (oV (vI e GTyp.f7 znl a_a2.of) (oV (zb ty3 e) (oV (zb ty26 e) (oV (zb ty3 e) (zy h λq1 h=>oV (zaa e e q1) (za h λy2 hy2 h=>oT (tC (zbX hy2) hT (s4 e e e e) k1 (oV (za2 e) (ar e (ze (r1 e) k1 (iS h ▸ ⟨e,e⟩))))))))))))))))

theorem zjR {zO zU zad zo zq zT} (zch:zbo zO) (zbX:zbv zU) (zcR:zbV zad) (zaI:zan zo) (zaP:zas zq) (zcx:zbt zT):zbv (zby zO zU zad zo zq zT):=by
 intro a_c a_i a_v zJ zcH r h
 unfold zby at h
 refine zi Tryz.func52 e λw0 S0 hT=>ws (oT (tB e (an e (ss (om e (oV (zau e e) (om e (jO 10 22 h (λq1 h=>?_) λJ2 h hJ2=>oI h (λg3 h=>?_) λg3 h=>oG g3 (zm e) (oG g3 (zm e) (oG g3 (zf e) (oG g3 (zu e GChk.f0 zgu) (oG g3 (zu e GTbd.f0 zgE) (oG g3 (zu e GTab.f3 zfC) (oH g3 (tL ty29 e p0 a_c.tabled.t.types (oG g3 (vN e sl29) (oG g3 (zdT e e) (oV (zg e g3 e) (hJ2 h 10)))))))))))))))))))
 ·refine om e (jO 3 26 h (λq4 h=>?_) λJ5 h hJ5=>oI h (λg6 h=>?_) λg6 h=>oG g6 (zm e) (oG g6 (zcy e e) (oV (zg e g6 e) (hJ5 h 3))))
  ·refine rn (zd h e (λ_ h=>?_) (λ_ h=>wk (ws (om e (oV (zf e) (oV (zu e GChk.f0 zgu) (oV (zu e GTbd.f0 zgE) (oV (zu e GTab.f3 zfC) (oT (tL ty29 e p0 a_c.tabled.t.types (om e (za h λy7 hy7 h=>oV (vX e e sl29 hy7) (oV (zb ty129 e) (oT (zX _ ze129 λb8=>oT (tS ty129 e e p0 y7 (zah (zaJ 9 .here e) (rn (ss (oV (vI e Val.f0 zdy a_v.kind) (oV (zb ty3 e) (oV (zP e e) (rn (zd h e (λ_ h=>?_) (λ_ h=>wk (ss (oV (vI e Val.f0 zdy a_v.kind) (oV (zb ty3 e) (oV (vI e GTyp.f0 zdI y7.kind) (oV (zb ty3 e) ?_))))))))))))))))))))))))))))))
   ·exact ws (ar e (zD (ze (r1 e) k1 (iS h ▸ ⟨e,e⟩))))
   ·exact ws (om e (om e (oV (zb ty26 e) (za h λy9 hy9 h=>oT (tC (ziV hy9) hT (s3 e e e) k1 (ar e (zD (ze (r1 e) k1 (iS h ▸ ⟨e,e⟩)))))))))
   refine oV (zbz e e) (rn (zd h e (λ_ h=>?_) (λ_ h=>wk (ss (oV (vI e GTyp.f0 zdI y7.kind) (oV (zb ty3 e) (rn (zn (ws (oV (zP e e) (an e (zd h e (λ_ h=>?_) (λ_ h=>ws (oV (zP e e) (an e (zd h e (λ_ h=>?_) (λ_ h=>ws (oV (zP e e) (an e (zd h e (λ_ h=>?_) (λ_ h=>ws (oV (zP e e) (an e (zd h e (λ_ h=>?_) (λ_ h=>ss (oV (zP e e) (an e (jW 95 h (λq31 h=>?_) λJ32 h hJ32=>zd h e (λ_ h=>?_) (λ_ h=>?_)))))))))))))))))))))))))))))
   ·exact ws (ar e (zD (ze (r1 e) k1 (iS h ▸ ⟨e,e⟩))))
   ·refine ws (oV (zb ty26 e) (za h λy10 hy10 h=>oT (tC (zds hy10) hT (s2 e e) k0 (om e (jO 9 63 h (λq11 h=>?_) λJ12 h hJ12=>oI h (λg13 h=>?_) λg13 h=>oN g13 (oN g13 (oN g13 (oN g13 (oU (oU (oU (oN g13 (oV (zg e g13 e) (hJ12 h 9))))))))))))))
    ·exact ar e (bn (ze (r1 e) k1 (iS h ▸ ⟨e,e⟩)))
    refine oG g13 (vI e Val.f1 zcB a_v.n) (oG g13 (zb ty2 e) (oG g13 (zP e e) (oG g13 (zm e) (jO 4 62 h (λq14 h=>?_) λJ15 h hJ15=>oI h (λg16 h=>?_) λg16 h=>oG g16 (vI e Val.f1 zcB a_v.n) (oG g16 (zb ty2 e) (oG g16 (zP e e) (oG g13 (zg e g16 e) (hJ15 h 4))))))))
    ·exact oV (zh e g13 e) (hJ12 h 6)
    exact oN g16 (oN g16 (oN g16 (oG g13 (zh e g16 e) (hJ15 h 4))))
   ·refine ws (oV (zb ty26 e) (za h λy17 hy17 h=>oT (tC (zds hy17) hT (s2 e e) k0 (om e (jO 11 79 h (λq18 h=>?_) λJ19 h hJ19=>oI h (λg20 h=>?_) λg20 h=>oN g20 (oN g20 (oN g20 (oN g20 (oU (oU (oU (oU (oU (oN g20 (oV (zg e g20 e) (hJ19 h 11))))))))))))))))
    ·exact ar e (bn (ze (r1 e) k1 (iS h ▸ ⟨e,e⟩)))
    refine oG g20 (vI e GTyp.f2 zhw y7.con) (oG g20 (vI e GCon.f3 zm4 y7.con.more) (oG g20 (zb ty4 e) (oG g20 (zm e) (jO 6 78 h (λq21 h=>?_) λJ22 h hJ22=>oI h (λg23 h=>?_) λg23 h=>oG g23 (vI e GTyp.f2 zhw y7.con) (oG g23 (zb ty125 e) (oG g23 (vI e Val.f1 zcB a_v.n) (oG g23 (zb ty2 e) (za h λy24 hy24 h=>oH g23 (tC (zhp hy24) hT (s2 e e) k0 (oG g20 (zg e g23 e) (hJ22 h 6)))))))))))
    ·exact oV (zh e g20 e) (hJ19 h 6)
    exact oN g23 (oN g23 (oN g23 (oN g23 (oN g23 (oG g20 (zh e g23 e) (hJ22 h 6))))))
   ·refine ws (oV (zb ty26 e) (za h λy25 hy25 h=>oT (tC (zds hy25) hT (s2 e e) k0 (om e (jO 6 90 h (λq26 h=>?_) λJ27 h hJ27=>oI h (λg28 h=>?_) λg28 h=>oN g28 (oN g28 (oN g28 (oN g28 (oN g28 (oV (zg e g28 e) (hJ27 h 6)))))))))))
    ·exact ar e (bn (ze (r1 e) k1 (iS h ▸ ⟨e,e⟩)))
    exact oG g28 (zb ty129 e) (oG g28 (vI e Val.f1 zcB a_v.n) (oG g28 (zb ty2 e) (za h λy29 hy29 h=>oH g28 (tC (zjd hy29) hT (s2 e e) k0 (oG g28 (zdT e e) (oV (zh e g28 e) (hJ27 h 6)))))))
   ·exact ws (oV (zb ty26 e) (za h λy30 hy30 h=>oT (tC (zds hy30) hT (s2 e e) k0 (ar e (bn (ze (r1 e) k1 (iS h ▸ ⟨e,e⟩)))))))
   ·refine zd h e (λ_ h=>?_) (λ_ h=>ws (oV (zP e e) (an e (zd h e (λ_ h=>?_) (λ_ h=>ws (oV (zP e e) (an e (zd h e (λ_ h=>?_) (λ_ h=>ss (oV (zP e e) (an e (jW 149 h (λq52 h=>?_) λJ53 h hJ53=>zd h e (λ_ h=>?_) (λ_ h=>zj (oV (zP e e) (oa e (zN (hJ53 h 2)))))))))))))))))
    ·exact ws (om e (oV (zb ty129 e) (oV (zb ty26 e) (za h λy33 hy33 h=>oT (tC (zjf hy33) hT (s3 e e e) k1 (ar e (bn (ze (r1 e) k1 (iS h ▸ ⟨e,e⟩)))))))))
    ·exact ws (om e (oV (zb ty129 e) (oV (zb ty26 e) (om e (za h λy34 hy34 h=>oT (tC (zcR hy34) hT (s4 e e e e) k1 (ar e (bn (ze (r1 e) k1 (iS h ▸ ⟨e,e⟩))))))))))
    ·refine zF (zH (.v 0 (.t 1 (.v 2 (.v 3 (.v 4 (.v 5 (.v 6 (.v 7 (.v 8 (.v 9 (.v 10 (.v 11 (.v 12 (.v 13 (.v 14 (.v 15 (.v 16 (.v 17 (.v 18 (.v 19 (.v 20 (.v 21 (.v 22 (.v 23 (.v 24 (.v 25 (.v 26 (.v 27 (.v 28 (.v 29 (.v 30 (.v 31 (.v 32 (.v 33 (.v 34 (.v 35 (.t 36 (.v 37 (.v 38 .nil))))))))))))))))))))))))))))))))))))))) moOrd (by kernel_rfl) (zl e (zb ty26 e) (za h λy35 hy35 h=>rT e (tC (zds hy35) hT (s2 e e) k0 (rm e e (jD 4 117 h (λq36 h=>?_) λJ37 h hJ37=>rJ h (λg38 h=>?_) λg38 h=>rP e g38 (rP e g38 (rP e g38 (zl e (zg e g38 e) (hJ37 h 4))))))))))
     ·refine rm e e (jD 7 125 h (λq39 h=>?_) λJ40 h hJ40=>rJ h (λg41 h=>?_) λg41 h=>rP e g41 (rP e g41 (rP e g41 (rP e g41 (rP e g41 (rP e g41 (zl e (zg e g41 e) (hJ40 h 7))))))))
      ·refine rm e e (jD 5 131 h (λq42 h=>?_) λJ43 h hJ43=>rJ h (λg44 h=>?_) λg44 h=>rP e g44 (rP e g44 (rP e g44 (rP e g44 (zl e (zg e g44 e) (hJ43 h 5))))))
       ·refine rm e e (jd 16 h Unit (λq45 g45=>[(148,isv q45.1)]) (λq45 g45=>[boxE zcH (q45.2:GChk)]) k1 (λq45 g45 h=>?_) λJ46 h hJ46=>rJ h (λg47 h=>?_) λg47 h=>rP e g47 (rP e g47 (rP e g47 (rP e g47 (rP e g47 (rP e g47 (rP e g47 (rP e g47 (rP e g47 (rP e g47 (rP e g47 (rP e g47 (rP e g47 (rP e g47 (zey e e (dj:=132) e g47 (zl e (zg e g47 e) (hJ46 h () 16)))))))))))))))))
        ·exact zl e (zaD e) (zak (zp (zbK (bn (ze (r1 e) k1 (iS h ▸ ⟨e,e⟩))))))
        exact rG e g47 (zm e) (rG e g47 (vI e GTyp.f4 zbi y7.fields) (rG e g47 (zb ty127 e) (rG e g47 (vI e Val.f1 zcB a_v.n) (rG e g47 (zb ty2 e) (za h λy48 hy48 h=>rG e g47 (vX e e sl127 hy48) (rG e g47 (vI e GFld.f1 zdH y48.ty) (rG e g47 (zb ty3 e) (rG e g47 (vI e Val.f3 zcK a_v.l) (rG e g47 (zb ty23 e) (za h λy49 hy49 h=>rG e g47 (vX e e sl23 hy49) (rG e g47 (zb ty26 e) (rG e g47 (zm e) (zy h λq50 h=>rG e g47 (zaa e e q50) (za h λy51 hy51 h=>rH e g47 (tC (zbX hy51) hT (s4 e e e e) k1 (zl e (zh e g47 e) (hJ46 h () 16)))))))))))))))))
       exact rG e g44 (vI e Val.f3 zcK a_v.l) (rG e g44 (zb ty23 e) (rG e g44 (vN e sl23) (rG e g44 (zP e e) (zl e (zh e g44 e) (hJ43 h 5)))))
      exact rG e g41 (vI e Val.f1 zcB a_v.n) (rG e g41 (zb ty2 e) (rG e g41 (vI e GTyp.f4 zbi y7.fields) (rG e g41 (zb ty127 e) (rG e g41 (vN e sl127) (rG e g41 (zau e e) (zl e (zh e g41 e) (hJ40 h 7)))))))
     exact rG e g38 (vI e Val.f1 zcB a_v.n) (rG e g38 (zb ty2 e) (rG e g38 (zdT e e) (zl e (zh e g38 e) (hJ37 h 4))))
    ·refine zd h e (λ_ h=>?_) (λ_ h=>zC (zs (zp (ws (ar e (ze (r1 e) k1 (iS h ▸ ⟨e,e⟩)))))))
     exact ws (om e (om e (oV (zb ty26 e) (om e (za h λy54 hy54 h=>oT (tC (zcx hy54) hT (s4 e e e e) k1 (ar e (bn (ze (r1 e) k1 (iS h ▸ ⟨e,e⟩))))))))))
    exact zC (hJ53 h 0)
   ·exact zC (hJ32 h 0)
   exact zj (oV (zP e e) (oa e (zN (hJ32 h 2))))
  exact oN g6 (oN g6 (oV (zh e g6 e) (hJ5 h 3)))
 exact oN g3 (oN g3 (oN g3 (oN g3 (oN g3 (oN g3 (oN g3 (oN g3 (oN g3 (oV (zh e g3 e) (hJ2 h 10))))))))))

theorem zjQ {zO zU zad zo zq zT} (zch:zbo zO) (zbX:zbv zU) (zcR:zbV zad) (zaI:zan zo) (zaP:zas zq) (zcx:zbt zT):zbV (zcn zO zU zad zo zq zT):=by
 intro a_c a_x a_v zJ zcH r h
 unfold zcn at h
 refine zi Tryz.func108 e λw0 S0 hT=>ws (oT (zi8 (y:=PtrB.mk zcH) e zkz (oT (tB e (oT (tB e (oT (tB e (an e (ws (oV (zb ty26 e) (za h λy1 hy1 h=>oT (tC (zds hy1) hT (s2 e e) k0 (om e (jO 12 23 h (λq2 h=>?_) λJ3 h hJ3=>oI h (λg4 h=>?_) λg4 h=>oN g4 (oN g4 (oN g4 (oN g4 (oU (oU (oU (oU (oU (oU (oN g4 (oV (zg e g4 e) (hJ3 h 12)))))))))))))))))))))))))))
 ·refine om e (jo 6 h Unit (λq9 g9=>[(30,isv q9.1)]) (λq9 g9=>[boxE zcH (q9.2:GChk)]) k1 (λq9 g9 h=>?_) λJ10 h hJ10=>oI h (λg11 h=>?_) λg11 h=>oN g11 (oN g11 (oN g11 (oN g11 (oN g11 (oV (zg e g11 e) (hJ10 h () 6)))))))
  ·exact ar e (ze (r1 e) k1 (iS h ▸ ⟨e,e⟩))
  exact oG g11 (vI e Val.f3 zcK a_v.l) (oG g11 (zb ty23 e) (oG g11 (zfp (.same e (.same e (.same e .nil)))) (za h λy12 hy12 h=>oH g11 (tC (zaI hy12) hT (s2 e e) k1 (oG g11 (za2 e) (oV (zh e g11 e) (hJ10 h () 6)))))))
 refine oG g4 (vI e GTyp.f2 zhw a_x.con) (oG g4 (vI e GCon.f3 zm4 a_x.con.more) (oG g4 (zb ty4 e) (oG g4 (zm e) (jO 7 22 h (λq5 h=>?_) λJ6 h hJ6=>oI h (λg7 h=>?_) λg7 h=>oG g7 (vI e GTyp.f2 zhw a_x.con) (oG g7 (zb ty125 e) (oG g7 (vI e Val.f3 zcK a_v.l) (oG g7 (zb ty23 e) (oG g7 (vN e sl23) (za h λy8 hy8 h=>oH g7 (tC (zhp hy8) hT (s2 e e) k0 (oG g4 (zg e g7 e) (hJ6 h 7))))))))))))
 ·exact oV (zh e g4 e) (hJ3 h 6)
 exact oN g7 (oN g7 (oN g7 (oN g7 (oN g7 (oN g7 (oG g4 (zh e g7 e) (hJ6 h 7)))))))

theorem zeF {zO zU zad zo zq zT} (zch:zbo zO) (zbX:zbv zU) (zcR:zbV zad) (zaI:zan zo) (zaP:zas zq) (zcx:zbt zT):zan (zaw zO zU zad zo zq zT):=by
 intro a_s zeG zfG zjW zdQ r h
 unfold zaw at h
 exact zi Tryz.func54 e λw0 S0 hT=>ws (an e (ws (om e (om e (za h λy1 hy1 h=>oT (tC (zaP hy1) hT (s2 e e) k1 (oV (zdT e e) (ar e (ze (r1 e) k1 (iS h ▸ ⟨e,e⟩))))))))))

theorem ze0 {zO zU zad zo zq zT} (zch:zbo zO) (zbX:zbv zU) (zcR:zbV zad) (zaI:zan zo) (zaP:zas zq) (zcx:zbt zT):zas (zaA zO zU zad zo zq zT):=by
 intro a_s zeG zfG zjW zdQ r h
 unfold zaA at h
 refine zi Tryz.func110 e λw0 S0 hT=>ws (an e (ss (om e (oV (vN e sl23) (om e (rn (zn (lP h Unit () (λq1 g1=>[(8,isv q1.1)]) (λq1 g1=>[boxE zdQ (q1.2:GChk)]) (zB (j:=8) e hI zay) k1 λL2 q1 g1 Q9 h hL2 eL2 rL2=>ws (oV (zau e e) (rn (zF (zd h e (λ_ h=>?_) (λ_ h=>xn (eL2 _ _ (zw (zp (ws (ar e (ze (r1 e) k1 (iS h ▸ ⟨e,e⟩))))))))))))))))))))
 refine wk (zF (zn (ws (om e (an e (ws (om e (om e (om e (za h λy6 hy6 h=>oV (vX e e sl23 hy6) (oV (zb ty26 e) (za h λy7 hy7 h=>oT (zfB e (.same e .nil) (zch hy7) hT (.cons .here .nil) (λR H' hR=>?_))))))))))))))
 obtain ⟨rfl,rfl⟩:=hR
 refine rn (zd h e (λ_ h=>?_) (λ_ h=>zC (zs (zp (zj (zy h λq8 h=>oV (zaa e e q8) (om e (zN (hL2 h () 12)))))))))
 exact ws (om e (ar e (bn (rL2 _ (bn (ze (r1 e) k1 (iS h ▸ ⟨e,e⟩)))))))

theorem ziA {zO zU zad zo zq zT} (zch:zbo zO) (zbX:zbv zU) (zcR:zbV zad) (zaI:zan zo) (zaP:zas zq) (zcx:zbt zT):zbt (zb5 zO zU zad zo zq zT):=by
 intro a_c a_i a_v zJ zcH r h
 unfold zb5 at h
 refine zi Tryz.func109 e λw0 S0 hT=>ws (oT (tB e (an e (ws (om e (oV (zf e) (oV (zu e GChk.f0 zgu) (oV (zu e GTbd.f0 zgE) (oV (zu e GTab.f3 zfC) (oT (tL ty29 e p0 a_c.tabled.t.types (om e (za h λy1 hy1 h=>oV (vX e e sl29 hy1) (oV (zb ty129 e) (oT (zX _ ze129 λb2=>oT (tS ty129 e e p0 y1 (zah (zaJ 9 .here e) (rn (ss (oV (zb ty26 e) (za h λy3 hy3 h=>oT (tC (zds hy3) hT (s2 e e) k0 (oV (za2 e) (om e (jO 8 33 h (λq4 h=>?_) λJ5 h hJ5=>oI h (λg6 h=>?_) λg6 h=>oG g6 (vI e Val.f3 zcK a_v.l) (oG g6 (zb ty23 e) (oG g6 (vN e sl23) ?_))))))))))))))))))))))))))))
 ·refine om e (jo 6 h Unit (λq7 g7=>[(40,isv q7.1)]) (λq7 g7=>[boxE zcH (q7.2:GChk)]) k1 (λq7 g7 h=>?_) λJ8 h hJ8=>oI h (λg9 h=>?_) λg9 h=>oG g9 (zm e) (oG g9 (zm e) (oG g9 (zb ty26 e) (za h λy10 hy10 h=>oH g9 (tC (zjU hy10) hT (s3 e e e) k1 (oG g9 (za2 e) (oV (zg e g9 e) (hJ8 h () 6))))))))
  ·refine rn (zd h e (λ_ h=>?_) (λ_ h=>wk (ss (oV (vI e GTyp.f4 zbi y1.fields) (oV (zb ty127 e) (oV (vN e sl127) (om e (rn (zn (lP h Unit () (λq11 g11=>[(44,isv q11.1)]) (λq11 g11=>[boxE zcH (q11.2:GChk)]) (zB (j:=44) e hI zay) k1 λL12 q11 g11 Q57 h hL12 eL12 rL12=>ws (oV (zau e e) (rn (zF (zd h e (λ_ h=>?_) (λ_ h=>xn (eL12 _ _ (zw (zp (ws (om e (om e (oV (zb ty26 e) (za h λy56 hy56 h=>oT (tC (zjD hy56) hT (s3 e e e) k1 (ar e (ze (r1 e) k1 (iS h ▸ ⟨e,e⟩)))))))))))))))))))))))))))
   ·exact ws (ar e (zD (ze (r1 e) k1 (iS h ▸ ⟨e,e⟩))))
   refine wk (zF (jw h Unit (λq35 g35=>[]) (λq35 g35=>[boxE zcH (q35:GChk)]) k1 (λq35 g35 h=>?_) λJ36 h hJ36=>zn (ws (om e (za h λy37 hy37 h=>oV (vX e e sl127 hy37) (oV (zb ty137 e) (oT (zX _ ze137 λb38=>oa e (oT (tS ty137 e e p0 y37 (zah (zaJ 11 .here e) (rn (ws (oV (vI e Val.f3 zcK a_v.l) (oV (zb ty23 e) (om e (za h λy39 hy39 h=>oV (vX e e sl23 hy39) (oV (zb ty26 e) (oT (zX _ ze26 λb40=>oT (tS ty26 e e p0 y39 (zah (zaJ 12 .here e) (rn (zn (ws (oV (vI e Val.f0 zdy y39.kind) (oV (zb ty3 e) (oV (zP e e) ?_))))))))))))))))))))))))))))
   ·exact zj (zy h λq55 h=>oV (zaa e e q55) (om e (zN (hL12 h () 4))))
   refine an e (zd h e (λ_ h=>?_) (λ_ h=>ws (om e (oV (vI e GFld.f1 zdH y37.ty) (oV (zb ty3 e) (oV (zb ty26 e) (om e (zy h λq46 h=>oV (zaa e e q46) (za h λy47 hy47 h=>oT (tC (zbX hy47) hT (s4 e e e e) k1 (oV (za2 e) (om e (jO 9 85 h (λq48 h=>?_) λJ49 h hJ49=>oI h (λg50 h=>?_) λg50 h=>oG g50 (vI e GFld.f3 zji y37.has) (oG g50 (zb ty4 e) (oG g50 (zm e) (jO 5 84 h (λq51 h=>?_) λJ52 h hJ52=>oI h (λg53 h=>?_) λg53 h=>oN g53 (oN g53 (oN g53 (oN g53 (oG g50 (zg e g53 e) (hJ52 h 5)))))))))))))))))))))
   ·refine ws (oV (zb ty26 e) (za h λy41 hy41 h=>oT (tC (zhY hy41) hT (s1 e) k0 (oV (za2 e) (om e (jO 5 66 h (λq42 h=>?_) λJ43 h hJ43=>oI h (λg44 h=>?_) λg44 h=>oG g44 (zb ty129 e) (oG g44 (zm e) (za h λy45 hy45 h=>oH g44 (tC (zlb hy45) hT (s2 e e) k0 (oG g44 (za2 e) (oV (zg e g44 e) (hJ43 h 5))))))))))))
    ·refine rn (zd h e (λ_ h=>?_) (λ_ h=>zC (zs (zs (hJ36 h () 22)))))
     exact ws (ar e (za8 (bn (rL12 _ (bn (ze (r1 e) k1 (iS h ▸ ⟨e,e⟩)))))))
    exact oN g44 (oN g44 (oN g44 (oN g44 (oV (zh e g44 e) (hJ43 h 5)))))
   ·refine an e (zd h e (λ_ h=>?_) (λ_ h=>zC (zs (zs (hJ36 h () 28)))))
    exact ws (ar e (za8 (bn (rL12 _ (bn (ze (r1 e) k1 (iS h ▸ ⟨e,e⟩)))))))
   ·exact oN g50 (oN g50 (oN g50 (oU (oU (oU (oU (oN g50 (oV (zh e g50 e) (hJ49 h 9)))))))))
   ·exact oV (zg e g50 e) (hJ49 h 5)
   exact oG g53 (zb ty26 e) (oG g53 (vI e GFld.f4 zl3 y37.dflt) (oG g53 (zb ty26 e) (za h λy54 hy54 h=>oH g53 (tC (zmg fuel hy54) hT (s2 e e) k0 (oG g50 (zh e g53 e) (hJ52 h 5))))))
  exact oN g9 (oN g9 (oN g9 (oN g9 (oN g9 (oV (zh e g9 e) (hJ8 h () 6))))))
 ·exact oN g6 (oN g6 (oN g6 (oN g6 (oN g6 (oN g6 (oN g6 (oV (zh e g6 e) (hJ5 h 8))))))))
 exact oG g6 (vI e GTyp.f4 zbi y1.fields) (oG g6 (zb ty127 e) (oG g6 (vN e sl127) (oG g6 (zbz e e) (oV (zg e g6 e) (hJ5 h 8)))))

theorem ze7:∀ n,zbo (zaF n)/\zbv (zav n)/\zbV (zaY n)/\zan (zG n)/\zas (zI n)/\zbt (zaM n)
  | 0=>⟨λh=>(by cases h),λh=>(by cases h),λh=>(by cases h),λh=>(by cases h),λh=>(by cases h),λh=>(by cases h)⟩
  | n + 1=>by
    obtain ⟨h0,h1,h2,h3,h4,h5⟩:=ze7 n
    exact ⟨zim h0 h1 h2 h3 h4 h5,zjR h0 h1 h2 h3 h4 h5,zjQ h0 h1 h2 h3 h4 h5,zeF h0 h1 h2 h3 h4 h5,ze0 h0 h1 h2 h3 h4 h5,ziA h0 h1 h2 h3 h4 h5⟩
theorem zkp (n:Nat):zbv (zav n):=(ze7 n).2.1
def zg6 (f':Val->Option (Int)):Prop :=
 ∀ {a_v r},f' a_v=some r->Ctr Tryz.prog 53 [isv a_v] [] (Pt [isv r] [])
theorem zod {zhx} (zoA:zg6 zhx):zg6 (zfM zhx):=by
 intro a_v r h
 unfold zfM at h
 refine zi Tryz.func53 e λw0 S0 hT=>ws (oT (tB e (an e (ws (an e (ss (oV (vI e Val.f3 zcK a_v.l) (oV (zb ty23 e) (oV (vN e sl23) (om e (rn (zn (lP h Unit () (λq1 g1=>[(3,isv q1.1),(9,isv q1.2)]) (λq1 g1=>[]) (zB (j:=3) e hI (zB (j:=9) e hI zay)) k0 λL2 q1 g1 Q13 h hL2 eL2 rL2=>ws (oV (zau e e) (rn (zF (zd h e (λ_ h=>?_) (λ_ h=>xn (eL2 _ _ (zw (zp (ws (om e (ar e (ze (r1 e) k0 (iS h ▸ ⟨e,e⟩))))))))))))))))))))))))))
 exact wk (zF (zn (ws (za h λy8 hy8 h=>oV (vX e e sl23 hy8) (oV (zb ty26 e) (oT (zX _ ze26 λb9=>oT (tS ty26 e e p0 y8 (zah (zaJ 5 .here e) (rn (zj (om e (oV (zb ty26 e) (za h λy10 hy10 h=>oT (tC (zoA hy10) hT (s1 e) k0 (zy h λq11 h=>oV (zaa e e q11) (oa e (rb (zp (zj (zy h λq12 h=>oV (zaa e e q12) (om e (zN (hL2 h () 14))))))))))))))))))))))))

theorem zii:∀ n,zg6 (zhg n)
  | 0=>λh=>(by cases h)
  | n + 1=>zod (zii n)
theorem zov (n:Nat):zg6 (zhg n):=(zii n)

theorem zl4 {a_t a_i a_v r} (h:zeR a_t a_i a_v=some r):Ctr Tryz.prog 25 [isv a_t,isv a_i,isv a_v] [] (Pt [isv r] []):=by
 unfold zeR at h
 refine zi Tryz.func25 e λw0 S0 hT=>ws (oT (tB e (oT (tB e (an e (ws (oV (zb ty31 e) (oV (zao (z:=(GTbd.mk a_t)) e bu118 ze118 (.cons GTbd.f0 zgE e hI .nil)) (oV (zao (z:=(GChk.mk (GTbd.mk a_t) false)) e bu120 ze120 (.cons GChk.f0 zgu e hI .nil)) (oT (zkn (y:=(GChk.mk (GTbd.mk a_t) false)) e hI λb1=>an e (ws (om e (om e (oV (zb ty26 e) (za h λy2 hy2 h=>oT (tC (zkp fuel hy2) hT (s4 e e e e) k1 (om e (jO 4 20 h (λq3 h=>?_) λJ4 h hJ4=>oI h (λg5 h=>?_) λg5 h=>oN g5 (oN g5 (oN g5 (oV (zg e g5 e) (hJ4 h 4)))))))))))))))))))))))
 ·exact ar e (ze (r1 e) k0 (iS h ▸ ⟨e,e⟩))
 exact oG g5 (zb ty26 e) (za h λy6 hy6 h=>oH g5 (tC (zov fuel hy6) hT (s1 e) k0 (oG g5 (zk6 e e) (oV (zh e g5 e) (hJ4 h 4)))))


def zeb (f':Val->Option (Bool)):Prop :=
 ∀ {a_w_ r},f' a_w_=some r->Ctr Tryz.prog 55 [isv a_w_] [] (Pt [isv r] [])
def zeL (f':Val->Option (Bool)):Prop :=
 ∀ {a_v r},f' a_v=some r->Ctr Tryz.prog 26 [isv a_v] [] (Pt [isv r] [])
def zaC (f':(List Val)->Option (Bool)):Prop :=
 ∀ {a_s r},f' a_s=some r->Ctr Tryz.prog 54 [isv a_s,clov 55 []] [] (Pt [isv r] [])
def zaL (f':(List Val)->Option (Int)):Prop :=
 ∀ {a_s r},f' a_s=some r->Ctr Tryz.prog 110 [isv a_s,clov 55 []] [] (Pt [isv r] [])
theorem zmu {zbh zca zt zz} (zfR:zeb zbh) (zhv:zeL zca) (zbd:zaC zt) (zbl:zaL zz):zeb (zeX zbh zca zt zz):=by
 intro a_w_ r h
 unfold zeX at h
 exact zi Tryz.func55 e λw0 S0 hT=>ws (oT (tB e (an e (ws (oV (zb ty26 e) (za h λy1 hy1 h=>oT (tC (zhv hy1) hT (s1 e) k0 (oV (za2 e) (ar e (ze (r1 e) k0 (iS h ▸ ⟨e,e⟩)))))))))))

theorem zos {zbh zca zt zz} (zfR:zeb zbh) (zhv:zeL zca) (zbd:zaC zt) (zbl:zaL zz):zeL (zgt zbh zca zt zz):=by
 intro a_v r h
 unfold zgt at h
 refine zi Tryz.func26 e λw0 S0 hT=>ws (oT (tB e (an e (ws (oV (vI e Val.f0 zdy a_v.kind) (oV (zb ty3 e) (oV (zbz e e) (om e (jO 5 11 h (λq1 h=>?_) λJ2 h hJ2=>oI h (λg3 h=>?_) λg3 h=>oN g3 (oN g3 (oN g3 (oN g3 (oV (zg e g3 e) (hJ2 h 5))))))))))))))
 ·refine om e (jO 5 17 h (λq4 h=>?_) λJ5 h hJ5=>oI h (λg6 h=>?_) λg6 h=>oN g6 (oN g6 (oN g6 (oN g6 (oV (zg e g6 e) (hJ5 h 5))))))
  ·exact ar e (ze (r1 e) k0 (iS h ▸ ⟨e,e⟩))
  exact oG g6 (vI e Val.f3 zcK a_v.l) (oG g6 (zb ty23 e) (za h λy7 hy7 h=>oH g6 (tC (zbd hy7) hT (s2 e e) k0 (oG g6 (za2 e) (oV (zh e g6 e) (hJ5 h 5))))))
 exact oG g3 (vI e Val.f5 zjn a_v.more) (oG g3 (zb ty24 e) (oG g3 (vN e sl24) (oG g3 (zP e e) (oV (zh e g3 e) (hJ2 h 5)))))

theorem zeo {zbh zca zt zz} (zfR:zeb zbh) (zhv:zeL zca) (zbd:zaC zt) (zbl:zaL zz):zaC (zaT zbh zca zt zz):=by
 intro a_s r h
 unfold zaT at h
 exact zi Tryz.func54 e λw0 S0 hT=>ws (an e (ws (om e (om e (za h λy1 hy1 h=>oT (tC (zbl hy1) hT (s2 e e) k0 (oV (zdT e e) (ar e (ze (r1 e) k0 (iS h ▸ ⟨e,e⟩))))))))))

theorem zeP {zbh zca zt zz} (zfR:zeb zbh) (zhv:zeL zca) (zbd:zaC zt) (zbl:zaL zz):zaL (za4 zbh zca zt zz):=by
 intro a_s r h
 unfold za4 at h
 refine zi Tryz.func110 e λw0 S0 hT=>ws (an e (ss (om e (oV (vN e sl23) (om e (rn (zn (lO 8 h e λL2 q1 Q9 h hL2 eL2 rL2=>ws (oV (zau e e) (rn (zF (zd h e (λ_ h=>?_) (λ_ h=>xn (eL2 _ _ (zw (zp (ws (ar e (ze (r1 e) k0 (iS h ▸ ⟨e,e⟩))))))))))))))))))))
 refine wk (zF (zn (ws (om e (an e (ws (om e (om e (om e (za h λy6 hy6 h=>oV (vX e e sl23 hy6) (oV (zb ty26 e) (za h λy7 hy7 h=>oT (zfB e (.same e .nil) (zfR hy7) hT .nil (λR H' hR=>?_))))))))))))))
 obtain ⟨rfl,rfl⟩:=hR
 refine rn (zd h e (λ_ h=>?_) (λ_ h=>zC (zs (zp (zj (zy h λq8 h=>oV (zaa e e q8) (om e (zN (hL2 h 12)))))))))
 exact ws (om e (ar e (bn (rL2 _ (bn (ze (r1 e) k0 (iS h ▸ ⟨e,e⟩)))))))

theorem zhu:∀ n,zeb (zfO n)/\zeL (zfl n)/\zaC (zaH n)/\zaL (zba n)
  | 0=>⟨λh=>(by cases h),λh=>(by cases h),λh=>(by cases h),λh=>(by cases h)⟩
  | n + 1=>by
    obtain ⟨h0,h1,h2,h3⟩:=zhu n
    exact ⟨zmu h0 h1 h2 h3,zos h0 h1 h2 h3,zeo h0 h1 h2 h3,zeP h0 h1 h2 h3⟩
theorem zpD (n:Nat):zeL (zfl n):=(zhu n).2.1
end Go.Proofs.Q


namespace Go.Proofs.Q
open Go.Sy
set_option maxRecDepth 4000
theorem zaR {a_r_ a_k zeU r} (h:zaq a_r_ a_k=some r):Ctr Tryz.prog 117 [ptrv zeU ((Fld.id GLex).comp GLex.f0),isv a_k] [boxE zeU (a_r_:GLex)] (Pt [isv r.1] [boxE zeU (r.2)]):=by
 unfold zaq at h
 refine zi Tryz.func117 e λw0 S0 hT=>ws (an e (zF (zF (zc3 0 .here e (λo1 hn2=>zH (.v 0 (.v 1 (.v 2 (.v 3 (.v 4 (.v 5 (.v 6 (.v 7 (.v 8 (.v 9 (.v 10 (.v 11 .nil)))))))))))) moOrd (by kernel_rfl) (rm e e (zl e (zat e) (zl e (zdM e GLrd.f1 za6) (zl e (vP ty3 e m0 a_r_.reader.at_) (rm e e (zy h λq3 h=>zl e (zaa e e q3) (rm e e (zl e (zat e) (zl e (zdM e GLrd.f0 zgq) (zl e (vP ty9 e m0 a_r_.reader.s) (zl e (zcr st9 e) (zl e (zdT e e) (zak (zaO 0 hn2 e (zp (zd h e (λ_ h=>?_) (λ_ h=>wk (zF (zc3 0 .here e (λo4 hn5=>zH (.v 0 (.v 1 (.v 2 (.v 3 (.v 4 (.v 5 (.v 6 (.v 7 (.v 8 (.v 9 (.v 10 (.v 11 .nil)))))))))))) moOrd (by kernel_rfl) (rm e e (zl e (zat e) ?_)))))))))))))))))))))))))))
 ·exact ws (ar e (zD (ze (r1 e) k1 (iS h ▸ ⟨e,e⟩))))
 exact zl e (zdM e GLrd.f0 zgq) (zl e (vP ty9 e m0 a_r_.reader.s) (rm e e (zl e (zat e) (zl e (zdM e GLrd.f1 za6) (zl e (vP ty3 e m0 a_r_.reader.at_) (rm e e (zy h λq6 h=>zl e (zaa e e q6) (za h λy7 hy7 h=>zl e (zcl y7 st9 e e hy7) (zl e (zaD e) (zak (zaO 0 hn5 e (zp (zbK (ze (r1 e) k1 (iS h ▸ ⟨e,e⟩)))))))))))))))


theorem zgp {a_s zdW r} (h:zbQ a_s zdW=some r):Ctr Tryz.prog 203 [isv a_s,isv zdW] [] (Pt [isv r] []):=by
 unfold zbQ at h
 refine zi Tryz.func203 e λw0 S0 hT=>ws (an e (ws (om e (oV (zcr st9 e) (om e (oV (zcr st9 e) (oV (zdT e e) (om e (jO 7 17 h (λq1 h=>?_) λJ2 h hJ2=>oI h (λg3 h=>?_) λg3 h=>oN g3 (oN g3 (oN g3 (oN g3 (oN g3 (oN g3 (oV (zg e g3 e) (hJ2 h 7))))))))))))))))
 ·exact ar e (ze (r1 e) k0 (iS h ▸ ⟨e,e⟩))
 exact oG g3 (zm e) (oG g3 (zm e) (oG g3 (zcr st9 e) (zaj h λq4 h=>oG g3 (zgH st9 e (.inl ⟨e,e⟩) (.inr ⟨_,e,e⟩) q4.1 q4.2.1 q4.2.2) (oG g3 (zm e) (oG g3 (zaW eq9 e e) (oV (zh e g3 e) (hJ2 h 7)))))))


theorem zkT {a_s zdW r} (h:zfa a_s zdW=some r):Ctr Tryz.prog 163 [isv a_s,isv zdW] [] (Pt [isv r] []):=by
 unfold zfa at h
 exact zi Tryz.func163 e λw0 S0 hT=>ws (an e (ws (om e (om e (za h λy1 hy1 h=>oT (tC (zgp hy1) hT (s2 e e) k0 (ar e (ze (r1 e) k0 (iS h ▸ ⟨e,e⟩)))))))))


theorem zdi {a_r_ a_t zeU r} (h:zb9 a_r_ a_t=some r):Ctr Tryz.prog 118 [ptrv zeU ((Fld.id GLex).comp GLex.f0),isv a_t] [boxE zeU (a_r_:GLex)] (Pt [isv r.1] [boxE zeU (r.2)]):=by
 unfold zb9 at h
 exact zi Tryz.func118 e λw0 S0 hT=>ws (an e (zF (zc3 0 .here e (λo1 hn2=>zH (.v 0 (.v 1 (.v 2 (.v 3 (.v 4 (.v 5 (.v 6 (.v 7 (.v 8 (.v 9 (.t 10 (.v 11 .nil)))))))))))) moOrd (by kernel_rfl) (rm e e (zl e (zat e) (zl e (zdM e GLrd.f0 zgq) (zl e (vP ty9 e m0 a_r_.reader.s) (rm e e (zl e (zat e) (zl e (zdM e GLrd.f1 za6) (zl e (vP ty3 e m0 a_r_.reader.at_) (zaj h λq3 h=>zl e (zgH st9 e (.inr ⟨_,e,e⟩) (.inl ⟨e,e⟩) q3.1 q3.2.1 q3.2.2) (rm e e (za h λy4 hy4 h=>rT e (tC (zkT hy4) hT (s2 e e) k0 (zl e (zaD e) (zak (zaO 0 hn2 e (zp (zbK (ze (r1 e) k1 (iS h ▸ ⟨e,e⟩)))))))))))))))))))))))


theorem zil {a_r_ zeU r} (h:zdN a_r_=some r):Ctr Tryz.prog 65 [ptrv zeU ((Fld.id GLex).comp GLex.f0)] [boxE zeU (a_r_:GLex)] (Pt [] [boxE zeU (r)]):=by
 unfold zdN at h
 refine zi Tryz.func65 e λw0 S0 hT=>zn (lP h Unit () (λq1 g1=>[(0,ptrv zeU ((Fld.id GLex).comp GLex.f0))]) (λq1 g1=>[boxE zeU (q1:GLex)]) (zB (j:=0) e hI zay) k1 λL2 q1 g1 Q123 h hL2 eL2 rL2=>zF (zF (zc3 0 .here e (λo63 hn64=>zH (.v 0 (.v 1 (.v 2 (.v 3 (.v 4 (.v 5 (.v 6 (.v 7 (.v 8 (.v 9 .nil)))))))))) moOrd (by kernel_rfl) (rm e e (zl e (zat e) (zl e (zdM e GLrd.f1 za6) (zl e (vP ty3 e m0 q1.reader.at_) (rm e e (zl e (zat e) (zl e (zdM e GLrd.f0 zgq) (zl e (vP ty9 e m0 q1.reader.s) (zl e (zcr st9 e) (zl e (zau e e) (zak (zaO 0 hn64 e (zp (zd h e (λ_ h=>?_) (λ_ h=>xn (eL2 _ _ (zw (zaQ .nil k1 (iS h ▸ ⟨e,e⟩)))))))))))))))))))))))
 refine wk (zn (ws (om e (za h λy65 hy65 h=>oT (tC (zaR hy65) hT (s2 e e) k1 (an e (zn (ws (om e (oV (zaW eq5 e e) (om e (jO 3 21 h (λq66 h=>?_) λJ67 h hJ67=>oI h (λg68 h=>?_) λg68 h=>oG g68 (zm e) (oG g68 (zaW eq5 e e) (oV (zg e g68 e) (hJ67 h 3)))))))))))))))
 ·refine om e (jO 3 25 h (λq69 h=>?_) λJ70 h hJ70=>oI h (λg71 h=>?_) λg71 h=>oG g71 (zm e) (oG g71 (zaW eq5 e e) (oV (zg e g71 e) (hJ70 h 3))))
  ·refine om e (jO 3 29 h (λq72 h=>?_) λJ73 h hJ73=>oI h (λg74 h=>?_) λg74 h=>oG g74 (zm e) (oG g74 (zaW eq5 e e) (oV (zg e g74 e) (hJ73 h 3))))
   ·refine an e (zd h e (λ_ h=>?_) (λ_ h=>ws (om e (za h λy76 hy76 h=>oT (tC (zdi hy76) hT (s2 e e) k1 (an e (zd h e (λ_ h=>?_) (λ_ h=>zbK (za8 (za8 (rL2 _ (za8 (ze .nil k1 (iS h ▸ ⟨e,e⟩))))))))))))))
    ·exact zj (om e (oV (zf e) (oV (zu e GLrd.f1 za6) (oT (tL ty3 e p0 y65.2.reader.at_ (zy h λq75 h=>oV (zaa e e q75) (oV (zf e) (oV (zu e GLrd.f1 za6) (oT (tS ty3 e e p0 ({ y65.2 with reader:={ y65.2.reader with at_:=(y65.2.reader.at_ + 1) } }) (rb (zs (hL2 h () 32)))))))))))))
    refine ws (om e (oV (zf e) (oV (zu e GLrd.f1 za6) (oT (tL ty3 e p0 y76.2.reader.at_ (zy h λq77 h=>oV (zaa e e q77) (oV (zf e) (oV (zu e GLrd.f1 za6) (oT (tS ty3 e e p0 ({ y76.2 with reader:={ y76.2.reader with at_:=(y76.2.reader.at_ + 2) } }) (rn (zF (zn (lP h Unit () (λq78 g78=>[]) (λq78 g78=>[boxE zeU (q78:GLex)]) zay k1 λL79 q78 g78 Q122 h hL79 eL79 rL79=>zF (zF (jw h Unit (λq101 g101=>[(66,isv q101.1)]) (λq101 g101=>[boxE zeU (q101.2:GLex)]) k1 (λq101 g101 h=>?_) λJ102 h hJ102=>zH (.v 0 (.v 1 (.v 2 (.v 4 (.v 5 (.v 6 (.alt 3 (.t 7 (.v 8 (.v 9 (.v 10 (.v 11 (.t 12 (.v 13 (.v 14 (.v 15 (.v 16 (.t 17 (.v 18 (.v 19 .nil))))))))))))) (.t 7 (.v 8 (.t 3 (.v 9 (.v 10 (.v 11 (.t 12 (.v 13 (.v 14 (.v 15 (.v 16 (.t 17 (.v 18 (.v 19 .nil))))))))))))))))))))) moOrd (by kernel_rfl) (rm e e (zl e (zf e) (zl e (zu e GLrd.f1 za6) (rm e e (zl e (zf e) (zl e (zu e GLrd.f0 zgq) (zfr ?_ (rT e (tL ty9 e p0 q78.reader.s (zl e (zcr st9 e) (rT e (tL ty3 e p0 q78.reader.at_ (zl e (zau e e) (rm e e ?_))))))))))))))))))))))))))))))
    ·refine zd h e (λ_ h=>?_) (λ_ h=>xn (eL79 _ _ (zw (zp (ws (om e (za h λy120 hy120 h=>oT (tC (zdi hy120) hT (s2 e e) k1 (rn (zd h e (λ_ h=>?_) (λ_ h=>zC (zs (zs (hL2 h () 38))))))))))))))
     ·exact wk (zn (zj (om e (oV (zf e) (oV (zu e GLrd.f1 za6) (oT (tL ty3 e p0 q101.2.reader.at_ (zy h λq119 h=>oV (zaa e e q119) (oV (zf e) (oV (zu e GLrd.f1 za6) (oT (tS ty3 e e p0 ({ q101.2 with reader:={ q101.2.reader with at_:=(q101.2.reader.at_ + 1) } }) (rb (hL79 h () 8))))))))))))))
     exact zj (om e (oV (zf e) (oV (zu e GLrd.f1 za6) (oT (tL ty3 e p0 y120.2.reader.at_ (zy h λq121 h=>oV (zaa e e q121) (oV (zf e) (oV (zu e GLrd.f1 za6) (oT (tS ty3 e e p0 ({ y120.2 with reader:={ y120.2.reader with at_:=(y120.2.reader.at_ + 2) } }) (rb (zs (hL2 h () 45)))))))))))))
    ·refine rT e (tL ty3 e p0 q78.reader.at_ (rT e (tL ty9 e p0 q78.reader.s (zl e (zcr st9 e) (zl e (zau e e) (rm e e (jd 4 h Unit (λq103 g103=>[(61,isv q103.1)]) (λq103 g103=>[boxE zeU (q103.2:GLex)]) k1 (λq103 g103 h=>?_) λJ104 h hJ104=>rJ h (λg105 h=>?_) λg105 h=>rP e g105 (zey e e (dj:=57) e g105 (rP e g105 (zl e (zg e g105 e) (hJ104 h () 4)))))))))))
     ·refine rm e e (jd 4 h Unit (λq107 g107=>[(66,isv q107.1)]) (λq107 g107=>[boxE zeU (q107.2:GLex)]) k1 (λq107 g107 h=>?_) λJ108 h hJ108=>rJ h (λg109 h=>?_) λg109 h=>rP e g109 (zey e e (dj:=62) e g109 (rP e g109 (zl e (zg e g109 e) (hJ108 h () 4)))))
      ·exact zak (hJ102 h () 14)
      exact rG e g109 (zm e) (za h λy110 hy110 h=>rH e g109 (tC (zdi hy110) hT (s2 e e) k1 (rG e g109 (za2 e) (zl e (zh e g109 e) (hJ108 h () 4)))))
     exact rG e g105 (zm e) (za h λy106 hy106 h=>rH e g105 (tC (zaR hy106) hT (s2 e e) k1 (rG e g105 (zi3 eq5 e e) (zl e (zh e g105 e) (hJ104 h () 4)))))
    refine jd 4 h Unit (λq111 g111=>[(61,isv q111.1)]) (λq111 g111=>[boxE zeU (q111.2:GLex)]) k1 (λq111 g111 h=>?_) λJ112 h hJ112=>rJ h (λg113 h=>?_) λg113 h=>rP e g113 (zey e e (dj:=57) e g113 (rP e g113 (zl e (zg e g113 e) (hJ112 h () 4))))
    ·refine rm e e (jd 4 h Unit (λq115 g115=>[(66,isv q115.1)]) (λq115 g115=>[boxE zeU (q115.2:GLex)]) k1 (λq115 g115 h=>?_) λJ116 h hJ116=>rJ h (λg117 h=>?_) λg117 h=>rP e g117 (zey e e (dj:=62) e g117 (rP e g117 (zl e (zg e g117 e) (hJ116 h () 4)))))
     ·exact zak (hJ102 h () 14)
     exact rG e g117 (zm e) (za h λy118 hy118 h=>rH e g117 (tC (zdi hy118) hT (s2 e e) k1 (rG e g117 (za2 e) (zl e (zh e g117 e) (hJ116 h () 4)))))
    exact rG e g113 (zm e) (za h λy114 hy114 h=>rH e g113 (tC (zaR hy114) hT (s2 e e) k1 (rG e g113 (zi3 eq5 e e) (zl e (zh e g113 e) (hJ112 h () 4)))))
   exact oN g74 (oN g74 (oV (zh e g74 e) (hJ73 h 3)))
  exact oN g71 (oN g71 (oV (zh e g71 e) (hJ70 h 3)))
 exact oN g68 (oN g68 (oV (zh e g68 e) (hJ67 h 3)))


theorem zju {a_c r} (h:zfU a_c=some r):Ctr Tryz.prog 119 [isv a_c] [] (Pt [isv r] []):=by
 unfold zfU at h
 refine zi Tryz.func119 e λw0 S0 hT=>ws (an e (ws (om e (oV (zio e e) (om e (jO 3 8 h (λq1 h=>?_) λJ2 h hJ2=>oI h (λg3 h=>?_) λg3 h=>oN g3 (oN g3 (oV (zg e g3 e) (hJ2 h 3)))))))))
 ·refine om e (jO 7 16 h (λq4 h=>?_) λJ5 h hJ5=>oI h (λg6 h=>?_) λg6 h=>oG g6 (zm e) (oG g6 (zio e e) (oG g6 (zm e) (jO 3 15 h (λq7 h=>?_) λJ8 h hJ8=>oI h (λg9 h=>?_) λg9 h=>oN g9 (oN g9 (oG g6 (zg e g9 e) (hJ8 h 3)))))))
  ·exact ar e (ze (r1 e) k0 (iS h ▸ ⟨e,e⟩))
  ·exact oN g6 (oN g6 (oN g6 (oU (oU (oN g6 (oV (zh e g6 e) (hJ5 h 7)))))))
  ·exact oV (zg e g6 e) (hJ5 h 5)
  exact oG g9 (zm e) (oG g9 (zgv e e) (oG g6 (zh e g9 e) (hJ8 h 3)))
 exact oG g3 (zm e) (oG g3 (zgv e e) (oV (zh e g3 e) (hJ2 h 3)))


theorem zhb {a_c r} (h:zfA a_c=some r):Ctr Tryz.prog 121 [isv a_c] [] (Pt [isv r] []):=by
 unfold zfA at h
 refine zi Tryz.func121 e λw0 S0 hT=>ws (an e (ws (om e (oV (zio e e) (om e (jO 3 8 h (λq1 h=>?_) λJ2 h hJ2=>oI h (λg3 h=>?_) λg3 h=>oN g3 (oN g3 (oV (zg e g3 e) (hJ2 h 3)))))))))
 ·exact ar e (ze (r1 e) k0 (iS h ▸ ⟨e,e⟩))
 exact oG g3 (zm e) (oG g3 (zgv e e) (oV (zh e g3 e) (hJ2 h 3)))


theorem zrD {a_s r} (h:zka a_s=some r):Ctr Tryz.prog 164 [isv a_s] [] (Pt [isv r] []):=by
 unfold zka at h
 refine zi Tryz.func164 e λw0 S0 hT=>ws (an e (ss (om e (rn (zn (ss (oV (zaW eq9 e e) (an e (jW 4 h (λq1 h=>?_) λJ2 h hJ2=>zd h e (λ_ h=>?_) (λ_ h=>ws (oV (zaW eq9 e e) (an e (zd h e (λ_ h=>?_) (λ_ h=>ws (oV (zaW eq9 e e) (an e (zd h e (λ_ h=>?_) (λ_ h=>ws (oV (zaW eq9 e e) (an e (zd h e (λ_ h=>?_) (λ_ h=>ws (oV (zaW eq9 e e) (an e (zd h e (λ_ h=>?_) (λ_ h=>ws (oV (zaW eq9 e e) ?_)))))))))))))))))))))))))))
 ·refine zd h e (λ_ h=>?_) (λ_ h=>zC (zs (zp (ws (ar e (ze (r1 e) k0 (iS h ▸ ⟨e,e⟩)))))))
  exact ws (ar e (bn (ze (r1 e) k0 (iS h ▸ ⟨e,e⟩))))
 ·exact zC (hJ2 h 0)
 ·exact zC (hJ2 h 2)
 ·exact zC (hJ2 h 4)
 ·exact zC (hJ2 h 6)
 ·exact zC (hJ2 h 8)
 refine an e (zd h e (λ_ h=>?_) (λ_ h=>ws (oV (zaW eq9 e e) (an e (zd h e (λ_ h=>?_) (λ_ h=>ws (oV (zaW eq9 e e) (an e (zd h e (λ_ h=>?_) (λ_ h=>ws (oV (zaW eq9 e e) (an e (zd h e (λ_ h=>?_) (λ_ h=>ws (oV (zaW eq9 e e) (an e (zd h e (λ_ h=>?_) (λ_ h=>ws (oV (zaW eq9 e e) (an e (zd h e (λ_ h=>?_) (λ_ h=>ws (oV (zaW eq9 e e) (an e (zd h e (λ_ h=>?_) (λ_ h=>ws (oV (zaW eq9 e e) (an e (zd h e (λ_ h=>?_) (λ_ h=>?_))))))))))))))))))))))))))))))
 ·exact zC (hJ2 h 10)
 ·exact zC (hJ2 h 12)
 ·exact zC (hJ2 h 14)
 ·exact zC (hJ2 h 16)
 ·exact zC (hJ2 h 18)
 ·exact zC (hJ2 h 20)
 ·exact zC (hJ2 h 22)
 ·exact zC (hJ2 h 24)
 refine ws (oV (zaW eq9 e e) (an e (zd h e (λ_ h=>?_) (λ_ h=>ws (oV (zaW eq9 e e) (an e (zd h e (λ_ h=>?_) (λ_ h=>ws (oV (zaW eq9 e e) (an e (zd h e (λ_ h=>?_) (λ_ h=>ws (oV (zaW eq9 e e) (an e (zd h e (λ_ h=>?_) (λ_ h=>ws (oV (zaW eq9 e e) (an e (zd h e (λ_ h=>?_) (λ_ h=>ws (oV (zaW eq9 e e) (an e (zd h e (λ_ h=>?_) (λ_ h=>ws (oV (zaW eq9 e e) (an e (zd h e (λ_ h=>?_) (λ_ h=>ws (oV (zaW eq9 e e) ?_)))))))))))))))))))))))))))))
 ·exact zC (hJ2 h 26)
 ·exact zC (hJ2 h 28)
 ·exact zC (hJ2 h 30)
 ·exact zC (hJ2 h 32)
 ·exact zC (hJ2 h 34)
 ·exact zC (hJ2 h 36)
 ·exact zC (hJ2 h 38)
 refine an e (zd h e (λ_ h=>?_) (λ_ h=>ws (oV (zaW eq9 e e) (an e (zd h e (λ_ h=>?_) (λ_ h=>ws (oV (zaW eq9 e e) (an e (zd h e (λ_ h=>?_) (λ_ h=>ws (oV (zaW eq9 e e) (an e (zd h e (λ_ h=>?_) (λ_ h=>zj (oV (zaW eq9 e e) (oa e (zN (hJ2 h 48))))))))))))))))))
 ·exact zC (hJ2 h 40)
 ·exact zC (hJ2 h 42)
 ·exact zC (hJ2 h 44)
 exact zC (hJ2 h 46)


theorem zml {a_l zdg r} (h:zfs a_l=some r):Ctr Tryz.prog 120 [ptrv zdg (Fld.id GLex)] [boxE zdg (a_l:GLex)] (Pt [isv r.1,isv r.2.1] [boxE zdg (r.2.2)]):=by
 unfold zfs at h
 refine zi Tryz.func120 e λw0 S0 hT=>ws (oa e (an e (ws (om e (oV (zf e) (oV (zu e GLex.f0 zaK) (oV (zu e GLrd.f1 za6) (oT (tL ty3 e p0 a_l.reader.at_ (an e (ss (om e (oV (zf e) (oV (zu e GLex.f0 zaK) (za h λy1 hy1 h=>oT (tC (zaR hy1) hT (s2 e e) k1 (an e (zn (lP h Unit () (λq2 g2=>[(5,isv q2.1)]) (λq2 g2=>[boxE zdg (q2.2:GLex)]) (zB (j:=5) e hI zay) k1 λL3 q2 g2 Q52 h hL3 eL3 rL3=>ss (om e (za h λy28 hy28 h=>oT (tC (zju hy28) hT (s1 e) k0 (om e (jO 3 21 h (λq29 h=>?_) λJ30 h hJ30=>oI h (λg31 h=>?_) λg31 h=>oG g31 (zm e) (za h λy32 hy32 h=>oH g31 (tC (zhb hy32) hT (s1 e) k0 ?_))))))))))))))))))))))))))
 ·refine om e (jo 10 h Unit (λq33 g33=>[(32,isv q33.1)]) (λq33 g33=>[boxE zdg (q33.2:GLex)]) k1 (λq33 g33 h=>?_) λJ34 h hJ34=>oI h (λg35 h=>?_) λg35 h=>oG g35 (zm e) (oG g35 (zaW eq5 e e) (oG g35 (zm e) (jo 6 h Unit (λq36 g36=>[(31,isv q36.1)]) (λq36 g36=>[boxE zdg (q36.2:GLex)]) k1 (λq36 g36 h=>?_) λJ37 h hJ37=>oI h (λg38 h=>?_) λg38 h=>oN g38 (oN g38 (oN g38 (oN g38 (oN g38 (oG g35 (zg e g38 e) (hJ37 h () 6))))))))))
  ·refine rn (zd h e (λ_ h=>?_) (λ_ h=>xn (eL3 _ _ (zw (zp (zF (zc3 0 .here e (λo42 hn43=>zH (.v 0 (.v 1 (.v 2 (.v 3 (.v 4 (.v 5 (.v 6 (.v 7 (.v 8 (.v 9 (.v 10 (.v 11 (.v 12 .nil))))))))))))) moOrd (by kernel_rfl) (rm e e (zl e (zat e) (zl e (zdM e GLex.f0 zaK) (zl e (zdM e GLrd.f0 zgq) (zl e (vP ty9 e m0 q33.2.reader.s) (rm e e (rm e e (zl e (zat e) (zl e (zdM e GLex.f0 zaK) (zl e (zdM e GLrd.f1 za6) (zl e (vP ty3 e m0 q33.2.reader.at_) (zaj h λq44 h=>zl e (zgH st9 e (.inr ⟨_,e,e⟩) (.inr ⟨_,e,e⟩) q44.1 q44.2.1 q44.2.2) (zl e (zaD e) (zak (zaO 0 hn43 e (zp (zF (zn (ws (om e ?_))))))))))))))))))))))))))))
   ·exact wk (zF (zn (zj (om e (oV (zf e) (oV (zu e GLex.f0 zaK) (oV (zu e GLrd.f1 za6) (oT (tL ty3 e p0 q33.2.reader.at_ (zy h λq40 h=>oV (zaa e e q40) (oV (zf e) (oV (zu e GLex.f0 zaK) (oV (zu e GLrd.f1 za6) (oT (tS ty3 e e p0 ({ q33.2 with reader:={ q33.2.reader with at_:=(q33.2.reader.at_ + 1) } }) (rb (zp (zj (om e (oV (zf e) (oV (zu e GLex.f0 zaK) (za h λy41 hy41 h=>oT (tC (zaR hy41) hT (s2 e e) k1 (oa e (zN (hL3 h () 21))))))))))))))))))))))))))
   refine oV (zcr st9 e) (oV (zcy e e) (om e (jO 7 69 h (λq45 h=>?_) λJ46 h hJ46=>oI h (λg47 h=>?_) λg47 h=>oG g47 (zm e) (oG g47 (zm e) (oG g47 (zcr st9 e) (zy h λq48 h=>oG g47 (zhh e e q48) (za h λy49 hy49 h=>oG g47 (zcl y49 st9 e e hy49) (oG g47 (zaW eq5 e e) (oV (zg e g47 e) (hJ46 h 7))))))))))
   ·refine an e (zd h e (λ_ h=>?_) (λ_ h=>ws (om e (za h λy50 hy50 h=>oT (tC (zrD hy50) hT (s1 e) k0 (an e (zd h e (λ_ h=>?_) (λ_ h=>ws (om e (za h λy51 hy51 h=>oV (zcl y51 st9 e e hy51) (oV (zgv e e) (an e (zd h e (λ_ h=>?_) (λ_ h=>zC (zs (zp (ws (om e (oa e (ar e (ze (r2 e e) k1 (iS h ▸ ⟨e,e⟩))))))))))))))))))))))
    ·exact ws (oa e (ar e (bn (ze (r2 e e) k1 (iS h ▸ ⟨e,e⟩)))))
    ·exact ws (om e (oa e (ar e (bn (ze (r2 e e) k1 (iS h ▸ ⟨e,e⟩))))))
    exact ws (om e (oa e (ar e (bn (ze (r2 e e) k1 (iS h ▸ ⟨e,e⟩))))))
   exact oN g47 (oN g47 (oN g47 (oN g47 (oN g47 (oN g47 (oV (zh e g47 e) (hJ46 h 7)))))))
  ·exact oN g35 (oN g35 (oN g35 (oU (oU (oU (oU (oU (oN g35 (oV (zh e g35 e) (hJ34 h () 10))))))))))
  ·exact oV (zg e g35 e) (hJ34 h () 5)
  exact oG g38 (zm e) (oG g38 (zf e) (oG g38 (zu e GLex.f0 zaK) (za h λy39 hy39 h=>oH g38 (tC (zaR hy39) hT (s2 e e) k1 (oG g38 (zi3 eq5 e e) (oG g35 (zh e g38 e) (hJ37 h () 6)))))))
 ·exact oN g31 (oN g31 (oV (zh e g31 e) (hJ30 h 3)))
 exact oV (zg e g31 e) (hJ30 h 3)


theorem zlq {a_l zdg r} (h:zeE a_l=some r):Ctr Tryz.prog 122 [ptrv zdg (Fld.id GLex)] [boxE zdg (a_l:GLex)] (Pt [isv r.1,isv r.2.1] [boxE zdg (r.2.2)]):=by
 unfold zeE at h
 refine zi Tryz.func122 e λw0 S0 hT=>ws (oa e (an e (ws (om e (oV (zf e) (oV (zu e GLex.f0 zaK) (oV (zu e GLrd.f1 za6) (oT (tL ty3 e p0 a_l.reader.at_ (an e (ss (om e (oV (zf e) (oV (zu e GLex.f0 zaK) (za h λy1 hy1 h=>oT (tC (zaR hy1) hT (s2 e e) k1 (oV (zaW eq5 e e) (rn (jw h Unit (λq2 g2=>[]) (λq2 g2=>[boxE zdg (q2:GLex)]) k1 (λq2 g2 h=>?_) λJ3 h hJ3=>zd h e (λ_ h=>?_) (λ_ h=>zC (hJ3 h () 0)))))))))))))))))))))
 ·refine ws (om e (oV (zf e) (oV (zu e GLex.f0 zaK) (oV (zu e GLrd.f1 za6) (oT (tL ty3 e p0 q2.reader.at_ (an e (zF (zn (lP h Unit () (λq5 g5=>[]) (λq5 g5=>[boxE zdg (q5:GLex)]) zay k1 λL6 q5 g5 Q53 h hL6 eL6 rL6=>ss (om e (oV (zf e) (oV (zu e GLex.f0 zaK) (za h λy30 hy30 h=>oT (tC (zaR hy30) hT (s2 e e) k1 (za h λy31 hy31 h=>oT (tC (zhb hy31) hT (s1 e) k0 (rn (zd h e (λ_ h=>?_) (λ_ h=>xn (eL6 _ _ (zw (zp (zF (zc3 0 .here e (λo33 hn34=>zH (.v 0 (.v 1 (.v 2 (.v 3 (.v 4 (.v 5 (.v 6 (.v 7 (.v 8 (.v 9 (.v 10 (.v 11 (.v 12 (.v 13 (.v 14 (.v 15 (.v 16 (.v 17 (.v 18 (.v 19 (.v 20 (.v 21 .nil)))))))))))))))))))))) moOrd (by kernel_rfl) (rm e e (zl e (zat e) (zl e (zdM e GLex.f0 zaK) ?_)))))))))))))))))))))))))))))
  ·exact wk (zn (zj (om e (oV (zf e) (oV (zu e GLex.f0 zaK) (oV (zu e GLrd.f1 za6) (oT (tL ty3 e p0 y30.2.reader.at_ (zy h λq32 h=>oV (zaa e e q32) (oV (zf e) (oV (zu e GLex.f0 zaK) (oV (zu e GLrd.f1 za6) (oT (tS ty3 e e p0 ({ y30.2 with reader:={ y30.2.reader with at_:=(y30.2.reader.at_ + 1) } }) (rb (hL6 h () 14))))))))))))))))
  refine zl e (zdM e GLrd.f0 zgq) (zl e (vP ty9 e m0 y30.2.reader.s) (rm e e (rm e e (zl e (zat e) (zl e (zdM e GLex.f0 zaK) (zl e (zdM e GLrd.f1 za6) (zl e (vP ty3 e m0 y30.2.reader.at_) (zaj h λq35 h=>zl e (zgH st9 e (.inr ⟨_,e,e⟩) (.inr ⟨_,e,e⟩) q35.1 q35.2.1 q35.2.2) (rm e e (zl e (zat e) (zl e (zdM e GLex.f0 zaK) (zl e (zdM e GLrd.f0 zgq) (zl e (vP ty9 e m0 y30.2.reader.s) (rm e e (za h λy36 hy36 h=>zl e (zcl y36 st9 e e hy36) (zl e (zaW eq5 e e) (zl e (zaD e) (zl e (zaD e) (zak (zaO 0 hn34 e (zp (ss (om e (za h λy37 hy37 h=>oT (tC (zhX hy37) hT (s3 e e e) k0 (om e (oV (zr e e) ?_)))))))))))))))))))))))))))
  refine oV (zr e e) (oa e (an e (ws (om e (oV (zuj if149 e) (om e (jO 17 92 h (λq38 h=>?_) λJ39 h hJ39=>oI h (λg40 h=>?_) λg40 h=>oG g40 (zm e) (oG g40 (zm e) (jO 14 91 h (λq41 h=>?_) λJ42 h hJ42=>oI h (λg43 h=>?_) λg43 h=>oN g43 (oN g43 (oN g43 (oN g43 (oN g43 (oN g43 (oN g43 (oN g43 (oN g43 (oU (oU (oU (oN g43 (oG g40 (zg e g43 e) (hJ42 h 14)))))))))))))))))))))))
  ·refine om e (jo 6 h Unit (λq48 g48=>[(99,isv q48.1)]) (λq48 g48=>[boxE zdg (q48.2:GLex)]) k1 (λq48 g48 h=>?_) λJ49 h hJ49=>oI h (λg50 h=>?_) λg50 h=>oG g50 (zm e) (oG g50 (zf e) (oG g50 (zu e GLex.f0 zaK) (za h λy51 hy51 h=>oH g50 (tC (zaR hy51) hT (s2 e e) k1 (za h λy52 hy52 h=>oH g50 (tC (zju hy52) hT (s1 e) k0 (oV (zg e g50 e) (hJ49 h () 6)))))))))
   ·refine rn (zd h e (λ_ h=>?_) (λ_ h=>wk (ws (om e (oa e (ar e (ze (r2 e e) k1 (iS h ▸ ⟨e,e⟩))))))))
    exact ws (oa e (ar e (zD (ze (r2 e e) k1 (iS h ▸ ⟨e,e⟩)))))
   exact oN g50 (oN g50 (oN g50 (oN g50 (oN g50 (oV (zh e g50 e) (hJ49 h () 6))))))
  ·exact oN g40 (oN g40 (oU (oU (oU (oU (oU (oU (oU (oU (oU (oU (oU (oU (oU (oN g40 (oV (zh e g40 e) (hJ39 h 17)))))))))))))))))
  ·exact oV (zg e g40 e) (hJ39 h 4)
  refine oG g43 (zm e) (oG g43 (zf e) (oG g43 (zu e GLex.f0 zaK) (oG g43 (zu e GLrd.f1 za6) (oH g43 (tL ty3 e p0 y30.2.reader.at_ (oG g43 (zm e) (zy h λq44 h=>oG g43 (zhh e e q44) (oG g43 (zcy e e) (oG g43 (zm e) (jO 4 90 h (λq45 h=>?_) λJ46 h hJ46=>oI h (λg47 h=>?_) λg47 h=>oG g47 (zm e) (oG g47 (zm e) (oG g47 (zcy e e) (oG g43 (zg e g47 e) (hJ46 h 4))))))))))))))
  ·exact oG g40 (zh e g43 e) (hJ42 h 11)
  exact oN g47 (oN g47 (oN g47 (oG g43 (zh e g47 e) (hJ46 h 4))))
 exact zj (om e (oV (zf e) (oV (zu e GLex.f0 zaK) (oV (zu e GLrd.f1 za6) (oT (tL ty3 e p0 y1.2.reader.at_ (zy h λq4 h=>oV (zaa e e q4) (oV (zf e) (oV (zu e GLex.f0 zaK) (oV (zu e GLrd.f1 za6) (oT (tS ty3 e e p0 ({ y1.2 with reader:={ y1.2.reader with at_:=(y1.2.reader.at_ + 1) } }) (zN (hJ3 h () 9))))))))))))))


theorem zm0 {a_l zdg r} (h:zfI a_l=some r):Ctr Tryz.prog 123 [ptrv zdg (Fld.id GLex)] [boxE zdg (a_l:GLex)] (Pt [isv r.1,isv r.2.1] [boxE zdg (r.2.2)]):=by
 unfold zfI at h
 refine zi Tryz.func123 e λw0 S0 hT=>ws (oa e (an e (ws (om e (oV (zf e) (oV (zu e GLex.f0 zaK) (oV (zu e GLrd.f1 za6) (oT (tL ty3 e p0 a_l.reader.at_ (zy h λq1 h=>oV (zaa e e q1) (oV (zf e) (oV (zu e GLex.f0 zaK) (oV (zu e GLrd.f1 za6) (oT (tS ty3 e e p0 ({ a_l with reader:={ a_l.reader with at_:=(a_l.reader.at_ + 1) } }) (rn (ws (om e (oV (zf e) (oV (zu e GLex.f0 zaK) (oV (zu e GLrd.f1 za6) (oT (tL ty3 e p0 (a_l.reader.at_ + 1) (an e (ss (om e (oV (zf e) (oV (zu e GLex.f0 zaK) (za h λy2 hy2 h=>oT (tC (zaR hy2) hT (s2 e e) k1 ?_))))))))))))))))))))))))))))))
 refine an e (zn (lP h Unit () (λq3 g3=>[(5,isv q3.1)]) (λq3 g3=>[boxE zdg (q3.2:GLex)]) (zB (j:=5) e hI zay) k1 λL4 q3 g3 Q41 h hL4 eL4 rL4=>ss (om e (za h λy23 hy23 h=>oT (tC (zhb hy23) hT (s1 e) k0 (om e (jO 7 34 h (λq24 h=>?_) λJ25 h hJ25=>oI h (λg26 h=>?_) λg26 h=>oG g26 (zm e) (oG g26 (zio e e) (oG g26 (zm e) (jO 3 33 h (λq27 h=>?_) λJ28 h hJ28=>oI h (λg29 h=>?_) λg29 h=>oN g29 (oN g29 (oG g26 (zg e g29 e) (hJ28 h 3)))))))))))))
 ·refine rn (zd h e (λ_ h=>?_) (λ_ h=>xn (eL4 _ _ (zw (zp (zF (zc3 0 .here e (λo32 hn33=>zH (.v 0 (.v 1 (.v 2 (.v 3 (.v 4 (.v 5 (.v 6 (.v 7 (.v 8 (.v 9 (.v 10 (.v 11 (.v 12 .nil))))))))))))) moOrd (by kernel_rfl) (rm e e (zl e (zat e) (zl e (zdM e GLex.f0 zaK) (zl e (zdM e GLrd.f0 zgq) (zl e (vP ty9 e m0 q3.2.reader.s) (rm e e (rm e e (zl e (zat e) (zl e (zdM e GLex.f0 zaK) (zl e (zdM e GLrd.f1 za6) (zl e (vP ty3 e m0 q3.2.reader.at_) (zaj h λq34 h=>zl e (zgH st9 e (.inr ⟨_,e,e⟩) (.inr ⟨_,e,e⟩) q34.1 q34.2.1 q34.2.2) (zl e (zaD e) (zak (zaO 0 hn33 e (zp (ss (om e (oV (zcr st9 e) (zam h λq35 h=>?_))))))))))))))))))))))))))))
  ·exact wk (zF (zn (zj (om e (oV (zf e) (oV (zu e GLex.f0 zaK) (oV (zu e GLrd.f1 za6) (oT (tL ty3 e p0 q3.2.reader.at_ (zy h λq30 h=>oV (zaa e e q30) (oV (zf e) (oV (zu e GLex.f0 zaK) (oV (zu e GLrd.f1 za6) (oT (tS ty3 e e p0 ({ q3.2 with reader:={ q3.2.reader with at_:=(q3.2.reader.at_ + 1) } }) (rb (zp (zj (om e (oV (zf e) (oV (zu e GLex.f0 zaK) (za h λy31 hy31 h=>oT (tC (zaR hy31) hT (s2 e e) k1 (oa e (zN (hL4 h () 19))))))))))))))))))))))))))
  refine oV (ztG e e q35) (oV (zbz e e) (om e (jo 6 h Unit (λq36 g36=>[(70,isv q36.1)]) (λq36 g36=>[boxE zdg (q36.2:GLex)]) k1 (λq36 g36 h=>?_) λJ37 h hJ37=>oI h (λg38 h=>?_) λg38 h=>oG g38 (zm e) (oG g38 (zf e) (oG g38 (zu e GLex.f0 zaK) (za h λy39 hy39 h=>oH g38 (tC (zdi hy39) hT (s2 e e) k1 (oG g38 (za2 e) (oV (zg e g38 e) (hJ37 h () 6))))))))))
  ·refine rn (zd h e (λ_ h=>?_) (λ_ h=>wk (ws (om e (oV (zf e) (oV (zu e GLex.f0 zaK) (oV (zu e GLrd.f1 za6) (oT (tL ty3 e p0 q36.2.reader.at_ (zy h λq40 h=>oV (zaa e e q40) (oV (zf e) (oV (zu e GLex.f0 zaK) (oV (zu e GLrd.f1 za6) (oT (tS ty3 e e p0 ({ q36.2 with reader:={ q36.2.reader with at_:=(q36.2.reader.at_ + 2) } }) (rn (ws (om e (oa e (ar e (ze (r2 e e) k1 (iS h ▸ ⟨e,e⟩))))))))))))))))))))))
   exact ws (oa e (ar e (zD (ze (r2 e e) k1 (iS h ▸ ⟨e,e⟩)))))
  exact oN g38 (oN g38 (oN g38 (oN g38 (oN g38 (oV (zh e g38 e) (hJ37 h () 6))))))
 ·exact oN g26 (oN g26 (oN g26 (oU (oU (oN g26 (oV (zh e g26 e) (hJ25 h 7)))))))
 ·exact oV (zg e g26 e) (hJ25 h 5)
 exact oG g29 (zm e) (oG g29 (zgv e e) (oG g26 (zh e g29 e) (hJ28 h 3)))


theorem zmm {a_l zdg r} (h:zfm a_l=some r):Ctr Tryz.prog 124 [ptrv zdg (Fld.id GLex)] [boxE zdg (a_l:GLex)] (Pt [isv r.1,isv r.2.1] [boxE zdg (r.2.2)]):=by
 unfold zfm at h
 refine zi Tryz.func124 e λw0 S0 hT=>ws (oa e (an e (ws (an e (ss (om e (oV (zf e) (oV (zu e GLex.f0 zaK) (oV (zu e GLrd.f1 za6) (oT (tL ty3 e p0 a_l.reader.at_ (zy h λq1 h=>oV (zaa e e q1) (oV (zf e) (oV (zu e GLex.f0 zaK) (oV (zu e GLrd.f1 za6) (oT (tS ty3 e e p0 ({ a_l with reader:={ a_l.reader with at_:=(a_l.reader.at_ + 1) } }) (rn (zn (zhf (zbC) (lP h Tok none (λq2 g2=>[(0,ptrv zdg (Fld.id GLex)),(4,appv g2 q2.1)]) (λq2 g2=>[tokE g2,boxE zdg (q2.2:GLex)]) (zB (j:=0) e hI (zB (j:=4) e zcs zay)) k2 λL3 q2 g2 Q31 h hL3 eL3 rL3=>zF (zF (zc3 0 (.there .here) e (λo17 hn18=>zH (.v 0 (.v 1 (.v 2 (.v 3 (.v 4 (.v 5 (.v 6 (.v 7 (.v 8 (.v 9 (.v 10 (.v 11 .nil)))))))))))) moOrd (by kernel_rfl) (rm e e (zl e (zat e) (zl e (zdM e GLex.f0 zaK) (zl e (zdM e GLrd.f1 za6) ?_))))))))))))))))))))))))))))
 refine zl e (vP ty3 e m0 q2.2.reader.at_) (rm e e (zl e (zat e) (zl e (zdM e GLex.f0 zaK) (zl e (zdM e GLrd.f0 zgq) (zl e (vP ty9 e m0 q2.2.reader.s) (zl e (zcr st9 e) (zl e (zau e e) (zak (zaO 0 hn18 e (zp (zd h e (λ_ h=>?_) (λ_ h=>xn (eL3 _ _ (zw (zp (ws (oa e (ar e (ze (r2 e e) k1 (iS h ▸ ⟨e,e⟩))))))))))))))))))))
 refine wk (zF (zn (ss (om e (oV (zf e) (oV (zu e GLex.f0 zaK) (za h λy19 hy19 h=>oT (tC (zaR hy19) hT (s2 e e) k1 (oV (zaW eq5 e e) (rn (jw h Unit (λq20 g20=>[]) (λq20 g20=>[boxE zdg (q20:GLex)]) k1 (λq20 g20 h=>?_) λJ21 h hJ21=>zd h e (λ_ h=>?_) (λ_ h=>zC (hJ21 h () 0)))))))))))))
 ·exact zj (om e (om e (oV (zf e) (oV (zu e GLex.f0 zaK) (za h λy25 hy25 h=>oT (tC (zaR hy25) hT (s2 e e) k1 (oT (zA (l:=([y25.1]:(List UInt8))) el22 (.cons e hI .nil) e e (zam h λq28 h=>oT (zcj (l:=q2.1) (m:=([y25.1]:(List UInt8))) zkD e hI e zx (.there .here) q28 λt27=>oa e (rb (zp (zj (om e (oV (zf e) (oV (zu e GLex.f0 zaK) (oV (zu e GLrd.f1 za6) (oT (tL ty3 e p1 y25.2.reader.at_ (zy h λq29 h=>oV (zaa e e q29) (oV (zf e) (oV (zu e GLex.f0 zaK) (oV (zu e GLrd.f1 za6) (oT (tS ty3 e e p1 ({ y25.2 with reader:={ y25.2.reader with at_:=(y25.2.reader.at_ + 1) } }) (zN (hL3 h t27 38)))))))))))))))))))))))))))
 refine ws (om e (oV (zf e) (oV (zu e GLex.f0 zaK) (oV (zu e GLrd.f1 za6) (oT (tL ty3 e p0 y19.2.reader.at_ (zy h λq22 h=>oV (zaa e e q22) (oV (zf e) (oV (zu e GLex.f0 zaK) (oV (zu e GLrd.f1 za6) (oT (tS ty3 e e p0 ({ y19.2 with reader:={ y19.2.reader with at_:=(y19.2.reader.at_ + 1) } }) (rn (ws (om e (oV (zf e) (oV (zu e GLex.f0 zaK) (za h λy23 hy23 h=>oT (tC (zaR hy23) hT (s2 e e) k1 (oV (zi3 eq5 e e) (rn (zd h e (λ_ h=>?_) (λ_ h=>zC (hJ21 h () 14))))))))))))))))))))))))
 refine ss (om e (za h λy24 hy24 h=>oT (tC (zjk hy24) hT (.cons e zx .nil) k0 (oV (za2 e) (rn (zd h e (λ_ h=>?_) (λ_ h=>wk (zF (zH (.v 0 (.v 1 (.v 2 (.v 3 .nil)))) moOrd (by kernel_rfl) (rm e e (zl e (zmM (l:=q2.1) Tryz.underlying22 Tryz.underlying5 Tryz.underlying9 e zx) (zl e (zaD e) (zl e (zaD e) (zak (zp (zbK (zD (bn (rL3 _ (bn (ze (r2 e e) k1 (iS h ▸ ⟨e,e⟩))))))))))))))))))))))
 exact ws (oa e (ar e (zD (zD (bn (rL3 _ (bn (ze (r2 e e) k1 (iS h ▸ ⟨e,e⟩)))))))))


theorem zmJ {a_l zdg r} (h:zfu a_l=some r):Ctr Tryz.prog 125 [ptrv zdg (Fld.id GLex)] [boxE zdg (a_l:GLex)] (Pt [isv r.1,isv r.2.1] [boxE zdg (r.2.2)]):=by
 unfold zfu at h
 refine zi Tryz.func125 e λw0 S0 hT=>ws (oa e (an e (ss (oT (zA (l:=([(Str.mk [58,58,61]),(Str.mk [46,46,46]),(Str.mk [46,46]),(Str.mk [91,91]),(Str.mk [93,93]),(Str.mk [123]),(Str.mk [125]),(Str.mk [91]),(Str.mk [93]),(Str.mk [40]),(Str.mk [41]),(Str.mk [44]),(Str.mk [58])]:(List Str))) el27 (.cons e hI (.cons e hI (.cons e hI (.cons e hI (.cons e hI (.cons e hI (.cons e hI (.cons e hI (.cons e hI (.cons e hI (.cons e hI (.cons e hI (.cons e hI .nil))))))))))))) e e (oV (zlX (l:=([(Str.mk [58,58,61]),(Str.mk [46,46,46]),(Str.mk [46,46]),(Str.mk [91,91]),(Str.mk [93,93]),(Str.mk [123]),(Str.mk [125]),(Str.mk [91]),(Str.mk [93]),(Str.mk [40]),(Str.mk [41]),(Str.mk [44]),(Str.mk [58])]:(List Str))) e zx sl27) (om e (rn (zn (lP h Unit () (λq2 g2=>[(8,isv q2.1)]) (λq2 g2=>[boxE zdg (q2.2:GLex)]) (zB (j:=8) e hI zay) k1 λL3 q2 g2 Q12 h hL3 eL3 rL3=>ws (oV (zau e e) (rn (zF (zd h e (λ_ h=>?_) (λ_ h=>xn (eL3 _ _ (zw (zp (ws (oa e (ar e (ze (r2 e e) k1 (iS h ▸ ⟨e,e⟩)))))))))))))))))))))))
 refine wk (zF (zn (ws (za h λy8 hy8 h=>oV (zlj (l:=([(Str.mk [58,58,61]),(Str.mk [46,46,46]),(Str.mk [46,46]),(Str.mk [91,91]),(Str.mk [93,93]),(Str.mk [123]),(Str.mk [125]),(Str.mk [91]),(Str.mk [93]),(Str.mk [40]),(Str.mk [41]),(Str.mk [44]),(Str.mk [58])]:(List Str))) e zx e sl27 hy8) (oV (zb ty9 e) (an e (ws (om e (oV (zf e) (oV (zu e GLex.f0 zaK) (om e (za h λy9 hy9 h=>oT (tC (zdi hy9) hT (s2 e e) k1 (rn (zd h e (λ_ h=>?_) (λ_ h=>zC (zs (zp (zj (zy h λq11 h=>oV (zaa e e q11) (om e (zN (hL3 h () 12)))))))))))))))))))))))
 exact ws (om e (oV (zf e) (oV (zu e GLex.f0 zaK) (oV (zu e GLrd.f1 za6) (oT (tL ty3 e p0 y9.2.reader.at_ (om e (oV (zcr st9 e) (zy h λq10 h=>oV (zaa e e q10) (oV (zf e) (oV (zu e GLex.f0 zaK) (oV (zu e GLrd.f1 za6) (oT (tS ty3 e e p0 ({ y9.2 with reader:={ y9.2.reader with at_:=(y9.2.reader.at_ + (y8.b.length:Int)) } }) (rn (ws (om e (oa e (ar e (bn (rL3 _ (bn (ze (r2 e e) k1 (iS h ▸ ⟨e,e⟩))))))))))))))))))))))))


theorem zlR {a_l zdg r} (h:zeW a_l=some r):Ctr Tryz.prog 66 [ptrv zdg (Fld.id GLex)] [boxE zdg (a_l:GLex)] (Pt [isv r.1,isv r.2.1] [boxE zdg (r.2.2)]):=by
 unfold zeW at h
 refine zi Tryz.func66 e λw0 S0 hT=>ws (oa e (an e (ss (om e (oV (zf e) (oV (zu e GLex.f0 zaK) (za h λy1 hy1 h=>oT (tC (zaR hy1) hT (s2 e e) k1 (an e (zn (ws (om e (za h λy2 hy2 h=>oT (tC (zju hy2) hT (s1 e) k0 (an e (zd h e (λ_ h=>?_) (λ_ h=>ws (om e (za h λy4 hy4 h=>oT (tC (zhb hy4) hT (s1 e) k0 (om e (jo 10 h Unit (λq5 g5=>[(29,isv q5.1)]) (λq5 g5=>[boxE zdg (q5.2:GLex)]) k1 (λq5 g5 h=>?_) λJ6 h hJ6=>oI h (λg7 h=>?_) λg7 h=>oG g7 (zm e) (oG g7 (zaW eq5 e e) (oG g7 (zm e) (jo 6 h Unit (λq8 g8=>[(28,isv q8.1)]) (λq8 g8=>[boxE zdg (q8.2:GLex)]) k1 (λq8 g8 h=>?_) λJ9 h hJ9=>oI h (λg10 h=>?_) λg10 h=>?_)))))))))))))))))))))))))
 ·exact ws (om e (za h λy3 hy3 h=>oT (tC (zml hy3) hT (s1 e) k1 (oV (zr e e) (oV (zr e e) (oa e (ar e (bn (ze (r2 e e) k1 (iS h ▸ ⟨e,e⟩))))))))))
 ·refine an e (zd h e (λ_ h=>?_) (λ_ h=>ws (om e (oV (zaW eq5 e e) (an e (zd h e (λ_ h=>?_) (λ_ h=>ws (om e (oV (zaW eq5 e e) (an e (zd h e (λ_ h=>?_) (λ_ h=>zC (zs (zp (ws (om e (za h λy16 hy16 h=>oT (tC (zmJ hy16) hT (s1 e) k1 (oV (zr e e) (oV (zr e e) (oa e (ar e (ze (r2 e e) k1 (iS h ▸ ⟨e,e⟩))))))))))))))))))))))))
  ·exact ws (om e (za h λy13 hy13 h=>oT (tC (zlq hy13) hT (s1 e) k1 (oV (zr e e) (oV (zr e e) (oa e (ar e (bn (ze (r2 e e) k1 (iS h ▸ ⟨e,e⟩))))))))))
  ·exact ws (om e (za h λy14 hy14 h=>oT (tC (zm0 hy14) hT (s1 e) k1 (oV (zr e e) (oV (zr e e) (oa e (ar e (bn (ze (r2 e e) k1 (iS h ▸ ⟨e,e⟩))))))))))
  exact ws (om e (za h λy15 hy15 h=>oT (tC (zmm hy15) hT (s1 e) k1 (oV (zr e e) (oV (zr e e) (oa e (ar e (bn (ze (r2 e e) k1 (iS h ▸ ⟨e,e⟩))))))))))
 ·exact oN g7 (oN g7 (oN g7 (oU (oU (oU (oU (oU (oN g7 (oV (zh e g7 e) (hJ6 h () 10))))))))))
 ·exact oV (zg e g7 e) (hJ6 h () 5)
 ·exact oG g10 (zm e) (oG g10 (zf e) (oG g10 (zu e GLex.f0 zaK) (za h λy11 hy11 h=>oH g10 (tC (zaR hy11) hT (s2 e e) k1 (za h λy12 hy12 h=>oH g10 (tC (zhb hy12) hT (s1 e) k0 (oG g7 (zh e g10 e) (hJ9 h () 6))))))))
 exact oN g10 (oN g10 (oN g10 (oN g10 (oN g10 (oG g7 (zg e g10 e) (hJ9 h () 6))))))


theorem zpr {zaV r} (h:zhP zaV=some r):Ctr Tryz.prog 29 [isv zaV] [] (Pt [isv r.1,isv r.2.1,isv r.2.2] []):=by
 unfold zhP at h
 refine zi Tryz.func29 e λw0 S0 hT=>ws (oa e (oa e (an e (ss (om e (oV (zcr st9 e) (oV (zcy e e) (rn (zd h e (λ_ h=>?_) (λ_ h=>wk (ws (om e (oV (zao (z:=(GLrd.mk zaV (0:Int))) e bu141 ze141 (.cons GLrd.f0 zgq e hI .nil)) (oV (zao (z:=(GLex.mk (GLrd.mk zaV (0:Int)))) e bu143 ze143 (.cons GLex.f0 zaK e hI .nil)) (oT (zkn (y:=(GLex.mk (GLrd.mk zaV (0:Int)))) e hI λb1=>an e (ws (an e (ss (om e (oV (zf e) (oV (zu e GLex.f0 zaK) (za h λy2 hy2 h=>oT (tC (zil hy2) hT (s1 e) k1 (rn (zn (zhf (zbC) (lP h Tok none (λq3 g3=>[(6,appv g3 q3.1)]) (λq3 g3=>[tokE g3,boxE b1 (q3.2:GLex)]) (zB (j:=6) e zcs zay) k2 λL4 q3 g3 Q22 h hL4 eL4 rL4=>?_))))))))))))))))))))))))))))
 ·exact ws (oa e (oa e (ar e (zD (ze (.as e (zeZ (α:=GTok)) (.tmp e (.tmp e .nil))) k0 (iS h ▸ ⟨e,e⟩))))))
 refine ss (om e (oV (zf e) (oV (zu e GLex.f0 zaK) (oV (zu e GLrd.f1 za6) (oT (tL ty3 e p1 q3.2.reader.at_ (om e (oV (zcr st9 e) (oV (zau e e) (rn (zd h e (λ_ h=>?_) (λ_ h=>xn (eL4 _ _ (zw (zp (ws (om e (om e (oV (zcr st9 e) (oV (zao (z:=(GTok.mk (0:Int) (Str.mk []) (zaV.b.length:Int))) e bu80 ze80 (.cons GTok.f2 zms e hI .nil)) (oT (zA (l:=([(GTok.mk (0:Int) (Str.mk []) (zaV.b.length:Int))]:(List GTok))) el69 (.cons e hI .nil) e e (zam h λq20 h=>oT (zcj (l:=q3.1) (m:=([(GTok.mk (0:Int) (Str.mk []) (zaV.b.length:Int))]:(List GTok))) znn e hI e zx .here q20 λt19=>oa e (oa e (ar e (ze (.as e zx (.tmp e (.tmp e .nil))) k0 (iS h ▸ ⟨e,e⟩))))))))))))))))))))))))))))
 refine wk (zF (zn (ws (om e (oV (zf e) (oV (zu e GLex.f0 zaK) (oV (zu e GLrd.f1 za6) (oT (tL ty3 e p1 q3.2.reader.at_ (an e (ws (om e (za h λy13 hy13 h=>oT (tC (zlR hy13) hT (s1 e) (a1 k0) (om e (oV (zr e e) (oV (zr e e) (oa e (an e (ss (om e (oV (zP e e) (rn (zd h e (λ_ h=>?_) (λ_ h=>wk (zj (om e (om e (om e (om e ?_))))))))))))))))))))))))))))))
 ·exact ws (om e (oa e (oa e (ar e (zD (bn (rL4 _ (bn (ze (.as e (zeZ (α:=GTok)) (.tmp e (.tmp e .nil))) k0 (iS h ▸ ⟨e,e⟩))))))))))
 exact oV (zao (z:=(GTok.mk y13.1 y13.2.1 q3.2.reader.at_)) e bu80 ze80 (.cons GTok.f0 zdz e hI (.cons GTok.f1 zeM e hI (.cons GTok.f2 zms e hI .nil)))) (oT (zA (l:=([(GTok.mk y13.1 y13.2.1 q3.2.reader.at_)]:(List GTok))) el69 (.cons e hI .nil) e e (zam h λq16 h=>oT (zcj (l:=q3.1) (m:=([(GTok.mk y13.1 y13.2.1 q3.2.reader.at_)]:(List GTok))) znn e hI e zx (.there .here) q16 λt15=>oa e (rb (zp (zj (om e (oV (zf e) (oV (zu e GLex.f0 zaK) (za h λy17 hy17 h=>oT (tC (zil hy17) hT (s1 e) (a1 k0) (zN (hL4 h t15 36))))))))))))))

end Go.Proofs.Q


namespace Go.Proofs.Q
open Go.Sy
set_option maxRecDepth 4000
theorem zbe {a_p zl7 za1 zfh r} (h:zaG a_p zl7=some r):Ctr Tryz.prog 56 [ptrv za1 (Fld.id GNprOT),isv zl7] [boxE za1 (GNprO a_p zfh),vecE zfh a_p.b] (Pt1 (λ_=>[]) λu1=>[boxE za1 (GNprO r u1),vecE u1 r.b]):=by
 unfold zaG at h
 refine zi Tryz.func56 e λw0 S0 hT=>ws (om e (oV (vN e sl27) (om e (rn (zn (lP h Vt zfh (λq2 g2=>[(8,isv q2.1)]) (λq2 g2=>[boxE za1 (GNprO q2.2 g2),vecE g2 q2.2.b]) (zB (j:=8) e hI zay) k2 λL3 q2 g2 Q12 h hL3 eL3 rL3=>ws (oV (zau e e) (rn (zF (zd h e (λ_ h=>?_) (λ_ h=>xn (eL3 _ _ (zw (zaQ .nil k2 (iS h ▸ ⟨g2,e,e⟩)))))))))))))))
 exact wk (zF (zn (ws (za h λy8 hy8 h=>oV (vX e e sl27 hy8) (oV (zb ty9 e) (an e (zj (om e (om e (oV (zf e) (oV (zu e zfN ziw) (oT (zaS (R:=vecv g2 (q2.2.b.length)) ty22 e p0 isvV1 (om e (zam h λq10 h=>oT (zuY zwf e e (.there .here) (by first | rfl | simp) q10 λv9=>oV (zf e) (oV (zu e zfN ziw) (oT (tR ty22 e e isvV2 p1 (GNprO {q2.2 with b:=(q2.2.b ++ y8.b)} v9) e (rb (zp (zj (zy h λq11 h=>oV (zaa e e q11) (om e (zN (hL3 h v9 16))))))))))))))))))))))))))


theorem zqz {a_b r} (h:ziE a_b=some r):Ctr Tryz.prog 114 [isv a_b] [] (Pt [isv r] []):=by
 unfold ziE at h
 refine zi Tryz.func114 e λw0 S0 hT=>ws (an e (ws (oT (zA (l:=([(39:UInt8)]:(List UInt8))) el22 (.cons e hI .nil) e e (an e (ss (om e (oV (vN e sl22) (om e (rn (zn (zhf (zbC) (lP h Tok none (λq2 g2=>[(3,appv g2 q2.1),(9,isv q2.2)]) (λq2 g2=>[tokE g2]) (zB (j:=3) e hI (zB (j:=9) e hI zay)) k1 λL3 q2 g2 Q26 h hL3 eL3 rL3=>ws (oV (zau e e) (rn (zF (zd h e (λ_ h=>?_) (λ_ h=>xn (eL3 _ _ (zw (zp (ws (om e (oT (zA (l:=([(39:UInt8),(72:UInt8)]:(List UInt8))) el22 (.cons e hI (.cons e hI .nil)) e e (zam h λq25 h=>oT (zcj (l:=q2.1) (m:=([(39:UInt8),(72:UInt8)]:(List UInt8))) zkD e hI e zx .here q25 λt24=>oV (zmM (l:=(q2.1 ++ ([(39:UInt8),(72:UInt8)]:(List UInt8)))) Tryz.underlying22 Tryz.underlying5 Tryz.underlying9 e zx) (ar e ?_))))))))))))))))))))))))))))
 ·refine wk (zF (zn (ws (za h λy15 hy15 h=>oV (vX e e sl22 hy15) (oV (zb ty5 e) (an e (zH (.v 0 (.v 1 (.v 2 (.v 3 (.v 4 (.v 5 (.v 6 (.t 7 (.t 8 (.v 9 .nil)))))))))) moOrd (by kernel_rfl) (rm e e (rm e e (zam h λq16 h=>zl e (zrj e e q16) (za h λy17 hy17 h=>zl e (zsf y17 st9 e e hy17) (rm e e (zl e (znS e e) (za h λy18 hy18 h=>zl e (zsf y18 st9 e e hy18) (rT e (zA (l:=([y17,y18]:(List UInt8))) el22 (.cons e hI (.cons e hI .nil)) e e (zam h λq21 h=>rT e (zcj (l:=q2.1) (m:=([y17,y18]:(List UInt8))) zkD e hI e zx .here q21 λt20=>zl e (zaD e) (zak (zs (zp (zj (zy h λq22 h=>oV (zaa e e q22) (om e ?_))))))))))))))))))))))))
  exact zN (hL3 h t20 18)
 exact ze (r1 e) k0 (iS h ▸ ⟨e,e⟩)


theorem zop {a_v r} (h:zga a_v=some r):Ctr Tryz.prog 62 [isv a_v] [] (Pt [isv r] []):=by
 unfold zga at h
 refine zi Tryz.func62 e λw0 S0 hT=>ws (oT (tB e (an e (ss (oV (vI e Val.f0 zdy a_v.kind) (oV (zb ty3 e) (rn (zn (ws (oV (zP e e) (an e (zd h e (λ_ h=>?_) (λ_ h=>ws (oV (zP e e) (an e (zd h e (λ_ h=>?_) (λ_ h=>ws (oV (zP e e) (an e (zd h e (λ_ h=>?_) (λ_ h=>ws (oV (zP e e) (an e (zd h e (λ_ h=>?_) (λ_ h=>ws (oV (zP e e) (an e (zd h e (λ_ h=>?_) (λ_ h=>ws ?_)))))))))))))))))))))))))))))
 ·refine ss (oV (vI e Val.f1 zcB a_v.n) (oV (zb ty2 e) (oV (zbz e e) (rn (zd h e (λ_ h=>?_) (λ_ h=>wk (ws (ar e (bn (ze (r1 e) k0 (iS h ▸ ⟨e,e⟩)))))))))))
  exact ws (ar e (zD (bn (ze (r1 e) k0 (iS h ▸ ⟨e,e⟩)))))
 ·exact ws (ar e (bn (ze (r1 e) k0 (iS h ▸ ⟨e,e⟩))))
 ·exact ws (oV (vI e Val.f1 zcB a_v.n) (oV (zb ty2 e) (za h λy1 hy1 h=>oT (tC (zkV hy1) hT (s2 e e) k0 (ar e (bn (ze (r1 e) k0 (iS h ▸ ⟨e,e⟩))))))))
 ·exact ws (oV (vI e Val.f2 zdR a_v.b) (oV (zb ty22 e) (oV (zmM (l:=a_v.b) Tryz.underlying22 Tryz.underlying5 Tryz.underlying9 e hI) (ar e (bn (ze (r1 e) k0 (iS h ▸ ⟨e,e⟩)))))))
 ·exact ws (oV (vI e Val.f2 zdR a_v.b) (oV (zb ty22 e) (za h λy2 hy2 h=>oT (tC (zqz hy2) hT (s1 e) k0 (ar e (bn (ze (r1 e) k0 (iS h ▸ ⟨e,e⟩))))))))
 refine oV (zP e e) (an e (zd h e (λ_ h=>?_) (λ_ h=>zC (zs (zp (ws (ar e (ze (r1 e) k0 (iS h ▸ ⟨e,e⟩)))))))))
 exact ws (oV (vI e Val.f2 zdR a_v.b) (oV (zb ty22 e) (oV (zmM (l:=a_v.b) Tryz.underlying22 Tryz.underlying5 Tryz.underlying9 e hI) (za h λy3 hy3 h=>oT (tC (zj7 hy3) hT (s3 e e e) k0 (zam h λq4 h=>oV (zla e e q4) (zam h λq5 h=>oV (zla e e q5) (ar e (bn (ze (r1 e) k0 (iS h ▸ ⟨e,e⟩)))))))))))


def zbS (f':Int->GNpr->GTyp->Val->Option (Bool × GNpr)):Prop :=
 ∀ {a_k a_a1 a_a2 a_a3 zfn zpa r},f' a_k a_a1 a_a2 a_a3=some r->Ctr Tryz.prog 59 [isv a_k,immv (PtrB.mk zfn),immv (a_a2),immv (a_a3)] [boxE zfn (GNprO a_a1 zpa),vecE zpa a_a1.b] (Pt1 (λ_=>[isv r.1]) λu1=>[boxE zfn (GNprO r.2 u1),vecE u1 r.2.b])
def zbY (f':GNpr->Int->Val->Option (GNpr)):Prop :=
 ∀ {a_p a_i a_v za1 zfh r},f' a_p a_i a_v=some r->Ctr Tryz.prog 27 [ptrv za1 (Fld.id GNprOT),isv a_i,isv a_v] [boxE za1 (GNprO a_p zfh),vecE zfh a_p.b] (Pt1 (λ_=>[]) λu1=>[boxE za1 (GNprO r u1),vecE u1 r.b])
def zcc (f':GNpr->Int->GTyp->Val->Option (GNpr)):Prop :=
 ∀ {a_p a_n_ zek zcI za1 zfh r},f' a_p a_n_ zek zcI=some r->Ctr Tryz.prog 58 [ptrv za1 (Fld.id GNprOT),isv a_n_,clov 59 [immv (PtrB.mk za1),immv (zek),immv (zcI)]] [boxE za1 (GNprO a_p zfh),vecE zfh a_p.b] (Pt1 (λ_=>[]) λu1=>[boxE za1 (GNprO r u1),vecE u1 r.b])
def zbP (f':GNpr->Int->Val->GTyp->Option (GNpr)):Prop :=
 ∀ {a_p a_n_ zlP zcI za1 zfh r},f' a_p a_n_ zlP zcI=some r->Ctr Tryz.prog 58 [ptrv za1 (Fld.id GNprOT),isv a_n_,clov 60 [immv (zlP),immv (PtrB.mk za1),immv (zcI)]] [boxE za1 (GNprO a_p zfh),vecE zfh a_p.b] (Pt1 (λ_=>[]) λu1=>[boxE za1 (GNprO r u1),vecE u1 r.b])
def zbL (f':Int->Val->GNpr->GTyp->Option (Bool × GNpr)):Prop :=
 ∀ {a_k a_a1 a_a2 a_a3 zjq zm5 r},f' a_k a_a1 a_a2 a_a3=some r->Ctr Tryz.prog 60 [isv a_k,immv (a_a1),immv (PtrB.mk zjq),immv (a_a3)] [boxE zjq (GNprO a_a2 zm5),vecE zm5 a_a2.b] (Pt1 (λ_=>[isv r.1]) λu1=>[boxE zjq (GNprO r.2 u1),vecE u1 r.2.b])
theorem ziq {zaf zai zal zae zag} (zcS:zbS zaf) (zcq:zbY zai) (zdh:zcc zal) (zcU:zbP zae) (zcT:zbL zag):zbS (zcP zaf zai zal zae zag):=by
 intro a_k a_a1 a_a2 a_a3 zfn zpa r h
 unfold zcP at h
 exact zi Tryz.func59 e λw0 S0 hT=>ws (an e (zF (zH (.v 0 (.v 1 (.v 2 (.v 3 (.v 4 (.v 5 (.v 6 (.v 7 (.t 8 .nil))))))))) moOrd (by kernel_rfl) (zl e (zbb (α:=GNprOT) ty64 e) (zl e (vI e GTyp.f7 znl a_a2.of) (zl e (zb ty3 e) (zl e (vI e Val.f3 zcK a_a3.l) (zl e (zb ty23 e) (rm e e (za h λy2 hy2 h=>zl e (vX e e sl23 hy2) (zl e (zb ty26 e) (za h λy3 hy3 h=>rT e (tC1 (zcq hy3) hT (s3 e e e) k2 (λv4=>zak (zp (ws (ar e (ze (r1 e) k2 (iS h ▸ ⟨v4,e,e⟩)))))))))))))))))))

theorem zjN {zaf zai zal zae zag} (zcS:zbS zaf) (zcq:zbY zai) (zdh:zcc zal) (zcU:zbP zae) (zcT:zbL zag):zbY (zdx zaf zai zal zae zag):=by
 intro a_p a_i a_v za1 zfh r h
 unfold zdx at h
 refine zi Tryz.func27 e λw0 S0 hT=>ws (oT (zi8 (y:=PtrB.mk za1) e zkz (oT (tB e (rn (ws (oV (zbb (α:=GNprOT) ty64 e) (oV (zf e) (oV (zu e zqL ztW) (oV (zu e GTab.f3 zfC) (oT (tL ty29 e p0 a_p.t.types (om e (za h λy2 hy2 h=>oV (vX e e sl29 hy2) (oV (zb ty129 e) (oT (zX _ ze129 λb3=>oT (tS ty129 e e p0 y2 (zah (zaJ 6 .here e) (rn (ws (oV (vI e GTyp.f0 zdI y2.kind) (oV (zb ty3 e) (rn (zn (ws (oV (zP e e) (an e (zd h e (λ_ h=>?_) (λ_ h=>ws (oV (zP e e) ?_)))))))))))))))))))))))))))))))
 ·exact zH (.v 0 (.v 1 (.v 2 (.v 3 (.v 4 (.v 5 (.t 6 (.v 7 (.v 8 (.v 9 (.t 10 (.t 11 .nil)))))))))))) moOrd (by kernel_rfl) (zl e (zbb (α:=GNprOT) ty64 e) (zl e (vI e GTyp.f3 zh7 y2.items) (zl e (zb ty126 e) (zl e (zb ty129 e) (zl e (vI e Val.f1 zcB a_v.n) (zl e (zb ty2 e) (za h λy4 hy4 h=>rT e (tC (zjd hy4) hT (s2 e e) k0 (za h λy5 hy5 h=>zl e (vX e e sl126 hy5) (zl e (vI e GItem.f0 zkx y5.name) (zl e (zb ty9 e) (rT e (zA (l:=([y5.name]:(List Str))) el27 (.cons e hI .nil) e e (za h λy7 hy7 h=>rT e (tC1 (zbe hy7) hT (.same e (.cons e zx .nil)) k2 (λv8=>zak (zs (zaQ .nil k2 (iS h ▸ ⟨v8,e,e⟩)))))))))))))))))))
 refine an e (zd h e (λ_ h=>?_) (λ_ h=>ws (oV (zP e e) (an e (zd h e (λ_ h=>?_) (λ_ h=>ss (oV (zP e e) (an e (jW 66 h (λq19 h=>?_) λJ20 h hJ20=>zd h e (λ_ h=>?_) (λ_ h=>zj (oV (zP e e) (oa e (zN (hJ20 h 2))))))))))))))
 ·exact zj (oV (zbb (α:=GNprOT) ty64 e) (oV (vI e Val.f3 zcK a_v.l) (oV (zb ty23 e) (oV (vN e sl23) (oV (zfp (.same e (.same e (.same e .nil)))) (za h λy9 hy9 h=>oT (tC1 (zdh hy9) hT (s3 e e e) k2 (λv10=>rb (zaQ .nil k2 (iS h ▸ ⟨v10,e,e⟩))))))))))
 ·refine ws (oV (vI e GTyp.f4 zbi y2.fields) (oV (zb ty127 e) (oV (vI e Val.f1 zcB a_v.n) (oV (zb ty2 e) (za h λy11 hy11 h=>oV (vX e e sl127 hy11) (oV (zb ty137 e) (oT (zX _ ze137 λb12=>oT (tS ty137 e e p0 y11 (zah (zaJ 7 .here e) (rn (ws (oV (zbb (α:=GNprOT) ty64 e) (oV (vI e GFld.f0 zkA y11.name) (oV (zb ty9 e) (oT (zA (l:=([y11.name,(Str.mk [32,58,32])]:(List Str))) el27 (.cons e hI (.cons e hI .nil)) e e (za h λy14 hy14 h=>oT (tC1 (zbe hy14) hT (.same e (.cons e zx .nil)) k2 (λv15=>rn (zH (.v 0 (.v 1 (.v 2 (.v 3 (.v 4 (.v 5 (.v 6 (.t 7 .nil)))))))) moOrd (by kernel_rfl) (zl e (zbb (α:=GNprOT) ty64 e) (zl e (vI e GFld.f1 zdH y11.ty) (zl e (zb ty3 e) (zl e (vI e Val.f3 zcK a_v.l) (zl e (zb ty23 e) (za h λy16 hy16 h=>zl e (vX e e sl23 hy16) (zl e (zb ty26 e) (za h λy17 hy17 h=>?_)))))))))))))))))))))))))))))
  exact rT e (tC1 (zcq hy17) hT (s3 e e e) k2 (λv18=>zak (zs (zaQ .nil k2 (iS h ▸ ⟨v18,e,e⟩)))))
 ·refine zd h e (λ_ h=>?_) (λ_ h=>zH (.v 0 (.v 1 (.t 2 (.t 3 (.t 4 .nil))))) moOrd (by kernel_rfl) (zl e (zbb (α:=GNprOT) ty64 e) (zl e (zb ty26 e) (za h λy23 hy23 h=>rT e (tC (zop hy23) hT (s1 e) k0 (rT e (zA (l:=([y23]:(List Str))) el27 (.cons e hI .nil) e e (za h λy25 hy25 h=>rT e (tC1 (zbe hy25) hT (.same e (.cons e zx .nil)) k2 (λv26=>zak (zs (zaQ .nil k2 (iS h ▸ ⟨v26,e,e⟩)))))))))))))
  exact zj (oV (zbb (α:=GNprOT) ty64 e) (oV (vI e Val.f3 zcK a_v.l) (oV (zb ty23 e) (oV (vN e sl23) (oV (zfp (.same e (.same e (.same e .nil)))) (za h λy21 hy21 h=>oT (tC1 (zcU hy21) hT (s3 e e e) k2 (λv22=>rb (zaQ .nil k2 (iS h ▸ ⟨v22,e,e⟩))))))))))
 exact zC (hJ20 h 0)

theorem zjv {zaf zai zal zae zag} (zcS:zbS zaf) (zcq:zbY zai) (zdh:zcc zal) (zcU:zbP zae) (zcT:zbL zag):zcc (zde zaf zai zal zae zag):=by
 intro a_p a_n_ zek zcI za1 zfh r h
 unfold zde at h
 refine zi Tryz.func58 e λw0 S0 hT=>ws (an e (ss (om e (om e (rn (zn (lP h Vt zfh (λq2 g2=>[(6,isv q2.1),(10,isv q2.2.1)]) (λq2 g2=>[boxE za1 (GNprO q2.2.2 g2),vecE g2 q2.2.2.b]) (zB (j:=6) e hI (zB (j:=10) e hI zay)) k2 λL3 q2 g2 Q38 h hL3 eL3 rL3=>ws (oV (zau e e) (rn (zF (zd h e (λ_ h=>?_) (λ_ h=>xn (eL3 _ _ (zw (zp (ss (om e (rn (zd h e (λ_ h=>?_) (λ_ h=>wk (zj (om e (oT (zA (l:=([(Str.mk [32,125])]:(List Str))) el27 (.cons e hI .nil) e e (za h λy36 hy36 h=>oT (tC1 (zbe hy36) hT (.same e (.cons e zx .nil)) k2 (λv37=>zN (zaQ .nil k2 (iS h ▸ ⟨v37,e,e⟩)))))))))))))))))))))))))))))
 ·refine wk (zF (jw h Vt (λq18 g18=>[(6,isv q18.1)]) (λq18 g18=>[boxE za1 (GNprO q18.2 g18),vecE g18 q18.2.b]) k2 (λq18 g18 h=>?_) λJ19 h hJ19=>zn (ws (om e (an e (ws (om e (oV (zf e) (oV (zu e zfN ziw) (oT (zaS (R:=vecv g2 (q2.2.2.b.length)) ty22 e p0 isvV1 (oV (zhZ sl22 e) (an e (ss (om e (rn (jw h Vt (λq20 g20=>[]) (λq20 g20=>[boxE za1 (GNprO q20 g20),vecE g20 q20.b]) k2 (λq20 g20 h=>?_) λJ21 h hJ21=>zd h e (λ_ h=>?_) (λ_ h=>zj (om e (oT (zA (l:=([(Str.mk [44,32])]:(List Str))) el27 (.cons e hI .nil) e e (za h λy26 hy26 h=>oT (tC1 (zbe hy26) hT (.same e (.cons e zx .nil)) k2 (λv27=>zN (hJ21 h v27 3)))))))))))))))))))))))))
  ·exact zj (zy h λq31 h=>oV (zaa e e q31) (om e (zN (hL3 h g18 6))))
  ·refine ws (om e (om e (za h λy28 hy28 h=>oT (zfB e (.same e .nil) (zcS hy28) hT (.cons .here (.cons .here .nil)) (λR H' hR=>?_)))))
   obtain ⟨v29,rfl,rfl⟩:=hR
   refine rn (zd h e (λ_ h=>?_) (λ_ h=>zj (om e (om e (oV (zf e) (oV (zu e zfN ziw) (oT (zaS (R:=vecv v29 (y28.2.b.length)) ty22 e p0 isvV1 (om e (zaj h λq30 h=>oV (zuo e sl22 (.there .here) (by first | rfl | simp) e q30.1 q30.2) (zah (zp1 (((q2.2.2.b.length:Nat):Int)).toNat (.there .here)) (oV (zf e) (oV (zu e zfN ziw) (oT (tR ty22 e e isvV2 p1 (GNprO {y28.2 with b:=(y28.2.b.take (((q2.2.2.b.length:Nat):Int)).toNat)} v29) e (rb (hJ19 h v29 21)))))))))))))))))
   exact zj (oa e (rb (hJ19 h v29 13)))
  exact zj (om e (oT (zA (l:=([(Str.mk [123,32])]:(List Str))) el27 (.cons e hI .nil) e e (za h λy23 hy23 h=>oT (tC1 (zbe hy23) hT (.same e (.cons e zx .nil)) k2 (λv24=>zN (hJ21 h v24 3)))))))
 exact ws (om e (oT (zA (l:=([(Str.mk [123,125])]:(List Str))) el27 (.cons e hI .nil) e e (za h λy33 hy33 h=>oT (tC1 (zbe hy33) hT (.same e (.cons e zx .nil)) k2 (λv34=>rn (zbK (zD (ze .nil k2 (iS h ▸ ⟨v34,e,e⟩))))))))))

theorem zir {zaf zai zal zae zag} (zcS:zbS zaf) (zcq:zbY zai) (zdh:zcc zal) (zcU:zbP zae) (zcT:zbL zag):zbP (zcO zaf zai zal zae zag):=by
 intro a_p a_n_ zlP zcI za1 zfh r h
 unfold zcO at h
 refine zi Tryz.func58 e λw0 S0 hT=>ws (an e (ss (om e (om e (rn (zn (lP h Vt zfh (λq2 g2=>[(6,isv q2.1),(10,isv q2.2.1)]) (λq2 g2=>[boxE za1 (GNprO q2.2.2 g2),vecE g2 q2.2.2.b]) (zB (j:=6) e hI (zB (j:=10) e hI zay)) k2 λL3 q2 g2 Q38 h hL3 eL3 rL3=>ws (oV (zau e e) (rn (zF (zd h e (λ_ h=>?_) (λ_ h=>xn (eL3 _ _ (zw (zp (ss (om e (rn (zd h e (λ_ h=>?_) (λ_ h=>wk (zj (om e (oT (zA (l:=([(Str.mk [32,125])]:(List Str))) el27 (.cons e hI .nil) e e (za h λy36 hy36 h=>oT (tC1 (zbe hy36) hT (.same e (.cons e zx .nil)) k2 (λv37=>zN (zaQ .nil k2 (iS h ▸ ⟨v37,e,e⟩)))))))))))))))))))))))))))))
 ·refine wk (zF (jw h Vt (λq18 g18=>[(6,isv q18.1)]) (λq18 g18=>[boxE za1 (GNprO q18.2 g18),vecE g18 q18.2.b]) k2 (λq18 g18 h=>?_) λJ19 h hJ19=>zn (ws (om e (an e (ws (om e (oV (zf e) (oV (zu e zfN ziw) (oT (zaS (R:=vecv g2 (q2.2.2.b.length)) ty22 e p0 isvV1 (oV (zhZ sl22 e) (an e (ss (om e (rn (jw h Vt (λq20 g20=>[]) (λq20 g20=>[boxE za1 (GNprO q20 g20),vecE g20 q20.b]) k2 (λq20 g20 h=>?_) λJ21 h hJ21=>zd h e (λ_ h=>?_) (λ_ h=>zj (om e (oT (zA (l:=([(Str.mk [44,32])]:(List Str))) el27 (.cons e hI .nil) e e (za h λy26 hy26 h=>oT (tC1 (zbe hy26) hT (.same e (.cons e zx .nil)) k2 (λv27=>zN (hJ21 h v27 3)))))))))))))))))))))))))
  ·exact zj (zy h λq31 h=>oV (zaa e e q31) (om e (zN (hL3 h g18 6))))
  ·refine ws (om e (om e (za h λy28 hy28 h=>oT (zfB e (.same e .nil) (zcT hy28) hT (.cons .here (.cons .here .nil)) (λR H' hR=>?_)))))
   obtain ⟨v29,rfl,rfl⟩:=hR
   refine rn (zd h e (λ_ h=>?_) (λ_ h=>zj (om e (om e (oV (zf e) (oV (zu e zfN ziw) (oT (zaS (R:=vecv v29 (y28.2.b.length)) ty22 e p0 isvV1 (om e (zaj h λq30 h=>oV (zuo e sl22 (.there .here) (by first | rfl | simp) e q30.1 q30.2) (zah (zp1 (((q2.2.2.b.length:Nat):Int)).toNat (.there .here)) (oV (zf e) (oV (zu e zfN ziw) (oT (tR ty22 e e isvV2 p1 (GNprO {y28.2 with b:=(y28.2.b.take (((q2.2.2.b.length:Nat):Int)).toNat)} v29) e (rb (hJ19 h v29 21)))))))))))))))))
   exact zj (oa e (rb (hJ19 h v29 13)))
  exact zj (om e (oT (zA (l:=([(Str.mk [123,32])]:(List Str))) el27 (.cons e hI .nil) e e (za h λy23 hy23 h=>oT (tC1 (zbe hy23) hT (.same e (.cons e zx .nil)) k2 (λv24=>zN (hJ21 h v24 3)))))))
 exact ws (om e (oT (zA (l:=([(Str.mk [123,125])]:(List Str))) el27 (.cons e hI .nil) e e (za h λy33 hy33 h=>oT (tC1 (zbe hy33) hT (.same e (.cons e zx .nil)) k2 (λv34=>rn (zbK (zD (ze .nil k2 (iS h ▸ ⟨v34,e,e⟩))))))))))

theorem zit {zaf zai zal zae zag} (zcS:zbS zaf) (zcq:zbY zai) (zdh:zcc zal) (zcU:zbP zae) (zcT:zbL zag):zbL (zcg zaf zai zal zae zag):=by
 intro a_k a_a1 a_a2 a_a3 zjq zm5 r h
 unfold zcg at h
 refine zi Tryz.func60 e λw0 S0 hT=>ws (an e (ss (oV (vI e Val.f3 zcK a_a1.l) (oV (zb ty23 e) (om e (za h λy2 hy2 h=>oV (vX e e sl23 hy2) (oV (zb ty26 e) (za h λy3 hy3 h=>oT (tC (zhY hy3) hT (s1 e) k0 (rn (zd h e (λ_ h=>?_) (λ_ h=>wk (zF (zH (.v 0 (.v 1 (.v 2 (.v 3 (.v 4 (.v 5 (.v 6 (.t 7 (.t 8 .nil))))))))) moOrd (by kernel_rfl) (zl e (zbb (α:=GNprOT) ty64 e) (zl e (vI e GTyp.f4 zbi a_a3.fields) (zl e (zb ty127 e) (rm e e (za h λy4 hy4 h=>zl e (vX e e sl127 hy4) (zl e (vI e GFld.f0 zkA y4.name) (zl e (zb ty9 e) (rT e (zA (l:=([y4.name,(Str.mk [32])]:(List Str))) el27 (.cons e hI (.cons e hI .nil)) e e (za h λy6 hy6 h=>rT e (tC1 (zbe hy6) hT (.same e (.cons e zx .nil)) k2 (λv7=>zak (zp ?_)))))))))))))))))))))))))))
 ·exact ws (ar e (zD (ze (r1 e) k2 (iS h ▸ ⟨zm5,e,e⟩))))
 exact zF (zH (.v 0 (.v 1 (.v 2 (.v 3 (.v 4 (.v 5 (.v 6 (.v 7 (.v 8 (.v 9 (.v 10 (.v 11 (.t 12 .nil))))))))))))) moOrd (by kernel_rfl) (zl e (zbb (α:=GNprOT) ty64 e) (zl e (vI e GTyp.f4 zbi a_a3.fields) (zl e (zb ty127 e) (rm e e (za h λy8 hy8 h=>zl e (vX e e sl127 hy8) (zl e (vI e GFld.f1 zdH y8.ty) (zl e (zb ty3 e) (zl e (vI e Val.f3 zcK a_a1.l) (zl e (zb ty23 e) (rm e e (za h λy9 hy9 h=>zl e (vX e e sl23 hy9) (zl e (zb ty26 e) (za h λy10 hy10 h=>rT e (tC1 (zcq hy10) hT (s3 e e e) k2 (λv11=>zak (zp (ws (ar e (ze (r1 e) k2 (iS h ▸ ⟨v11,e,e⟩)))))))))))))))))))))

theorem ze8:∀ n,zbS (zce n)/\zbY (zbB n)/\zcc (zcA n)/\zbP (zbG n)/\zbL (zcd n)
  | 0=>⟨λh=>(by cases h),λh=>(by cases h),λh=>(by cases h),λh=>(by cases h),λh=>(by cases h)⟩
  | n + 1=>by
    obtain ⟨h0,h1,h2,h3,h4⟩:=ze8 n
    exact ⟨ziq h0 h1 h2 h3 h4,zjN h0 h1 h2 h3 h4,zjv h0 h1 h2 h3 h4,zir h0 h1 h2 h3 h4,zit h0 h1 h2 h3 h4⟩
theorem zj8 (n:Nat):zbY (zbB n):=(ze8 n).2.1
theorem zpE {a_t a_i a_v r} (h:zh4 a_t a_i a_v=some r):Ctr Tryz.prog 13 [isv a_t,isv a_i,isv a_v] [] (Pt [isv r.1,isv r.2] []):=by
 unfold zh4 at h
 refine zi Tryz.func13 e λw0 S0 hT=>ws (oT (tB e (oT (tB e (oa e (an e (zF (zn (ws (oV (zb ty31 e) (om e (oV (zb ty26 e) (za h λy1 hy1 h=>oT (tC (zl4 hy1) hT (s3 e e e) k0 (oV (za2 e) (an e (zd h e (λ_ h=>?_) (λ_ h=>ws (oV (zb ty26 e) (za h λy2 hy2 h=>oT (tC (zpD fuel hy2) hT (s1 e) k0 (oV (za2 e) (an e (zd h e (λ_ h=>?_) (λ_ h=>zC (zs (zp (ws (oV (zb ty31 e) (oV (zao (z:=((a_t,(Vh.mk none 0)):GNprOT)) e bu66 zwg (.cons zqL ztW e hI .nil)) ?_))))))))))))))))))))))))))))))
 ·exact ws (oa e (ar e (bn (ze (r2 e e) k0 (iS h ▸ ⟨e,e⟩)))))
 ·exact ws (oa e (ar e (bn (ze (r2 e e) k0 (iS h ▸ ⟨e,e⟩)))))
 refine oT (zkn (y:=((a_t,(Vh.mk none 0)):GNprOT)) e hI λb3=>zah (zgo (α:=UInt8)) (an e (ss (om e (om e (oV (zb ty26 e) (za h λy5 hy5 h=>oT (tC1 (zj8 fuel hy5) hT (s3 e e e) (a1 k1) (λv6=>rn (ws (om e (oV (zf e) (oV (zu e zfN ziw) (oT (zaS (R:=vecv v6 (y5.b.length)) ty22 e p0 isvV1 (oV (zhZ sl22 e) (oV (zcy e e) (rn (zd h e (λ_ h=>?_) (λ_ h=>wk (ws (om e (oV (zf e) (oV (zu e zfN ziw) (oT (zaS (R:=vecv v6 (y5.b.length)) ty22 e p0 isvV1 (zah (zmj 35 (.there .here) e (by first | rfl | simp)) (oV (zmM (l:=y5.b) Tryz.underlying22 Tryz.underlying5 Tryz.underlying9 e hI) (oa e (ar e (ze (r2 e e) k0 (iS h ▸ ⟨e,e⟩))))))))))))))))))))))))))))))))
 exact ws (oa e (ar e (zD (ze (r2 e e) k0 (iS h ▸ ⟨e,e⟩)))))


def zjr (f':UInt64->Option (Str)):Prop :=
 ∀ {a_v r},f' a_v=some r->Ctr Tryz.prog 43 [isv a_v] [] (Pt [isv r] [])
theorem zqp {zku} (znE:zjr zku):zjr (zfZ zku):=by
 intro a_v r h
 unfold zfZ at h
 refine zi Tryz.func43 e λw0 S0 hT=>ws (an e (ss (om e (oV (znf e e) (rn (zd h e (λ_ h=>?_) (λ_ h=>wk (zF (jW 2 h (λq2 h=>?_) λJ3 h hJ3=>zH (.v 0 (.v 1 (.v 3 (.v 4 (.v 5 (.v 6 (.alt 2 (.t 7 (.v 8 (.v 9 (.v 10 .nil)))) (.t 7 (.v 8 (.t 2 (.v 9 (.v 10 .nil)))))))))))) moOrd (by kernel_rfl) (rm e e (zam h λq4 h=>zl e (zsb e e q4) (rm e e (zam h λq5 h=>zl e (zuM e e q5) (zl e (zje e e) (zl e (zpL Tryz.underlying102 Tryz.underlying5 e) (za h λy6 hy6 h=>zam h λq8 h=>zfr ?_ (rT e (zA (l:=([((48:UInt64) + (a_v % (10:UInt64))).toUInt8]:(List UInt8))) el22 (.cons e hI .nil) e e (zl e (zmM (l:=([((48:UInt64) + (a_v % (10:UInt64))).toUInt8]:(List UInt8))) Tryz.underlying22 Tryz.underlying5 Tryz.underlying9 e zx) (rT e (tC (znE hy6) hT (s1 e) k0 (zl e (zla e e q8) (zl e (zaD e) (zak (hJ3 h 11)))))))))))))))))))))))))
 ·exact ws (om e (oV (zje e e) (oV (zpL Tryz.underlying102 Tryz.underlying5 e) (oT (zA (l:=([((48:UInt64) + a_v).toUInt8]:(List UInt8))) el22 (.cons e hI .nil) e e (oV (zmM (l:=([((48:UInt64) + a_v).toUInt8]:(List UInt8))) Tryz.underlying22 Tryz.underlying5 Tryz.underlying9 e zx) (ar e (zD (ze (r1 e) k0 (iS h ▸ ⟨e,e⟩))))))))))
 ·exact zbK (ze (r1 e) k0 (iS h ▸ ⟨e,e⟩))
 exact rT e (tC (znE hy6) hT (s1 e) k0 (rT e (zA (l:=([((48:UInt64) + (a_v % (10:UInt64))).toUInt8]:(List UInt8))) el22 (.cons e hI .nil) e e (zl e (zmM (l:=([((48:UInt64) + (a_v % (10:UInt64))).toUInt8]:(List UInt8))) Tryz.underlying22 Tryz.underlying5 Tryz.underlying9 e zx) (zl e (zla e e q8) (zl e (zaD e) (zak (hJ3 h 11))))))))

theorem zj9:∀ n,zjr (zhd n)
  | 0=>λh=>(by cases h)
  | n + 1=>zqp (zj9 n)
theorem znT (n:Nat):zjr (zhd n):=(zj9 n)

theorem zq5 {a_v r} (h:zko a_v=some r):Ctr Tryz.prog 21 [isv a_v] [] (Pt [isv r] []):=by
 unfold zko at h
 refine zi Tryz.func21 e λw0 S0 hT=>ws (an e (ss (om e (oV (zau e e) (rn (zd h e (λ_ h=>?_) (λ_ h=>wk (ws (om e (oV (zqa Tryz.underlying2 Tryz.underlying102 e) (za h λy5 hy5 h=>oT (tC (znT fuel hy5) hT (s1 e) k0 (ar e (ze (r1 e) k0 (iS h ▸ ⟨e,e⟩)))))))))))))))
 exact ws (om e (zy h λq1 h=>oV (zaa e e q1) (zy h λq2 h=>oV (zvP e q2) (oV (zqa Tryz.underlying2 Tryz.underlying102 e) (oV (zje e e) (za h λy3 hy3 h=>oT (tC (znT fuel hy3) hT (s1 e) k0 (zam h λq4 h=>oV (zla e e q4) (ar e (zD (ze (r1 e) k0 (iS h ▸ ⟨e,e⟩))))))))))))

end Go.Proofs.Q


namespace Go.Proofs.Q
open Go.Sy
set_option maxRecDepth 4000
theorem zk9:∀  {r:Bool},zf7 =some r->Ctr Tryz.prog 12 [] [] (λR H=>R=oneOf [isv (r)]/\H=[]):=by
 intro  r h
 unfold zf7 at h
 refine zi Tryz.func12 e λw0 S0 hT=>ws (an e (ws (za h λy1 hy1 h=>oT (tC (zig hy1) hT (s1 e) k0 (om e (oV (zr e e) (oV (zr e e) (oT (zX _ ze31 λb2=>oT (tS ty31 e e p0 y1.1 (zah (zaJ 1 .here e) (an e (ws (oV (zb ty31 e) (oV (zao (z:=(Val.mk (2:Int) (5:Int) ([]:(List UInt8)) ([]:(List Val)) (0:Int) ([]:(List Raw)))) e bu26 ze26 (.cons Val.f0 zdy e hI (.cons Val.f1 zcB e hI .nil))) (oV (zao (z:=(Val.mk (1:Int) (1:Int) ([]:(List UInt8)) ([]:(List Val)) (0:Int) ([]:(List Raw)))) e bu26 ze26 (.cons Val.f0 zdy e hI (.cons Val.f1 zcB e hI .nil))) (oT (zA (l:=([(Val.mk (2:Int) (5:Int) ([]:(List UInt8)) ([]:(List Val)) (0:Int) ([]:(List Raw))),(Val.mk (1:Int) (1:Int) ([]:(List UInt8)) ([]:(List Val)) (0:Int) ([]:(List Raw)))]:(List Val))) el23 (.cons e hI (.cons e hI .nil)) e e (oV (zao (z:=(Val.mk (7:Int) (0:Int) ([]:(List UInt8)) ([(Val.mk (2:Int) (5:Int) ([]:(List UInt8)) ([]:(List Val)) (0:Int) ([]:(List Raw))),(Val.mk (1:Int) (1:Int) ([]:(List UInt8)) ([]:(List Val)) (0:Int) ([]:(List Raw)))]:(List Val)) (0:Int) ([]:(List Raw)))) e bu26 ze26 (.cons Val.f0 zdy e hI (.cons Val.f3 zcK e zx .nil))) (za h λy4 hy4 h=>oT (tC (zpE hy4) hT (s3 e e e) k0 (om e (oV (zr e e) (oV (zr e e) (oa e (an e (ws (om e (om e (jO 3 22 h (λq5 h=>?_) λJ6 h hJ6=>?_))))))))))))))))))))))))))))))
 ·refine om e (jO 3 26 h (λq8 h=>?_) λJ9 h hJ9=>oI h (λg10 h=>?_) λg10 h=>oN g10 (oN g10 (oV (zg e g10 e) (hJ9 h 3))))
  ·exact ar e (ze (r1 e) k0 (iS h ▸ ⟨e,e⟩))
  exact oG g10 (zm e) (oG g10 (zaW eq9 e e) (oV (zh e g10 e) (hJ9 h 3)))
 refine oI h (λg7 h=>?_) λg7 h=>oN g7 (oN g7 (oV (zg e g7 e) (hJ6 h 3)))
 exact oG g7 (zm e) (oG g7 (zP e e) (oV (zh e g7 e) (hJ6 h 3)))

end Go.Proofs.Q


namespace Go.Proofs.Q
open Go.Sy
set_option maxRecDepth 4000
theorem zdj {a_s zn3 r} (h:zbN a_s=some r):Ctr Tryz.prog 31 [ptrv zn3 ((Fld.id GNpsOT).comp zcX)] [boxE zn3 (GNpsO a_s)] (Pt [isv r.1] [boxE zn3 (GNpsO r.2)]):=by
 unfold zbN at h
 exact zi Tryz.func31 e λw0 S0 hT=>ws (oT (zX _ ze80 λb1=>rn (zF (zc3 0 (.there .here) e (λo2 hn3=>zH (.v 0 (.v 1 (.v 2 (.v 3 (.v 4 (.v 5 (.v 6 (.v 7 (.v 8 (.v 9 (.t 10 .nil))))))))))) moOrd (by kernel_rfl) (rm e e (zl e (zat e) (zl e (zdM e GStm.f0 ztU) (zl e (vP ty69 e m0 a_s.stream.l) (rm e e (zl e (zat e) (zl e (zdM e GStm.f1 zjt) (zl e (vP ty3 e m0 a_s.stream.i) (za h λy4 hy4 h=>zl e (vX e e sl69 hy4) (zl e (zb ty80 e) (rT e (tS ty80 e e p0 y4 (zak (zaO 0 hn3 e (zp (zbK (ze (.cell e (.there .here) ty80 .nil) k1 (iS h ▸ ⟨e,e⟩)))))))))))))))))))))))


theorem zcL {a_p a_e za1 r} (h:zbR a_p a_e=some r):Ctr Tryz.prog 32 [ptrv za1 (Fld.id GNpsOT),isv a_e] [boxE za1 (GNpsO a_p)] (Pt [isv r.1] [boxE za1 (GNpsO r.2)]):=by
 unfold zbR at h
 refine zi Tryz.func32 e λw0 S0 hT=>ws (an e (ss (om e (oV (zf e) (oV (zu e zl1 zpd) (oT (tL ty38 e p0 a_p.e (oV (zP e e) (rn (jw h Unit (λq1 g1=>[]) (λq1 g1=>[boxE za1 (GNpsO q1)]) k1 (λq1 g1 h=>?_) λJ2 h hJ2=>zd h e (λ_ h=>?_) (λ_ h=>zC (hJ2 h () 0))))))))))))
 ·exact ws (ar e (ze (r1 e) k1 (iS h ▸ ⟨e,e⟩)))
 exact zj (om e (om e (om e (oV (zf e) (oV (zu e zcX ze5) (za h λy3 hy3 h=>oT (tC (zdj hy3) hT (s1 e) k1 (oV (zh8 GTok.f2 e zms e) (om e (oV (zf e) (oV (zu e zqm ztl) (oT (tS ty3 e e p0 (GNpsO {y3.2 with at_:=y3.1.at_}) (oV (zf e) (oV (zu e zl1 zpd) (oT (tS ty38 e e p0 (GNpsO {y3.2 with at_:=y3.1.at_,e:=a_e}) (zN (hJ2 h () 12)))))))))))))))))))


theorem zdX {a_s zaV zn3 r} (h:zcG a_s zaV=some r):Ctr Tryz.prog 67 [ptrv zn3 ((Fld.id GNpsOT).comp zcX),isv zaV] [boxE zn3 (GNpsO a_s)] (Pt [isv r.1] [boxE zn3 (GNpsO r.2)]):=by
 unfold zcG at h
 refine zi Tryz.func67 e λw0 S0 hT=>ws (an e (ws (om e (za h λy1 hy1 h=>oT (tC (zdj hy1) hT (s1 e) k1 (oT (zX _ ze80 λb2=>oT (tS ty80 e e p0 y1.1 (zah (zaJ 5 .here e) (rn (ss (oV (vI e GTok.f0 zdz y1.1.kind) (oV (zb ty3 e) (oV (zbz e e) (om e (jO 4 15 h (λq3 h=>?_) λJ4 h hJ4=>oI h (λg5 h=>?_) λg5 h=>oN g5 (oN g5 (oN g5 (oV (zg e g5 e) (hJ4 h 4))))))))))))))))))))
 ·refine om e (jO 5 21 h (λq6 h=>?_) λJ7 h hJ7=>oI h (λg8 h=>?_) λg8 h=>oG g8 (vI e GTok.f1 zeM y1.1.text) (oG g8 (zb ty9 e) (oG g8 (zm e) (oG g8 (zi3 eq9 e e) (oV (zg e g8 e) (hJ7 h 5))))))
  ·refine rn (zd h e (λ_ h=>?_) (λ_ h=>wk (ws (om e (oV (zf e) (oV (zu e GStm.f1 zjt) (oT (tL ty3 e p0 y1.2.stream.i (zy h λq9 h=>oV (zaa e e q9) (oV (zf e) (oV (zu e GStm.f1 zjt) (oT (tS ty3 e e p0 (GNpsO {y1.2 with stream:={ y1.2.stream with i:=(y1.2.stream.i + 1) }}) (rn (ws (ar e (ze (r1 e) k1 (iS h ▸ ⟨e,e⟩))))))))))))))))))
   exact ws (ar e (zD (ze (r1 e) k1 (iS h ▸ ⟨e,e⟩))))
  exact oN g8 (oN g8 (oN g8 (oN g8 (oV (zh e g8 e) (hJ7 h 5)))))
 exact oG g5 (vI e GTok.f0 zdz y1.1.kind) (oG g5 (zb ty3 e) (oG g5 (zbz e e) (oV (zh e g5 e) (hJ4 h 4))))


theorem zcJ {a_p zaV za1 r} (h:zbO a_p zaV=some r):Ctr Tryz.prog 68 [ptrv za1 (Fld.id GNpsOT),isv zaV] [boxE za1 (GNpsO a_p)] (Pt [isv r.1] [boxE za1 (GNpsO r.2)]):=by
 unfold zbO at h
 refine zi Tryz.func68 e λw0 S0 hT=>ws (an e (ws (om e (oV (zf e) (oV (zu e zcX ze5) (om e (za h λy1 hy1 h=>oT (tC (zdX hy1) hT (s2 e e) k1 (om e (jo 3 h Unit (λq2 g2=>[(13,isv q2.1)]) (λq2 g2=>[boxE za1 (GNpsO q2.2)]) k1 (λq2 g2 h=>?_) λJ3 h hJ3=>oI h (λg4 h=>?_) λg4 h=>oG g4 (zm e) (za h λy5 hy5 h=>oH g4 (tC (zcL hy5) hT (s2 e e) k1 (oV (zg e g4 e) (hJ3 h () 3))))))))))))))
 ·exact ar e (ze (r1 e) k1 (iS h ▸ ⟨e,e⟩))
 exact oN g4 (oN g4 (oV (zh e g4 e) (hJ3 h () 3)))


theorem zgV {a_p ze1 za1 r} (h:zd6 a_p ze1=some r):Ctr Tryz.prog 69 [ptrv za1 (Fld.id GNpsOT),isv ze1] [boxE za1 (GNpsO a_p)] (Pt [isv r.1,isv r.2.1] [boxE za1 (GNpsO r.2.2)]):=by
 unfold zd6 at h
 refine zi Tryz.func69 e λw0 S0 hT=>ws (oa e (an e (ws (om e (oV (zf e) (oV (zu e zcX ze5) (za h λy1 hy1 h=>oT (tC (zdj hy1) hT (s1 e) k1 (oT (zX _ ze80 λb2=>oT (tS ty80 e e p0 y1.1 (zah (zaJ 6 .here e) (rn (ss (oV (vI e GTok.f0 zdz y1.1.kind) (oV (zb ty3 e) (om e (oV (zbz e e) (rn (zd h e (λ_ h=>?_) (λ_ h=>wk (ws (om e (oV (zf e) (oV (zu e zcX ze5) (oV (zu e GStm.f1 zjt) (oT (tL ty3 e p0 y1.2.stream.i (zy h λq4 h=>oV (zaa e e q4) ?_)))))))))))))))))))))))))))))
 ·exact ws (om e (za h λy3 hy3 h=>oT (tC (zcL hy3) hT (s2 e e) k1 (oa e (ar e (zD (ze (r2 e e) k1 (iS h ▸ ⟨e,e⟩))))))))
 exact oV (zf e) (oV (zu e zcX ze5) (oV (zu e GStm.f1 zjt) (oT (tS ty3 e e p0 (GNpsO {y1.2 with stream:={ y1.2.stream with i:=(y1.2.stream.i + 1) }}) (rn (ws (oV (vI e GTok.f1 zeM y1.1.text) (oV (zb ty9 e) (oa e (ar e (ze (r2 e e) k1 (iS h ▸ ⟨e,e⟩))))))))))))


theorem zln {a_p a_x za1 r} (h:zez a_p a_x=some r):Ctr Tryz.prog 71 [ptrv za1 (Fld.id GNpsOT),isv a_x] [boxE za1 (GNpsO a_p)] (Pt [isv r.1,isv r.2.1] [boxE za1 (GNpsO r.2.2)]):=by
 unfold zez at h
 refine zi Tryz.func71 e λw0 S0 hT=>ws (oT (tB e (oa e (an e (ws (om e (oV (zf e) (oV (zu e zcX ze5) (za h λy1 hy1 h=>oT (tC (zdj hy1) hT (s1 e) k1 (oT (zX _ ze80 λb2=>oT (tS ty80 e e p0 y1.1 (zah (zaJ 6 .here e) (rn (ss (oV (vI e GTyp.f3 zh7 a_x.items) (oV (zb ty126 e) (oV (vN e sl126) (om e (rn (zn (lO 16 h e λL4 q3 Q21 h hL4 eL4 rL4=>ws (oV (zau e e) (rn (zF (zd h e (λ_ h=>?_) (λ_ h=>xn (eL4 _ _ ?_)))))))))))))))))))))))))))))
 ·refine wk (zF (zn (ws (za h λy13 hy13 h=>oV (vX e e sl126 hy13) (oV (zb ty132 e) (oT (zX _ ze132 λb14=>oT (tS ty132 e e p0 y13 (zah (zaJ 8 .here e) (rn (ws (oV (vI e GTok.f0 zdz y1.1.kind) (oV (zb ty3 e) (oV (zP e e) (om e (jO 6 29 h (λq15 h=>?_) λJ16 h hJ16=>oI h (λg17 h=>?_) λg17 h=>oN g17 (oN g17 (oN g17 (oN g17 (oN g17 (oV (zg e g17 e) (hJ16 h 6))))))))))))))))))))))
  ·refine rn (zd h e (λ_ h=>?_) (λ_ h=>zC (zs (zp (zj (zy h λq19 h=>oV (zaa e e q19) (om e (zN (hL4 h 13)))))))))
   exact ws (om e (oV (zf e) (oV (zu e zcX ze5) (oV (zu e GStm.f1 zjt) (oT (tL ty3 e p0 y1.2.stream.i (zy h λq18 h=>oV (zaa e e q18) (oV (zf e) (oV (zu e zcX ze5) (oV (zu e GStm.f1 zjt) (oT (tS ty3 e e p0 (GNpsO {y1.2 with stream:={ y1.2.stream with i:=(y1.2.stream.i + 1) }}) (rn (ws (oV (vI e GItem.f1 zep y13.number) (oV (zb ty2 e) (oa e (ar e (bn (rL4 _ (bn (ze (r2 e e) k1 (iS h ▸ ⟨e,e⟩)))))))))))))))))))))))
  exact oG g17 (vI e GItem.f0 zkx y13.name) (oG g17 (zb ty9 e) (oG g17 (vI e GTok.f1 zeM y1.1.text) (oG g17 (zb ty9 e) (oG g17 (zaW eq9 e e) (oV (zh e g17 e) (hJ16 h 6))))))
 exact zw (zp (ws (om e (za h λy20 hy20 h=>oT (tC (zcL hy20) hT (s2 e e) k1 (oa e (ar e (ze (r2 e e) k1 (iS h ▸ ⟨e,e⟩)))))))))


theorem zb8 {a_c r} (h:zbx a_c=some r):Ctr Tryz.prog 204 [isv a_c] [] (Pt [isv r] []):=by
 unfold zbx at h
 exact zi Tryz.func204 e λw0 S0 hT=>ws (an e (ws (om e (oV (zvQ e e) (ar e (ze (r1 e) k0 (iS h ▸ ⟨e,e⟩)))))))


theorem zhl {a_s zeO zdn r} (h:zd0 a_s zeO zdn=some r):Ctr Tryz.prog 165 [isv a_s,isv zeO,isv zdn] [] (Pt [isv r.1,isv r.2] []):=by
 unfold zd0 at h
 refine zi Tryz.func165 e λw0 S0 hT=>ws (oa e (oV (zkK) (rn (ss (om e (oV (zaW eq9 e e) (rn (zd h e (λ_ h=>?_) (λ_ h=>wk (ws (om e (oV (zP e e) (an e (ws (om e (an e (zF (jw h Unit (λq1 g1=>[(0,isv q1.1),(1,isv q1.2)]) (λq1 g1=>[]) k0 (λq1 g1 h=>?_) λJ2 h hJ2=>zn (ws (om e (oV (zk6 e e) (om e (jO 3 31 h (λq3 h=>?_) λJ4 h hJ4=>oI h (λg5 h=>?_) λg5 h=>oN g5 (oN g5 (oV (zg e g5 e) ?_)))))))))))))))))))))))))
 ·refine ws ?_
  cases h
 ·refine ss (om e (oV (zP e e) (rn (jW 2 h (λq26 h=>?_) λJ27 h hJ27=>zd h e (λ_ h=>?_) (λ_ h=>ws (om e (oV (zau e e) (om e (jO 3 83 h (λq28 h=>?_) λJ29 h hJ29=>oI h (λg30 h=>?_) λg30 h=>oG g30 (zm e) (oG g30 (zcy e e) (oV (zg e g30 e) (hJ29 h 3))))))))))))
  ·refine ws (an e (ss (om e (rn (jW 10 h (λq31 h=>?_) λJ32 h hJ32=>zn (ws (oV (zP e e) (an e (zd h e (λ_ h=>?_) (λ_ h=>ws (oV (zP e e) (an e (zd h e (λ_ h=>?_) (λ_ h=>zj (om e (oV (zqa Tryz.underlying3 Tryz.underlying102 e) (zam h λq33 h=>oV (zsb e e q33) (oV (zje e e) (oa e (rb (hJ32 h 9)))))))))))))))))))))
   ·refine ws (om e (oV (zqa Tryz.underlying3 Tryz.underlying51 e) (zam h λq34 h=>oV (zg7 e e q34) (oV (zsa e e) (an e (ws (an e (ws (an e (ss (om e (zam h λq35 h=>oT (zuS Tryz.underlying9 Tryz.underlying22 Tryz.underlying5 e q35 (oV (vN e sl22) (om e (rn (zn (lP h Unit () (λq36 g36=>[(12,isv q36.1),(13,isv q36.2.1),(101,isv q36.2.2)]) (λq36 g36=>[]) (zB (j:=12) e hI (zB (j:=13) e hI (zB (j:=101) e hI zay))) k0 λL37 q36 g36 Q83 h hL37 eL37 rL37=>ws (oV (zau e e) (rn (zF (zd h e (λ_ h=>?_) (λ_ h=>xn (eL37 _ _ (zw (zp (ss ?_)))))))))))))))))))))))))))
    ·refine wk (zF (jw h Unit (λq59 g59=>[(12,isv q59.1),(13,isv q59.2)]) (λq59 g59=>[]) k0 (λq59 g59 h=>?_) λJ60 h hJ60=>zn (ws (za h λy61 hy61 h=>oV (vX e e sl22 hy61) (oV (zb ty5 e) (an e (ws (an e (zF (jW 16 h (λq62 h=>?_) λJ63 h hJ63=>zn (ws (om e (oV (zaW eq5 e e) (om e (jO 2 111 h (λq64 h=>?_) λJ65 h hJ65=>oI h (λg66 h=>?_) λg66 h=>oN g66 (oV (zg e g66 e) (hJ65 h 2)))))))))))))))))
     ·exact zj (zy h λq79 h=>oV (zaa e e q79) (om e (zN (hL37 h () 8))))
     ·refine ss (om e (om e (oV (zvz Tryz.underlying3 Tryz.underlying5 e) (oV (zio e e) (rn (zd h e (λ_ h=>?_) (λ_ h=>wk (ss (om e (om e (oV (zu4 e e) (rn (zd h e (λ_ h=>?_) (λ_ h=>wk (ws (om e (om e (oV (zqa Tryz.underlying3 Tryz.underlying102 e) (oV (zpo e e) (an e (ws (om e (om e (oV (zfw Tryz.underlying5 Tryz.underlying102 e) (oV (zje e e) (an e (ss (om e (om e ?_)))))))))))))))))))))))))))))
      ·refine ws ?_
       cases h
      ·refine ws (om e ?_)
       cases h
      refine oV (znf e e) (om e (jO 4 159 h (λq76 h=>?_) λJ77 h hJ77=>oI h (λg78 h=>?_) λg78 h=>oG g78 (zm e) (oG g78 (zm e) (oG g78 (znd e e) (oV (zg e g78 e) (hJ77 h 4))))))
      ·refine rn (zd h e (λ_ h=>?_) (λ_ h=>wk (zj (om e (oa e (rb (hJ60 h () 29)))))))
       refine ws (om e ?_)
       cases h
      exact oN g78 (oN g78 (oN g78 (oV (zh e g78 e) (hJ77 h 4))))
     ·refine an e (zd h e (λ_ h=>?_) (λ_ h=>ws (om e (oV (zgv e e) (om e (jO 3 118 h (λq67 h=>?_) λJ68 h hJ68=>oI h (λg69 h=>?_) λg69 h=>oN g69 (oN g69 (oV (zg e g69 e) (hJ68 h 3)))))))))
      ·exact ws (an e (zmo (ziT e (zpZ (zw (hJ60 h () 10))))))
      ·refine an e (zd h e (λ_ h=>?_) (λ_ h=>ws (om e (za h λy70 hy70 h=>oT (tC (zb8 hy70) hT (s1 e) k0 (oV (zgv e e) (om e (jO 4 129 h (λq71 h=>?_) λJ72 h hJ72=>oI h (λg73 h=>?_) λg73 h=>oN g73 (oN g73 (oN g73 (oV (zg e g73 e) (hJ72 h 4))))))))))))
       ·exact zj (om e (oV (zmE e e) (oa e (rb (hJ63 h 13)))))
       ·refine an e (zd h e (λ_ h=>?_) (λ_ h=>ws ?_))
        ·exact zj (om e (za h λy75 hy75 h=>oT (tC (zb8 hy75) hT (s1 e) k0 (oV (zmE e e) (oV (ztI e e) (oa e (rb (hJ63 h 21))))))))
        cases h
       exact oG g73 (zm e) (za h λy74 hy74 h=>oH g73 (tC (zb8 hy74) hT (s1 e) k0 (oG g73 (zgv e e) (oV (zh e g73 e) (hJ72 h 4)))))
      exact oG g69 (zm e) (oG g69 (zgv e e) (oV (zh e g69 e) (hJ68 h 3)))
     exact oG g66 (zm e) (oV (zh e g66 e) (hJ65 h 2))
    refine om e (om e (jO 4 169 h (λq80 h=>?_) λJ81 h hJ81=>oI h (λg82 h=>?_) λg82 h=>oN g82 (oN g82 (oN g82 (oV (zg e g82 e) (hJ81 h 4))))))
    ·refine rn (zd h e (λ_ h=>?_) (λ_ h=>wk (ws (om e (oa e (oV (zkK) (rn (zbK (ze (r2 e e) k0 (iS h ▸ ⟨e,e⟩))))))))))
     refine ws ?_
     cases h
    refine oG g82 (zm e) ?_
    cases h
   ·exact zj (oa e (rb (hJ32 h 3)))
   exact zj (oa e (rb (hJ32 h 5)))
  ·exact zj (oa e (zN (hJ27 h 1)))
  ·refine rn (zd h e (λ_ h=>?_) (λ_ h=>zC (hJ27 h 4)))
   refine ws ?_
   cases h
  exact oN g30 (oN g30 (oV (zh e g30 e) (hJ29 h 3)))
 ·refine an e (zd h e (λ_ h=>?_) (λ_ h=>ws (om e (oV (zP e e) (an e (zd h e (λ_ h=>?_) (λ_ h=>ws ?_)))))))
  ·exact zC (zs (hJ2 h () 5))
  ·refine ws (an e (ws (om e (za h λy6 hy6 h=>oV (zcl y6 st9 e e hy6) (oV (zaW eq5 e e) (rn (zd h e (λ_ h=>?_) (λ_ h=>zC (zs (hJ2 h () 12))))))))))
   refine zn (ws (om e (oV (zcr st9 e) (oV (zdT e e) (om e (jO 5 49 h (λq7 h=>?_) λJ8 h hJ8=>oI h (λg9 h=>?_) λg9 h=>oN g9 (oN g9 (oN g9 (oN g9 (oV (zg e g9 e) (hJ8 h 5)))))))))))
   ·refine an e (zd h e (λ_ h=>?_) (λ_ h=>ws (om e (oV (zcr st9 e) (oV (zdT e e) (om e (jO 5 61 h (λq13 h=>?_) λJ14 h hJ14=>oI h (λg15 h=>?_) λg15 h=>oN g15 (oN g15 (oN g15 (oN g15 (oV (zg e g15 e) (hJ14 h 5))))))))))))
    ·exact ws (an e (zj (om e (zaj h λq12 h=>oV (zgH st9 e (.inr ⟨_,e,e⟩) (.inl ⟨e,e⟩) q12.1 q12.2.1 q12.2.2) (oa e (rb (zs (hJ2 h () 22))))))))
    ·refine an e (zd h e (λ_ h=>?_) (λ_ h=>ws (om e (oV (zcr st9 e) (oV (zdT e e) (om e (jO 5 73 h (λq19 h=>?_) λJ20 h hJ20=>oI h (λg21 h=>?_) λg21 h=>oN g21 (oN g21 (oN g21 (oN g21 (oV (zg e g21 e) (hJ20 h 5))))))))))))
     ·exact ws (an e (zj (om e (zaj h λq18 h=>oV (zgH st9 e (.inr ⟨_,e,e⟩) (.inl ⟨e,e⟩) q18.1 q18.2.1 q18.2.2) (oa e (rb (zs (hJ2 h () 28))))))))
     ·refine an e (zd h e (λ_ h=>?_) (λ_ h=>ws (an e (zj (om e (zaj h λq25 h=>oV (zgH st9 e (.inr ⟨_,e,e⟩) (.inl ⟨e,e⟩) q25.1 q25.2.1 q25.2.2) (oa e (rb (zs (hJ2 h () 34))))))))))
      exact ws (an e (zj (om e (zaj h λq24 h=>oV (zgH st9 e (.inr ⟨_,e,e⟩) (.inl ⟨e,e⟩) q24.1 q24.2.1 q24.2.2) (oa e (rb (zs (hJ2 h () 34))))))))
     exact oG g21 (zm e) (za h λy22 hy22 h=>oG g21 (zcl y22 st9 e e hy22) (za h λy23 hy23 h=>oH g21 (tC (zb8 hy23) hT (s1 e) k0 (oG g21 (zaW eq5 e e) (oV (zh e g21 e) (hJ20 h 5))))))
    exact oG g15 (zm e) (za h λy16 hy16 h=>oG g15 (zcl y16 st9 e e hy16) (za h λy17 hy17 h=>oH g15 (tC (zb8 hy17) hT (s1 e) k0 (oG g15 (zaW eq5 e e) (oV (zh e g15 e) (hJ14 h 5))))))
   exact oG g9 (zm e) (za h λy10 hy10 h=>oG g9 (zcl y10 st9 e e hy10) (za h λy11 hy11 h=>oH g9 (tC (zb8 hy11) hT (s1 e) k0 (oG g9 (zaW eq5 e e) (oV (zh e g9 e) (hJ8 h 5))))))
  cases h
 ·exact oG g5 (zm e) (oG g5 (zk6 e e) (oV (zh e g5 e) (hJ4 h 3)))
 exact hJ4 h 3


theorem zkU {a_s zeO zdn r} (h:zdJ a_s zeO zdn=some r):Ctr Tryz.prog 128 [isv a_s,isv zeO,isv zdn] [] (Pt [isv r.1,isv r.2] []):=by
 unfold zdJ at h
 refine zi Tryz.func128 e λw0 S0 hT=>ws (oa e (oV (zkK) (rn (ws (om e (om e (om e (za h λy1 hy1 h=>oT (tC (zhl hy1) hT (s3 e e e) k0 (om e (oV (zr e e) (oV (zr e e) (oa e (an e (ss (om e (oV (zuj if149 e) (rn (zd h e (λ_ h=>?_) (λ_ h=>wk (ws (om e (oa e (oV (zkK) (rn (zbK (ze (r2 e e) k0 (iS h ▸ ⟨e,e⟩))))))))))))))))))))))))))))
 refine ws (om e (om e (om e (om e (om e ?_)))))
 cases h


theorem zot {a_s r} (h:zdV a_s=some r):Ctr Tryz.prog 72 [isv a_s] [] (Pt [isv r] []):=by
 unfold zdV at h
 refine zi Tryz.func72 e λw0 S0 hT=>ws (an e (ws (an e (ss (an e (zn (zhf (zbC) (lP h Tok none (λq1 g1=>[(3,appv g1 q1.1),(4,isv q1.2)]) (λq1 g1=>[tokE g1]) (zB (j:=3) e zcs (zB (j:=4) e hI zay)) k1 λL2 q1 g1 Q20 h hL2 eL2 rL2=>ss (om e (zy h λq11 h=>oV (zaa e e q11) (om e (oV (zcr st9 e) (oV (zau e e) (rn (zd h e (λ_ h=>?_) (λ_ h=>xn (eL2 _ _ (zw (zp (ws (om e (ar e (ze (.as e zx .nil) k0 (iS h ▸ ⟨e,e⟩))))))))))))))))))))))))
 refine wk (zF (zn (ws (om e (om e (om e (zy h λq12 h=>oV (zaa e e q12) (zaj h λq13 h=>oV (zgH st9 e (.inr ⟨_,e,e⟩) (.inr ⟨_,e,e⟩) q13.1 q13.2.1 q13.2.2) (za h λy14 hy14 h=>oT (tC (zkU hy14) hT (s3 e e e) k0 (om e (oV (zr e e) (oV (zr e e) (oa e (an e (zj (om e (om e (oV (zpL Tryz.underlying102 Tryz.underlying5 e) (oT (zA (l:=([y14.1.toUInt8]:(List UInt8))) el22 (.cons e hI .nil) e e (zam h λq17 h=>oT (zcj (l:=q1.1) (m:=([y14.1.toUInt8]:(List UInt8))) zkD e hI e zx .here q17 λt16=>oa e (rb (zp (zj (om e ?_)))))))))))))))))))))))))))
 exact zy h λq18 h=>oV (zaa e e q18) (oa e (zN (hL2 h t16 27)))


theorem zhs {a_p a_l zfe za1 r} (h:zdE a_p a_l zfe=some r):Ctr Tryz.prog 75 [ptrv za1 (Fld.id GNpsOT),isv a_l,isv zfe] [boxE za1 (GNpsO a_p)] (Pt [isv r.1,isv r.2.1] [boxE za1 (GNpsO r.2.2)]):=by
 unfold zdE at h
 refine zi Tryz.func75 e λw0 S0 hT=>ws (oa e (an e (ws (om e (oV (zf e) (oV (zu e zcX ze5) (za h λy1 hy1 h=>oT (tC (zdj hy1) hT (s1 e) k1 (oT (zX _ ze80 λb2=>oT (tS ty80 e e p0 y1.1 (zah (zaJ 8 .here e) (rn (ss (om e (an e (zn (lO 9 h e λL4 q3 Q19 h hL4 eL4 rL4=>ss (om e (om e (oV (vN e sl127) (oV (zau e e) (om e (jO 4 23 h (λq12 h=>?_) λJ13 h hJ13=>oI h (λg14 h=>?_) λg14 h=>oN g14 (oN g14 (oN g14 ?_))))))))))))))))))))))))))
 ·refine rn (zd h e (λ_ h=>?_) (λ_ h=>xn (eL4 _ _ (zw (zp (ws (om e (za h λy18 hy18 h=>oT (tC (zcL hy18) hT (s2 e e) k1 (oa e (ar e (ze (r2 e e) k1 (iS h ▸ ⟨e,e⟩)))))))))))))
  refine wk (zF (zn (zF (zH (.v 0 (.v 1 (.v 2 (.v 3 (.v 4 (.v 5 (.v 6 (.v 7 .nil)))))))) moOrd (by kernel_rfl) (rm e e (rm e e (za h λy15 hy15 h=>zl e (vX e e sl127 hy15) (zl e (vI e GFld.f0 zkA y15.name) (zl e (zb ty9 e) (zl e (vI e GTok.f1 zeM y1.1.text) (zl e (zb ty9 e) (zl e (zaW eq9 e e) (zak (zp (zd h e (λ_ h=>?_) (λ_ h=>zC (zs (zp (zj (om e (zy h λq17 h=>oV (zaa e e q17) (oa e (zN (hL4 h 18))))))))))))))))))))))))
  exact ws (om e (oV (zf e) (oV (zu e zcX ze5) (oV (zu e GStm.f1 zjt) (oT (tL ty3 e p0 y1.2.stream.i (zy h λq16 h=>oV (zaa e e q16) (oV (zf e) (oV (zu e zcX ze5) (oV (zu e GStm.f1 zjt) (oT (tS ty3 e e p0 (GNpsO {y1.2 with stream:={ y1.2.stream with i:=(y1.2.stream.i + 1) }}) (rn (ws (om e (oa e (ar e (bn (rL4 _ (bn (ze (r2 e e) k1 (iS h ▸ ⟨e,e⟩))))))))))))))))))))))
 ·exact oG g14 (vI e GTok.f0 zdz y1.1.kind) (oG g14 (zb ty3 e) (oG g14 (zP e e) (oV (zh e g14 e) (hJ13 h 4))))
 exact oV (zg e g14 e) (hJ13 h 4)


def zbw (f':GNps->GTyp->Int->Val->Option (Bool × GNps × Val)):Prop :=
 ∀ {a_a0 a_a1 a_a2 a_a3 ziu zns zmi r},f' a_a0 a_a1 a_a2 a_a3=some r->Ctr Tryz.prog 74 [immv (PtrB.mk ziu),immv (a_a1),immv (a_a2),ptrv zns (Fld.id ValOT)] [boxE ziu (GNpsO a_a0),boxE zns (ValO a_a3 zmi),vecE zmi a_a3.l] (Pt1 (λ_=>[isv r.1]) λu1=>[boxE ziu (GNpsO r.2.1),boxE zns (ValO r.2.2 u1),vecE u1 r.2.2.l])
def zbH (f':GNps->Int->Int->Option (Val × Bool × GNps)):Prop :=
 ∀ {a_p a_i zJ za1 r},f' a_p a_i zJ=some r->Ctr Tryz.prog 30 [ptrv za1 (Fld.id GNpsOT),isv a_i,isv zJ] [boxE za1 (GNpsO a_p)] (Pt [isv r.1,isv r.2.1] [boxE za1 (GNpsO r.2.2)])
def zbU (f':GNps->GTyp->Int->Val->Option (Bool × GNps × Val)):Prop :=
 ∀ {a_p zek zcI ze6 za1 ziz zg3 r},f' a_p zek zcI ze6=some r->Ctr Tryz.prog 73 [ptrv za1 (Fld.id GNpsOT),clov 74 [immv (PtrB.mk za1),immv (zek),immv (zcI),ptrv ziz (Fld.id ValOT)]] [boxE za1 (GNpsO a_p),boxE ziz (ValO ze6 zg3),vecE zg3 ze6.l] (Pt1 (λ_=>[isv r.1]) λu1=>[boxE za1 (GNpsO r.2.1),boxE ziz (ValO r.2.2 u1),vecE u1 r.2.2.l])
def zbT (f':GNps->GTyp->Val->Int->Option (Bool × GNps × Val)):Prop :=
 ∀ {a_p a_x a_v zJ za1 zqj zq7 r},f' a_p a_x a_v zJ=some r->Ctr Tryz.prog 76 [ptrv za1 (Fld.id GNpsOT),isv a_x,ptrv zqj (Fld.id ValOT),isv zJ] [boxE za1 (GNpsO a_p),boxE zqj (ValO a_v zq7),vecE zq7 a_v.l] (Pt1 (λ_=>[isv r.1]) λu1=>[boxE za1 (GNpsO r.2.1),boxE zqj (ValO r.2.2 u1),vecE u1 r.2.2.l])
def zbu (f':GNps->GTyp->Int->Int->Val->Option (Bool × GNps × Int × Val)):Prop :=
 ∀ {a_p zek zcI ze6 zic za1 ziL ziN zgL r},f' a_p zek zcI ze6 zic=some r->Ctr Tryz.prog 73 [ptrv za1 (Fld.id GNpsOT),clov 129 [immv (PtrB.mk za1),immv (zek),ptrv ziL (Fld.id Int),immv (ze6),immv (PtrB.mk ziN)]] [boxE za1 (GNpsO a_p),boxE ziL (zcI:Int),boxE ziN (ValO zic zgL),vecE zgL zic.l] (Pt1 (λ_=>[isv r.1]) λu1=>[boxE za1 (GNpsO r.2.1),boxE ziL (r.2.2.1),boxE ziN (ValO r.2.2.2 u1),vecE u1 r.2.2.2.l])
def zbp (f':GNps->GTyp->Int->Int->Val->Option (Bool × GNps × Int × Val)):Prop :=
 ∀ {a_a0 a_a1 a_a2 a_a3 a_a4 ziu zjq znr zhy r},f' a_a0 a_a1 a_a2 a_a3 a_a4=some r->Ctr Tryz.prog 129 [immv (PtrB.mk ziu),immv (a_a1),ptrv zjq (Fld.id Int),immv (a_a3),immv (PtrB.mk znr)] [boxE ziu (GNpsO a_a0),boxE zjq (a_a2:Int),boxE znr (ValO a_a4 zhy),vecE zhy a_a4.l] (Pt1 (λ_=>[isv r.1]) λu1=>[boxE ziu (GNpsO r.2.1),boxE zjq (r.2.2.1),boxE znr (ValO r.2.2.2 u1),vecE u1 r.2.2.2.l])
theorem ziP {zS zZ zab zac zR zM} (zcv:zbw zS) (zbI:zbH zZ) (zcY:zbU zab) (zcN:zbT zac) (zcu:zbu zR) (zci:zbp zM):zbw (zc6 zS zZ zab zac zR zM):=by
 intro a_a0 a_a1 a_a2 a_a3 ziu zns zmi r h
 unfold zc6 at h
 refine zi Tryz.func74 e λw0 S0 hT=>ws (an e (ws (oV (zbb (α:=GNpsOT) ty72 e) (oV (vI e GTyp.f7 znl a_a1.of) (oV (zb ty3 e) (oV (zb ty3 e) (zy h λq2 h=>oV (zaa e e q2) (za h λy3 hy3 h=>oT (tC (zbI hy3) hT (s3 e e e) k1 (om e (oV (zr e e) (oV (zr e e) (oT (zX _ ze26 λb4=>oT (tS ty26 e e p0 y3.1 (zah (zaJ 5 .here e) (an e (zF (jw h Vt (λq5 g5=>[]) (λq5 g5=>[boxE zns (ValO q5 g5),vecE g5 q5.l]) (a1 (a1 k0)) (λq5 g5 h=>?_) λJ6 h hJ6=>zH (.v 0 (.v 2 (.alt 1 (.v 3 (.t 4 (.t 5 (.v 6 (.v 8 (.alt 7 (.t 9 .nil) (.t 9 (.t 7 .nil)))))))) (.t 4 (.t 1 (.v 3 (.t 5 (.v 6 (.v 8 (.alt 7 (.t 9 .nil) (.t 9 (.t 7 .nil)))))))))))) moOrd (by kernel_rfl) (zl e (zu e zgk zcK) (zl e (zb ty26 e) (zam h λq9 h=>zaj h λq10 h=>za h λy11 hy11 h=>zfr ?_ (rT e (zA (l:=([(Val.mk (0:Int) (0:Int) ([]:(List UInt8)) ([]:(List Val)) (0:Int) ([]:(List Raw)))]:(List Val))) el23 (.cons e (zqP (x:=(Val.mk (0:Int) (0:Int) ([]:(List UInt8)) ([]:(List Val)) (0:Int) ([]:(List Raw)))) (cs:=[.int .i64 0,.int .i64 0,.slice none 0 0,.slice none 0 0,.int .i64 0,.slice none 0 0]) e zpG) .nil) e e (rT e (zaS (R:=vecv zmi (a_a3.l.length)) ty23 e p1 isvV1 ?_))))))))))))))))))))))))))
 ·exact ws (om e (ar e (ze (r1 e) (a2 k2) (iS h ▸ ⟨g5,e,e⟩))))
 ·refine rT e (zaS (R:=vecv zmi (a_a3.l.length)) ty23 e p1 isvV1 (zl e (zhZ sl23 e) (rT e (zA (l:=([(Val.mk (0:Int) (0:Int) ([]:(List UInt8)) ([]:(List Val)) (0:Int) ([]:(List Raw)))]:(List Val))) el23 (.cons e (zqP (x:=(Val.mk (0:Int) (0:Int) ([]:(List UInt8)) ([]:(List Val)) (0:Int) ([]:(List Raw)))) (cs:=[.int .i64 0,.int .i64 0,.slice none 0 0,.slice none 0 0,.int .i64 0,.slice none 0 0]) e zpG) .nil) e e (rT e (zjs (m:=([(Val.mk (0:Int) (0:Int) ([]:(List UInt8)) ([]:(List Val)) (0:Int) ([]:(List Raw)))]:(List Val))) zsl e e zx (.there (.there .here)) (by first | rfl | simp) q9 λv8=>zl e (zdw (α:=Val) sl23 e e q10.1 q10.2) (zl e (zu e zgk zcK) (zfr ?_ (rT e (tR ty23 e e isvV2 p2 (ValO ⟨a_a3.kind,a_a3.n,a_a3.b,(a_a3.l ++ ([⟨0,0,[],[],0,[]⟩]:(List Val))),a_a3.rule,a_a3.more⟩ v8) e (rT e (zeu ty26 e e (.there .here) hy11 (ze2 (zfS (y:=(ValO (Val.mk a_a3.kind a_a3.n a_a3.b ((a_a3.l ++ ([⟨0,0,[],[],0,[]⟩]:(List Val))).set (((a_a3.l.length:Nat):Int).toNat) y3.1) a_a3.rule a_a3.more) v8)) (.there .here) (λS=>(Cv.pair Cv.id (Cv.pair Cv.id (Cv.pair Cv.id (Cv.pair (Cv.vhe (by first | rfl | simp)) (Cv.pair Cv.id Cv.id))))))) (zak (hJ6 h v8 8)))))))))))))))
  exact rT e (zeu ty26 e e .here hy11 (rT e (tR ty23 e e isvV2 p2 (ValO ⟨a_a3.kind,a_a3.n,a_a3.b,(a_a3.l ++ ([⟨0,0,[],[],0,[]⟩]:(List Val))),a_a3.rule,a_a3.more⟩ v8) e (ze2 (zfS (y:=(ValO (Val.mk a_a3.kind a_a3.n a_a3.b ((a_a3.l ++ ([⟨0,0,[],[],0,[]⟩]:(List Val))).set (((a_a3.l.length:Nat):Int).toNat) y3.1) a_a3.rule a_a3.more) v8)) .here (λS=>(Cv.pair Cv.id (Cv.pair Cv.id (Cv.pair Cv.id (Cv.pair (Cv.vhe (by first | rfl | simp)) (Cv.pair Cv.id Cv.id))))))) (zak (hJ6 h v8 8))))))
 refine zl e (zhZ sl23 e) (rT e (zjs (m:=([(Val.mk (0:Int) (0:Int) ([]:(List UInt8)) ([]:(List Val)) (0:Int) ([]:(List Raw)))]:(List Val))) zsl e e zx (.there (.there .here)) (by first | rfl | simp) q9 λv13=>zl e (zdw (α:=Val) sl23 e e q10.1 q10.2) (zl e (zu e zgk zcK) (zfr ?_ (rT e (tR ty23 e e isvV2 p2 (ValO ⟨a_a3.kind,a_a3.n,a_a3.b,(a_a3.l ++ ([⟨0,0,[],[],0,[]⟩]:(List Val))),a_a3.rule,a_a3.more⟩ v13) e (rT e (zeu ty26 e e (.there .here) hy11 (ze2 (zfS (y:=(ValO (Val.mk a_a3.kind a_a3.n a_a3.b ((a_a3.l ++ ([⟨0,0,[],[],0,[]⟩]:(List Val))).set (((a_a3.l.length:Nat):Int).toNat) y3.1) a_a3.rule a_a3.more) v13)) (.there .here) (λS=>(Cv.pair Cv.id (Cv.pair Cv.id (Cv.pair Cv.id (Cv.pair (Cv.vhe (by first | rfl | simp)) (Cv.pair Cv.id Cv.id))))))) (zak (hJ6 h v13 8)))))))))))
 exact rT e (zeu ty26 e e .here hy11 (rT e (tR ty23 e e isvV2 p2 (ValO ⟨a_a3.kind,a_a3.n,a_a3.b,(a_a3.l ++ ([⟨0,0,[],[],0,[]⟩]:(List Val))),a_a3.rule,a_a3.more⟩ v13) e (ze2 (zfS (y:=(ValO (Val.mk a_a3.kind a_a3.n a_a3.b ((a_a3.l ++ ([⟨0,0,[],[],0,[]⟩]:(List Val))).set (((a_a3.l.length:Nat):Int).toNat) y3.1) a_a3.rule a_a3.more) v13)) .here (λS=>(Cv.pair Cv.id (Cv.pair Cv.id (Cv.pair Cv.id (Cv.pair (Cv.vhe (by first | rfl | simp)) (Cv.pair Cv.id Cv.id))))))) (zak (hJ6 h v13 8))))))

theorem zkf {zS zZ zab zac zR zM} (zcv:zbw zS) (zbI:zbH zZ) (zcY:zbU zab) (zcN:zbT zac) (zcu:zbu zR) (zci:zbp zM):zbH (zda zS zZ zab zac zR zM):=by
 intro a_p a_i zJ za1 r h
 unfold zda at h
 refine zi Tryz.func30 e λw0 S0 hT=>ws (oT (zi8 (y:=PtrB.mk za1) e zkz (oT (tB e (oT (zX _ ze26 λb1=>an e (ss (oV (zb ty3 e) (oV (zcy e e) (rn (zd h e (λ_ h=>?_) (λ_ h=>wk (ss (om e (oV (zau e e) (om e (jO 9 30 h (λq3 h=>?_) λJ4 h hJ4=>oI h (λg5 h=>?_) λg5 h=>oG g5 (zm e) (oG g5 (zbb (α:=GNpsOT) ty72 e) (oG g5 (zf e) (oG g5 (zu e zn2 zrr) (oG g5 (zu e GTab.f3 zfC) (oH g5 (tL ty29 e p1 a_p.t.types (oG g5 (vN e sl29) (oG g5 (zdT e e) (oV (zg e g5 e) (hJ4 h 9)))))))))))))))))))))))))))
 ·exact ws (oV (zao (z:=(Val.mk (0:Int) (0:Int) ([]:(List UInt8)) ([]:(List Val)) (0:Int) ([]:(List Raw)))) e bu26 ze26 .nil) (oV (zbb (α:=GNpsOT) ty72 e) (za h λy2 hy2 h=>oT (tC (zcL hy2) hT (s2 e e) (a1 k0) (oT (tS ty26 e e p1 ⟨0,0,[],[],0,[]⟩ (ar e (zD (ze (.cell e .here ty26 (.tmp e .nil)) (a1 k0) (iS h ▸ ⟨e,e⟩))))))))))
 ·refine rn (zd h e (λ_ h=>?_) (λ_ h=>wk (ws (oV (zbb (α:=GNpsOT) ty72 e) (oV (zf e) (oV (zu e zn2 zrr) (oV (zu e GTab.f3 zfC) (oT (tL ty29 e p1 a_p.t.types (om e (za h λy7 hy7 h=>oV (vX e e sl29 hy7) (oV (zb ty129 e) (oT (zX _ ze129 λb8=>oT (tS ty129 e e p0 y7 (zah (zaJ 8 .here e) (rn (ws (oV (vI e GTyp.f0 zdI y7.kind) (oV (zb ty3 e) (oV (zao (z:=((y7.kind,(0:Int),([]:(List UInt8)),(Vh.mk none 0),(0:Int),([]:(List Raw))):ValOT)) e bu26 zpm (.cons zqy zdy e hI .nil)) (oT (zX _ zpm λb9=>zah (zgo (α:=Val)) (zah (zgo (α:=Val)) (oT (tS ty26 e e p2 (y7.kind,0,[],⟨none,0⟩,0,[]) (an e (ws (an e (ss (oV (vI e GTyp.f0 zdI y7.kind) ?_)))))))))))))))))))))))))))))))
  ·exact ws (oV (zao (z:=(Val.mk (0:Int) (0:Int) ([]:(List UInt8)) ([]:(List Val)) (0:Int) ([]:(List Raw)))) e bu26 ze26 .nil) (oV (zbb (α:=GNpsOT) ty72 e) (za h λy6 hy6 h=>oT (tC (zcL hy6) hT (s2 e e) (a1 k0) (oT (tS ty26 e e p1 ⟨0,0,[],[],0,[]⟩ (ar e (zD (ze (.cell e .here ty26 (.tmp e .nil)) (a1 k0) (iS h ▸ ⟨e,e⟩))))))))))
  refine oV (zb ty3 e) (rn (jw h Vt (λq12 g12=>[(10,isv q12.1),(11,anyv)]) (λq12 g12=>[boxE b9 (ValO q12.2.1 g12),vecE g12 q12.2.1.l,boxE za1 (GNpsO q12.2.2)]) (a0 (a3 k1)) (λq12 g12 h=>?_) λJ13 h hJ13=>zn (ws (oV (zP e e) (an e (zd h e (λ_ h=>?_) (λ_ h=>ws (oV (zP e e) (an e (zd h e (λ_ h=>?_) (λ_ h=>ws (oV (zP e e) (an e (zd h e (λ_ h=>?_) (λ_ h=>ws (oV (zP e e) (an e (zd h e (λ_ h=>?_) (λ_ h=>ws (oV (zP e e) (an e (zd h e (λ_ h=>?_) (λ_ h=>ws (oV (zP e e) (an e (zd h e (λ_ h=>?_) (λ_ h=>ws (oV (zP e e) ?_))))))))))))))))))))))))))))
  ·refine zF (zhf (znC (y:=((q12.2.1.kind,q12.2.1.n,q12.2.1.b,q12.2.1.l,q12.2.1.rule,q12.2.1.more):(Int × Int × (List UInt8) × (List Val) × Int × (List Raw)))) (.there .here) .here (λS hv=>(Cv.pair Cv.id (Cv.pair Cv.id (Cv.pair Cv.id (Cv.pair (Cv.vh hv (by first | rfl | simp)) (Cv.pair Cv.id Cv.id))))))) (zhf (zcp (R':=ptrv b9 (Fld.id ((Int × Int × (List UInt8) × (List Val) × Int × (List Raw))))) 9 e hI) (zc3 9 .here e (λo41 hn42=>zc3 0 .here e (λo43 hn44=>zH (.v 0 (.v 1 (.v 2 (.v 3 (.v 4 (.v 5 (.v 6 (.v 7 (.v 8 (.t 9 (.v 10 .nil))))))))))) moOrd (by kernel_rfl) (zl e (vP ty26 e m1 (q12.2.1.kind,q12.2.1.n,q12.2.1.b,q12.2.1.l,q12.2.1.rule,q12.2.1.more)) (ze2 (zcp (R':=isv q12.2.1) 147 e (Cv.isv e λS=>(λcs h=>Cv.val cs (((Cv.pair Cv.id (Cv.pair Cv.id (Cv.pair Cv.id (Cv.pair Cv.id (Cv.pair Cv.id Cv.id))))):Cv S ((q12.2.1.kind,q12.2.1.n,q12.2.1.b,q12.2.1.l,q12.2.1.rule,q12.2.1.more):(Int × Int × (List UInt8) × (List Val) × Int × (List Raw))) (Val.to q12.2.1)) cs h)))) (rm e e (rm e e (jD 6 155 h (λq45 h=>?_) λJ46 h hJ46=>rJ h (λg47 h=>?_) λg47 h=>rP e g47 (rP e g47 (rP e g47 (rP e g47 (rP e g47 (zl e (zg e g47 e) (hJ46 h 6))))))))))))))))
   ·exact rT e (tS ty26 e e p1 q12.2.1 (zl e (zaD e) (zak (zaO 0 hn44 e (zaO 9 hn42 e (zp (zbK (ze (.cell e (.there (.there .here)) ty26 (.tmp e .nil)) (a1 k0) (iS h ▸ ⟨e,e⟩)))))))))
   exact rG e g47 (zsU ty72 e (i:=0) e) (rG e g47 (zat e) (rG e g47 (zdM e zl1 zpd) (rG e g47 (vP ty38 e m0 q12.2.2.e) (rG e g47 (zP e e) (zl e (zh e g47 e) (hJ46 h 6))))))
  ·refine ws (oV (zbb (α:=GNpsOT) ty72 e) (oV (zf e) (oV (zu e zcX ze5) (za h λy14 hy14 h=>oT (tC (zdX hy14) hT (s2 e e) (a4 k0) (an e (ws (om e (rn (zd h e (λ_ h=>?_) (λ_ h=>zj (oV (zbb (α:=GNpsOT) ty72 e) (za h λy15 hy15 h=>oT (tC (zcJ hy15) hT (s2 e e) k1 (oa e (rb (hJ13 h none 11)))))))))))))))))
   exact zj (oV (zu e zlC zcB) (oT (tS ty2 e e p1 (y7.kind,1,[],⟨none,0⟩,0,[]) (rb (hJ13 h none 9)))))
  ·exact zj (oV (zbb (α:=GNpsOT) ty72 e) (za h λy16 hy16 h=>oT (tC (zcJ hy16) hT (s2 e e) (a4 k0) (oa e (rb (hJ13 h none 7))))))
  ·exact ws (oV (zbb (α:=GNpsOT) ty72 e) (za h λy17 hy17 h=>oT (tC (zgV hy17) hT (s2 e e) (a4 k0) (om e (oV (zr e e) (oV (zr e e) (oa e (an e (zj (om e (za h λy18 hy18 h=>oT (tC (zhX hy18) hT (s3 e e e) k0 (om e (oV (zr e e) (oV (zr e e) (oV (zu e zlC zcB) (oT (tS ty2 e e p1 (y7.kind,y18.1,[],⟨none,0⟩,0,[]) (rb (hJ13 h none 19))))))))))))))))))))
  ·exact zj (oV (zbb (α:=GNpsOT) ty72 e) (oV (zb ty129 e) (za h λy19 hy19 h=>oT (tC (zln hy19) hT (s2 e e) (a4 k0) (om e (oV (zr e e) (oV (zr e e) (oV (zu e zlC zcB) (oT (tS ty2 e e p1 (y7.kind,y19.1,[],⟨none,0⟩,0,[]) (oa e (rb (hJ13 h none 16)))))))))))))
  ·exact ws (oV (zbb (α:=GNpsOT) ty72 e) (za h λy20 hy20 h=>oT (tC (zgV hy20) hT (s2 e e) (a4 k0) (om e (oV (zr e e) (oV (zr e e) (oa e (an e (zj (om e (za h λy21 hy21 h=>oT (tC (zot hy21) hT (s1 e) k0 (oV (zu e zqH zdR) (oT (tS ty22 e e p1 (y7.kind,0,y21,⟨none,0⟩,0,[]) (rb (hJ13 h none 20)))))))))))))))))
  ·exact ws (oV (zbb (α:=GNpsOT) ty72 e) (za h λy22 hy22 h=>oT (tC (zgV hy22) hT (s2 e e) (a4 k0) (om e (oV (zr e e) (oV (zr e e) (oa e (an e (zj (om e (zam h λq23 h=>oT (zuS Tryz.underlying9 Tryz.underlying22 Tryz.underlying5 e q23 (oV (zu e zqH zdR) (oT (tS ty22 e e p1 (y7.kind,0,y22.1.b,⟨none,0⟩,0,[]) (rb (hJ13 h none 22)))))))))))))))))
  refine an e (zd h e (λ_ h=>?_) (λ_ h=>ws (oV (zP e e) (an e (zd h e (λ_ h=>?_) (λ_ h=>ss (oV (zP e e) (an e (jW 140 h (λq37 h=>?_) λJ38 h hJ38=>zd h e (λ_ h=>?_) (λ_ h=>zj (oV (zP e e) (oa e (zN (hJ38 h 2))))))))))))))
  ·exact zj (oV (zbb (α:=GNpsOT) ty72 e) (oV (zfp (.same e (.same e (.same e (.same e .nil))))) (za h λy24 hy24 h=>oT (tC1 (zcY hy24) hT (s2 e e) (a4 k2) (λv25=>oa e (rb (hJ13 h v25 18)))))))
  ·refine ws (an e (ws (oV (zbb (α:=GNpsOT) ty72 e) (oV (vI e GTyp.f4 zbi y7.fields) (oV (zb ty127 e) (za h λy26 hy26 h=>oT (tC (zhs hy26) hT (s3 e e e) (a4 k0) (om e (oV (zr e e) (oV (zr e e) (oa e (an e (ws (om e (om e (jo 3 h Unit (λq27 g27=>[(121,isv q27.1)]) (λq27 g27=>[boxE za1 (GNpsO q27.2)]) k1 (λq27 g27 h=>?_) λJ28 h hJ28=>oI h (λg29 h=>?_) λg29 h=>oN g29 (oN g29 (oV (zg e g29 e) (hJ28 h () 3)))))))))))))))))))
   ·refine rn (zd h e (λ_ h=>?_) (λ_ h=>zC (zs (hJ13 h none 29))))
    refine ws (oT (zX _ ze26 λb31=>rn (zF (zH (.v 0 (.v 1 (.v 2 (.v 3 (.v 4 (.v 5 (.v 6 (.v 7 (.v 8 (.t 9 (.v 10 (.v 11 (.v 12 (.t 13 (.v 14 .nil))))))))))))))) moOrd (by kernel_rfl) (zl e (zbb (α:=GNpsOT) ty72 e) (zl e (vI e GTyp.f4 zbi y7.fields) (zl e (zb ty127 e) (rm e e (za h λy32 hy32 h=>zl e (vX e e sl127 hy32) (zl e (vI e GFld.f1 zdH y32.ty) (zl e (zb ty3 e) (zl e (zb ty3 e) (zy h λq33 h=>zl e (zaa e e q33) (za h λy34 hy34 h=>rT e (tC (zbI hy34) hT (s3 e e e) (a1 k0) (rm e e (zl e (zr e e) (zl e (zr e e) (rT e (tS ty26 e e p1 y34.1 (ze2 (zaJ 13 .here e) (zl e (zaD e) (zak (zp (zH (.v 0 (.v 1 (.v 3 (.alt 2 (.t 4 (.v 5 (.t 6 .nil))) (.t 4 (.t 2 (.v 5 (.t 6 .nil)))))))) moOrd (by kernel_rfl) (rm e e (zl e (zb ty26 e) (zl e (zu e zlC zcB) ?_))))))))))))))))))))))))))))
    refine zfr ?_ (rT e (tS ty2 e e p1 (y7.kind,y26.1,[],⟨none,0⟩,0,[]) (rT e (zle (l:=([y34.1]:(List Val))) el23 (.cons e hI .nil) e e λv36=>zl e (zu e zgk zcK) (rT e (tR ty23 e e isvV2 p1 (y7.kind,y26.1,[],⟨v36,([y34.1]:(List Val)).length⟩,0,[]) e (zak (zs (hJ13 h v36 50)))))))))
    exact rT e (zle (l:=([y34.1]:(List Val))) el23 (.cons e hI .nil) e e λv35=>rT e (tS ty2 e e p2 (y7.kind,y26.1,[],⟨none,0⟩,0,[]) (zl e (zu e zgk zcK) (rT e (tR ty23 e e isvV2 p0 (y7.kind,y26.1,[],⟨v35,([y34.1]:(List Val)).length⟩,0,[]) e (zak (zs (hJ13 h v35 50))))))))
   exact oG g29 (zbb (α:=GNpsOT) ty72 e) (za h λy30 hy30 h=>oH g29 (tC (zcJ hy30) hT (s2 e e) k1 (oV (zh e g29 e) (hJ28 h () 3))))
  ·refine zd h e (λ_ h=>?_) (λ_ h=>zC (zs (hJ13 h none 19)))
   exact zj (oV (zbb (α:=GNpsOT) ty72 e) (oV (zb ty129 e) (oV (zb ty3 e) (za h λy39 hy39 h=>oT (tC1 (zcN hy39) hT (s4 e e e e) (a4 k2) (λv40=>oa e (rb (hJ13 h v40 24))))))))
  exact zC (hJ38 h 0)
 exact oN g5 (oN g5 (oN g5 (oN g5 (oN g5 (oN g5 (oN g5 (oN g5 (oV (zh e g5 e) (hJ4 h 9)))))))))

theorem zjP {zS zZ zab zac zR zM} (zcv:zbw zS) (zbI:zbH zZ) (zcY:zbU zab) (zcN:zbT zac) (zcu:zbu zR) (zci:zbp zM):zbU (zdt zS zZ zab zac zR zM):=by
 intro a_p zek zcI ze6 za1 ziz zg3 r h
 unfold zdt at h
 refine zi Tryz.func73 e λw0 S0 hT=>ws (an e (ss (om e (za h λy2 hy2 h=>oT (tC (zcJ hy2) hT (s2 e e) k1 (oV (za2 e) (rn (zd h e (λ_ h=>?_) (λ_ h=>wk (ss (om e (oV (zf e) (oV (zu e zcX ze5) (za h λy3 hy3 h=>oT (tC (zdX hy3) hT (s2 e e) k1 (rn (zd h e (λ_ h=>?_) (λ_ h=>wk (zn (lP h Vt zg3 (λq4 g4=>[]) (λq4 g4=>[boxE za1 (GNpsO q4.1),boxE ziz (ValO q4.2 g4),vecE g4 q4.2.l]) zay k3 λL5 q4 g4 Q14 h hL5 eL5 rL5=>zn (ss (om e (za h λy10 hy10 h=>oT (zfB e .nil (zcv hy10) hT (.cons .here (.cons .here (.cons .here .nil))) (λR H' hR=>?_)))))))))))))))))))))))))
 ·exact ws (ar e (zD (ze (r1 e) k3 (iS h ▸ ⟨zg3,e,e⟩))))
 ·exact ws (ar e (zD (ze (r1 e) k3 (iS h ▸ ⟨zg3,e,e⟩))))
 obtain ⟨v11,rfl,rfl⟩:=hR
 refine oV (za2 e) (rn (zd h e (λ_ h=>?_) (λ_ h=>wk (ws (om e (oV (zf e) (oV (zu e zcX ze5) (za h λy12 hy12 h=>oT (tC (zdX hy12) hT (s2 e e) k1 (oV (za2 e) (rn (zd h e (λ_ h=>?_) (λ_ h=>zC (zs (hL5 h v11 8)))))))))))))))
 ·exact ws (ar e (zD (za8 (rL5 _ (za8 (ze (r1 e) k3 (iS h ▸ ⟨v11,e,e⟩)))))))
 exact ws (om e (za h λy13 hy13 h=>oT (tC (zcJ hy13) hT (s2 e e) k1 (ar e (za8 (rL5 _ (za8 (ze (r1 e) k3 (iS h ▸ ⟨v11,e,e⟩)))))))))

theorem zjO {zS zZ zab zac zR zM} (zcv:zbw zS) (zbI:zbH zZ) (zcY:zbU zab) (zcN:zbT zac) (zcu:zbu zR) (zci:zbp zM):zbT (zdA zS zZ zab zac zR zM):=by
 intro a_p a_x a_v zJ za1 zqj zq7 r h
 unfold zdA at h
 refine zi Tryz.func76 e λw0 S0 hT=>ws (oT (zi8 (y:=PtrB.mk za1) e zkz (oT (tB e (oT (zi8 (y:=PtrB.mk zqj) e zkz (oT (tB e (an e (zF (zH (.v 0 (.v 1 (.v 2 (.v 3 (.t 4 (.v 5 (.v 6 (.t 7 .nil)))))))) moOrd (by kernel_rfl) (zl e (zbb (α:=ValOT) ty158 e) (zl e (vI e GTyp.f4 zbi a_x.fields) (zl e (zb ty127 e) (zl e (vN e sl127) (zaj h λq2 h=>rT e (zsJ el23 ze26 Tryz.underlying23 e e q2.1 e q2.2 λv3=>zl e (zf e) (zl e (zu e zgk zcK) (rT e (tR ty23 e e isvV2 p2 (ValO ⟨a_v.kind,a_v.n,a_v.b,(List.replicate ((a_x.fields.length:Int)).toNat ⟨0,0,[],[],0,[]⟩),a_v.rule,a_v.more⟩ v3) e (zak (zp (ws (oT (zX _ ze3 λb4=>oT (tS ty3 e e p0 0 (rn (ws (oV (zbb (α:=GNpsOT) ty72 e) (oV (zfp (.same e (.same e (.same e (.same e (.same e .nil)))))) (za h λy5 hy5 h=>oT (tC1 (zcu hy5) hT (s2 e e) (a3 k3) (λv6=>ar e ?_)))))))))))))))))))))))))))))))))
 exact ze (r1 e) (a0 (a1 (a1 k0))) (iS h ▸ ⟨v6,e,e⟩)

theorem ziS {zS zZ zab zac zR zM} (zcv:zbw zS) (zbI:zbH zZ) (zcY:zbU zab) (zcN:zbT zac) (zcu:zbu zR) (zci:zbp zM):zbu (zc4 zS zZ zab zac zR zM):=by
 intro a_p zek zcI ze6 zic za1 ziL ziN zgL r h
 unfold zc4 at h
 refine zi Tryz.func73 e λw0 S0 hT=>ws (an e (ss (om e (za h λy2 hy2 h=>oT (tC (zcJ hy2) hT (s2 e e) k1 (oV (za2 e) (rn (zd h e (λ_ h=>?_) (λ_ h=>wk (ss (om e (oV (zf e) (oV (zu e zcX ze5) (za h λy3 hy3 h=>oT (tC (zdX hy3) hT (s2 e e) k1 (rn (zd h e (λ_ h=>?_) (λ_ h=>wk (zn (lP h Vt zgL (λq4 g4=>[]) (λq4 g4=>[boxE za1 (GNpsO q4.1),boxE ziL (q4.2.1:Int),boxE ziN (ValO q4.2.2 g4),vecE g4 q4.2.2.l]) zay k4 λL5 q4 g4 Q14 h hL5 eL5 rL5=>zn (ss (om e (za h λy10 hy10 h=>oT (zfB e .nil (zci hy10) hT (.cons .here (.cons .here (.cons .here (.cons .here .nil)))) (λR H' hR=>?_)))))))))))))))))))))))))
 ·exact ws (ar e (zD (ze (r1 e) k4 (iS h ▸ ⟨zgL,e,e⟩))))
 ·exact ws (ar e (zD (ze (r1 e) k4 (iS h ▸ ⟨zgL,e,e⟩))))
 obtain ⟨v11,rfl,rfl⟩:=hR
 refine oV (za2 e) (rn (zd h e (λ_ h=>?_) (λ_ h=>wk (ws (om e (oV (zf e) (oV (zu e zcX ze5) (za h λy12 hy12 h=>oT (tC (zdX hy12) hT (s2 e e) k1 (oV (za2 e) (rn (zd h e (λ_ h=>?_) (λ_ h=>zC (zs (hL5 h v11 8)))))))))))))))
 ·exact ws (ar e (zD (za8 (rL5 _ (za8 (ze (r1 e) k4 (iS h ▸ ⟨v11,e,e⟩)))))))
 exact ws (om e (za h λy13 hy13 h=>oT (tC (zcJ hy13) hT (s2 e e) k1 (ar e (za8 (rL5 _ (za8 (ze (r1 e) k4 (iS h ▸ ⟨v11,e,e⟩)))))))))

theorem ziv {zS zZ zab zac zR zM} (zcv:zbw zS) (zbI:zbH zZ) (zcY:zbU zab) (zcN:zbT zac) (zcu:zbu zR) (zci:zbp zM):zbp (zcV zS zZ zab zac zR zM):=by
 intro a_a0 a_a1 a_a2 a_a3 a_a4 ziu zjq znr zhy r h
 unfold zcV at h
 refine zi Tryz.func129 e λw0 S0 hT=>ws (an e (ws (oV (zbb (α:=GNpsOT) ty72 e) (oV (vI e GTyp.f4 zbi a_a1.fields) (oV (zb ty127 e) (oT (tL ty3 e p1 a_a2 (za h λy2 hy2 h=>oT (tC (zhs hy2) hT (s3 e e e) k1 (om e (oV (zr e e) (oV (zr e e) (oa e (an e (ss (om e (oV (za2 e) (rn (zd h e (λ_ h=>?_) (λ_ h=>wk (zF (jw h Unit (λq3 g3=>[(7,isv q3.1),(8,immv (q3.2.1))]) (λq3 g3=>[boxE ziu (GNpsO q3.2.2)]) k1 (λq3 g3 h=>?_) λJ4 h hJ4=>zH (.v 0 (.v 1 (.v 2 (.v 3 (.v 4 (.v 5 (.v 6 (.v 7 (.v 8 (.alt 9 (.v 10 (.v 11 (.v 12 (.t 13 (.t 14 (.v 15 .nil)))))) (.t 13 (.t 9 (.v 10 (.v 11 (.v 12 (.t 14 (.v 15 .nil))))))))))))))))) moOrd (by kernel_rfl) (zl e (zbb (α:=GNpsOT) ty72 e) (zl e (vI e GTyp.f4 zbi a_a1.fields) (zl e (zb ty127 e) (rm e e (za h λy5 hy5 h=>zl e (vX e e sl127 hy5) ?_)))))))))))))))))))))))))))
 ·exact ws (ar e (zD (ze (r1 e) k4 (iS h ▸ ⟨zhy,e,e⟩))))
 ·refine ss (oV (vI e GTyp.f4 zbi a_a1.fields) (oV (zb ty127 e) (om e (za h λy10 hy10 h=>oV (vX e e sl127 hy10) (oV (zb ty137 e) (oT (zX _ ze137 λb11=>oT (tS ty137 e e p0 y10 (zah (zaJ 9 .here e) (rn (ws (oV (vI e GFld.f3 zji y10.has) (oV (zb ty4 e) (oV (za2 e) (om e (jO 6 47 h (λq12 h=>?_) λJ13 h hJ13=>oI h (λg14 h=>?_) λg14 h=>oG g14 (zb ty26 e) (oG g14 (vI e GFld.f4 zl3 y10.dflt) (oG g14 (zb ty26 e) (za h λy15 hy15 h=>oH g14 (tC (zmg fuel hy15) hT (s2 e e) k0 (oG g14 (za2 e) (oV (zg e g14 e) (hJ13 h 6)))))))))))))))))))))))
  ·refine rn (jw h Unit (λq16 g16=>[]) (λq16 g16=>[boxE znr (ValO q16 zhy),vecE zhy q16.l]) (a2 (a2 k0)) (λq16 g16 h=>?_) λJ17 h hJ17=>zd h e (λ_ h=>?_) (λ_ h=>zC (hJ17 h () 0)))
   ·exact ws (om e (zy h λq20 h=>oV (zaa e e q20) (oT (tS ty3 e e p3 (y2.1 + 1) (rn (ws (om e (ar e (ze (r1 e) (a3 k3) (iS h ▸ ⟨zhy,e,e⟩))))))))))
   exact zH (.v 0 (.v 1 (.v 2 (.v 4 (.v 5 (.t 3 (.v 6 (.t 7 .nil)))))))) moOrd (by kernel_rfl) (zl e (zbb (α:=ValOT) ty158 e) (zl e (zf e) (zl e (zu e zgk zcK) (rm e e (zl e (zb ty26 e) (rT e (zaS (R:=vecv zhy (a_a4.l.length)) ty23 e p2 isvV1 (zaj h λq18 h=>zl e (zdw (α:=Val) sl23 e e q18.1 q18.2) (za h λy19 hy19 h=>rT e (zeu ty26 e e (.there (.there (.there .here))) hy19 (ze2 (zfS (y:=(ValO (Val.mk a_a4.kind a_a4.n a_a4.b (a_a4.l.set y2.1.toNat q3.2.1) a_a4.rule a_a4.more) zhy)) (.there (.there (.there .here))) (λS=>(Cv.pair Cv.id (Cv.pair Cv.id (Cv.pair Cv.id (Cv.pair (Cv.vhe (by first | rfl | simp)) (Cv.pair Cv.id Cv.id))))))) (zak (hJ17 h () 7)))))))))))))
  exact oN g14 (oN g14 (oN g14 (oN g14 (oN g14 (oV (zh e g14 e) (hJ13 h 6))))))
 refine zl e (vI e GFld.f1 zdH y5.ty) (zl e (zb ty3 e) (zl e (zb ty3 e) (zy h λq6 h=>zl e (zaa e e q6) (za h λy7 hy7 h=>zfr ?_ (rT e (zX _ ze26 λb9=>rT e (tC (zbI hy7) hT (s3 e e e) (a1 k0) (rm e e (zl e (zr e e) (zl e (zr e e) (rT e (tS ty26 e e p1 y7.1 (ze2 (zaJ 8 .here e) (zl e (zaD e) (zak (hJ4 h () 16))))))))))))))))
 exact rT e (tC (zbI hy7) hT (s3 e e e) k1 (rm e e (zl e (zr e e) (zl e (zr e e) (rT e (zX _ ze26 λb8=>rT e (tS ty26 e e p0 y7.1 (ze2 (zaJ 8 .here e) (zl e (zaD e) (zak (hJ4 h () 16)))))))))))

theorem zfq:∀ n,zbw (zb0 n)/\zbH (zbc n)/\zbU (zb3 n)/\zbT (zb2 n)/\zbu (zbW n)/\zbp (zbF n)
  | 0=>⟨λh=>(by cases h),λh=>(by cases h),λh=>(by cases h),λh=>(by cases h),λh=>(by cases h),λh=>(by cases h)⟩
  | n + 1=>by
    obtain ⟨h0,h1,h2,h3,h4,h5⟩:=zfq n
    exact ⟨ziP h0 h1 h2 h3 h4 h5,zkf h0 h1 h2 h3 h4 h5,zjP h0 h1 h2 h3 h4 h5,zjO h0 h1 h2 h3 h4 h5,ziS h0 h1 h2 h3 h4 h5,ziv h0 h1 h2 h3 h4 h5⟩
theorem zkR (n:Nat):zbH (zbc n):=(zfq n).2.1
theorem zpI {a_t a_i zaV r} (h:zgM a_t a_i zaV=some r):Ctr Tryz.prog 15 [isv a_t,isv a_i,isv zaV] [] (Pt [isv r.1,isv r.2.1,isv r.2.2] []):=by
 unfold zgM at h
 refine zi Tryz.func15 e λw0 S0 hT=>ws (oT (tB e (oT (zX _ ze26 λb1=>oa e (an e (ws (om e (za h λy2 hy2 h=>oT (tC (zpr hy2) hT (s1 e) k0 (om e (oV (zr e e) (oV (zr e e) (oV (zr e e) (oa e (oa e (an e (ss (om e (oV (zbz e e) (rn (zd h e (λ_ h=>?_) (λ_ h=>wk (ss (om e (oV (zau e e) (om e (jO 6 34 h (λq3 h=>?_) λJ4 h hJ4=>oI h (λg5 h=>?_) λg5 h=>oG g5 (zm e) ?_)))))))))))))))))))))))))))
 ·exact ws (oV (zao (z:=(Val.mk (0:Int) (0:Int) ([]:(List UInt8)) ([]:(List Val)) (0:Int) ([]:(List Raw)))) e bu26 ze26 .nil) (om e (om e (oT (tS ty26 e e p0 ⟨0,0,[],[],0,[]⟩ (oa e (ar e (zD (ze (.cell e .here ty26 (.tmp e (.tmp e .nil))) k0 (iS h ▸ ⟨e,e⟩))))))))))
 ·refine rn (zd h e (λ_ h=>?_) (λ_ h=>wk (ws (om e (oV (zao (z:=(GStm.mk y2.1 (0:Int))) e bu74 ze74 (.cons GStm.f0 ztU e hI .nil)) (oV (zb ty31 e) (oV (zao (z:=(((GStm.mk y2.1 (0:Int)),a_t,(0:Int),(0:Int)):GNpsOT)) e bu76 zwi (.cons zcX ze5 e hI (.cons zn2 zrr e hI .nil))) (oT (zkn (y:=(((GStm.mk y2.1 (0:Int)),a_t,(0:Int),(0:Int)):GNpsOT)) e hI λb6=>an e (ws (om e (om e (za h λy7 hy7 h=>oT (tC (zkR fuel hy7) hT (s3 e e e) k1 (om e (oV (zr e e) (oV (zr e e) (oT (zX _ ze26 λb8=>oT (tS ty26 e e p0 y7.1 (zah (zaJ 13 .here e) (an e (ss (om e (om e (jo 7 h Unit (λq9 g9=>[(55,isv q9.1)]) (λq9 g9=>[boxE b6 (GNpsO q9.2)]) k1 (λq9 g9 h=>?_) λJ10 h hJ10=>oI h (λg11 h=>?_) λg11 h=>oN g11 (oN g11 (oN g11 ?_))))))))))))))))))))))))))))
  ·exact ws (oV (zao (z:=(Val.mk (0:Int) (0:Int) ([]:(List UInt8)) ([]:(List Val)) (0:Int) ([]:(List Raw)))) e bu26 ze26 .nil) (oT (tS ty26 e e p0 ⟨0,0,[],[],0,[]⟩ (oa e (ar e (zD (ze (.cell e .here ty26 (.tmp e (.tmp e .nil))) k0 (iS h ▸ ⟨e,e⟩))))))))
  ·refine rn (jw h Unit (λq13 g13=>[(14,isv q13.1)]) (λq13 g13=>[boxE b6 (GNpsO q13.2)]) k1 (λq13 g13 h=>?_) λJ14 h hJ14=>zd h e (λ_ h=>?_) (λ_ h=>zC (hJ14 h () 0)))
   ·refine ss (om e (oV (za2 e) (rn (zd h e (λ_ h=>?_) (λ_ h=>wk (ss (oV (zb ty31 e) (om e (oV (zb ty26 e) (za h λy18 hy18 h=>oT (tC (zl4 hy18) hT (s3 e e e) k0 (oV (za2 e) (rn (zd h e (λ_ h=>?_) (λ_ h=>wk (ws (oV (zb ty26 e) (oT (tS ty26 e e p1 y7.1 (oa e (ar e (ze (.cell e .here ty26 (.tmp e (.tmp e .nil))) k0 (iS h ▸ ⟨e,e⟩)))))))))))))))))))))))
    ·exact zF (zc3 12 .here e (λo16 hn17=>zH (.v 0 (.v 1 (.v 2 (.v 3 (.v 4 (.v 5 (.v 6 (.v 7 (.v 8 (.t 9 (.v 10 (.v 11 .nil)))))))))))) moOrd (by kernel_rfl) (zl e (zao (z:=(Val.mk (0:Int) (0:Int) ([]:(List UInt8)) ([]:(List Val)) (0:Int) ([]:(List Raw)))) e bu26 ze26 .nil) (rm e e (zl e (zat e) (zl e (zdM e zqm ztl) (zl e (vP ty3 e m0 q13.2.at_) (rm e e (zl e (zat e) (zl e (zdM e zl1 zpd) (zl e (vP ty38 e m0 q13.2.e) (rT e (tS ty26 e e p0 ⟨0,0,[],[],0,[]⟩ (zl e (zaD e) (zl e (zaD e) (zak (zaO 12 hn17 e (zp (zbK (zD (ze (.cell e (.there .here) ty26 (.tmp e (.tmp e .nil))) k0 (iS h ▸ ⟨e,e⟩))))))))))))))))))))))
    exact ws (oV (zao (z:=(Val.mk (0:Int) (0:Int) ([]:(List UInt8)) ([]:(List Val)) (0:Int) ([]:(List Raw)))) e bu26 ze26 .nil) (oT (tS ty26 e e p1 ⟨0,0,[],[],0,[]⟩ (oa e (ar e (zD (ze (.cell e .here ty26 (.tmp e (.tmp e .nil))) k0 (iS h ▸ ⟨e,e⟩))))))))
   exact zj (om e (za h λy15 hy15 h=>oT (tC (zcL hy15) hT (s2 e e) k1 (oa e (zN (hJ14 h () 3))))))
  ·exact oG g11 (zm e) (oG g11 (zf e) (oG g11 (zu e zcX ze5) (za h λy12 hy12 h=>oH g11 (tC (zdj hy12) hT (s1 e) k1 (oG g11 (zh8 GTok.f0 e zdz e) (oG g11 (zbz e e) (oV (zh e g11 e) (hJ10 h () 7))))))))
  exact oN g11 (oN g11 (oN g11 (oV (zg e g11 e) (hJ10 h () 7))))
 ·exact oN g5 (oN g5 (oN g5 (oN g5 (oN g5 (oV (zh e g5 e) (hJ4 h 6))))))
 exact oG g5 (vI e GTab.f3 zfC a_t.types) (oG g5 (zb ty29 e) (oG g5 (vN e sl29) (oG g5 (zdT e e) (oV (zg e g5 e) (hJ4 h 6)))))

end Go.Proofs.Q


namespace Go.Proofs.Q
open Go.Sy
set_option maxRecDepth 4000
theorem zk2 {a_n_ zlN r} (h:zfd a_n_ zlN=some r):Ctr Tryz.prog 8 [isv a_n_,isv zlN] [] (Pt [isv r] []):=by
 unfold zfd at h
 refine zi Tryz.func8 e λw0 S0 hT=>ws (an e (ws (za h λy1 hy1 h=>oT (tC (zig hy1) hT (s1 e) k0 (om e (oV (zr e e) (oV (zr e e) (oT (zX _ ze31 λb2=>oT (tS ty31 e e p0 y1.1 (zah (zaJ 5 .here e) (an e (ws (om e (za h λy3 hy3 h=>oT (tC (zq5 hy3) hT (s1 e) k0 (zam h λq4 h=>oV (zla e e q4) (an e (ss (om e (rn (jW 7 h (λq5 h=>?_) λJ6 h hJ6=>zd h e (λ_ h=>?_) (λ_ h=>zC (hJ6 h 0))))))))))))))))))))))))
 ·refine ws (oV (zb ty31 e) (om e (zam h λq8 h=>oV (zla e e q8) (za h λy9 hy9 h=>oT (tC (zpI hy9) hT (s3 e e e) k0 (om e (oV (zr e e) (oV (zr e e) (oV (zr e e) (oT (zX _ ze26 λb10=>oT (tS ty26 e e p0 y9.1 (zah (zaJ 8 .here e) (oa e (an e (ss (om e (oV (za2 e) (om e (jO 3 35 h (λq11 h=>?_) λJ12 h hJ12=>oI h (λg13 h=>?_) λg13 h=>oG g13 (zm e) (oG g13 (zau e e) (oV (zg e g13 e) (hJ12 h 3)))))))))))))))))))))))
  ·refine om e (jO 3 39 h (λq14 h=>?_) λJ15 h hJ15=>oI h (λg16 h=>?_) λg16 h=>oG g16 (zm e) (oG g16 (zcy e e) (oV (zg e g16 e) (hJ15 h 3))))
   ·refine rn (zd h e (λ_ h=>?_) (λ_ h=>wk (ws (om e (oV (zao (z:=(Val.mk (2:Int) a_n_ ([]:(List UInt8)) ([]:(List Val)) (0:Int) ([]:(List Raw)))) e bu26 ze26 (.cons Val.f0 zdy e hI (.cons Val.f1 zcB e hI .nil))) (oV (zao (z:=(Val.mk (1:Int) (1:Int) ([]:(List UInt8)) ([]:(List Val)) (0:Int) ([]:(List Raw)))) e bu26 ze26 (.cons Val.f0 zdy e hI (.cons Val.f1 zcB e hI .nil))) (oT (zle (l:=([(Val.mk (2:Int) a_n_ ([]:(List UInt8)) ([]:(List Val)) (0:Int) ([]:(List Raw))),(Val.mk (1:Int) (1:Int) ([]:(List UInt8)) ([]:(List Val)) (0:Int) ([]:(List Raw)))]:(List Val))) el23 (.cons e hI (.cons e hI .nil)) e e λv31=>oV (zao (z:=(((7:Int),(0:Int),([]:(List UInt8)),(Vh.mk v31 ([(Val.mk (2:Int) a_n_ ([]:(List UInt8)) ([]:(List Val)) (0:Int) ([]:(List Raw))),(Val.mk (1:Int) (1:Int) ([]:(List UInt8)) ([]:(List Val)) (0:Int) ([]:(List Raw)))]:(List Val)).length),(0:Int),([]:(List Raw))):ValOT)) e bu26 zpm (.cons zqy zdy e hI (.cons zgk zcK e isvV2 .nil))) (oT (zX _ zpm λb32=>zah (zgo (α:=Val)) (oT (tS ty26 e e p1 (7,0,[],⟨v31,([⟨2,a_n_,[],[],0,[]⟩,⟨1,1,[],[],0,[]⟩]:(List Val)).length⟩,0,[]) (rn (ss (om e (oV (zP e e) (rn (jw h Unit (λq34 g34=>[]) (λq34 g34=>[boxE b32 (ValO q34 v31),vecE v31 q34.l]) (a0 (a1 k0)) (λq34 g34 h=>?_) λJ35 h hJ35=>zd h e (λ_ h=>?_) (λ_ h=>zC (hJ35 h () 0))))))))))))))))))))
    ·refine ws (za h λy17 hy17 h=>oT (tC (zk9 hy17) hT .nil k0 (om e (jO 2 43 h (λq18 h=>?_) λJ19 h hJ19=>oI h (λg20 h=>?_) λg20 h=>oN g20 (oV (zg e g20 e) (hJ19 h 2))))))
     ·refine om e (jO 3 47 h (λq21 h=>?_) λJ22 h hJ22=>oI h (λg23 h=>?_) λg23 h=>oN g23 (oN g23 (oV (zg e g23 e) (hJ22 h 3))))
      ·refine om e (jO 3 51 h (λq24 h=>?_) λJ25 h hJ25=>oI h (λg26 h=>?_) λg26 h=>oN g26 (oN g26 (oV (zg e g26 e) (hJ25 h 3))))
       ·refine om e (jO 4 56 h (λq27 h=>?_) λJ28 h hJ28=>oI h (λg29 h=>?_) λg29 h=>oN g29 (oN g29 (oN g29 (oV (zg e g29 e) (hJ28 h 4)))))
        ·exact ar e (zD (ze (r1 e) k0 (iS h ▸ ⟨e,e⟩)))
        exact oG g29 (zb ty26 e) (oG g29 (zao (z:=(Val.mk (0:Int) (0:Int) ([]:(List UInt8)) ([]:(List Val)) (0:Int) ([]:(List Raw)))) e bu26 ze26 .nil) (za h λy30 hy30 h=>oH g29 (tC (zoO fuel hy30) hT (s2 e e) k0 (oV (zh e g29 e) (hJ28 h 4)))))
       exact oG g26 (zm e) (oG g26 (zP e e) (oV (zh e g26 e) (hJ25 h 3)))
      exact oG g23 (zm e) (oG g23 (zP e e) (oV (zh e g23 e) (hJ22 h 3)))
     exact oG g20 (zm e) (oV (zh e g20 e) (hJ19 h 2))
    ·refine ws (za h λy38 hy38 h=>oT (tC (zk9 hy38) hT .nil k0 (om e (jO 2 71 h (λq39 h=>?_) λJ40 h hJ40=>oI h (λg41 h=>?_) λg41 h=>oN g41 (oV (zg e g41 e) (hJ40 h 2))))))
     ·refine om e (jO 3 75 h (λq42 h=>?_) λJ43 h hJ43=>oI h (λg44 h=>?_) λg44 h=>oN g44 (oN g44 (oV (zg e g44 e) (hJ43 h 3))))
      ·refine om e (jo 4 h Unit (λq45 g45=>[(11,anyv),(80,isv q45)]) (λq45 g45=>[]) k2 (λq45 g45 h=>?_) λJ46 h hJ46=>oI h (λg47 h=>?_) λg47 h=>oN g47 (oN g47 (oN g47 (oV (zg e g47 e) (hJ46 h () 4)))))
       ·exact ar e (ze (r1 e) k0 (iS h ▸ ⟨e,e⟩))
       exact oG g47 (zb ty26 e) (zah (znC (y:=((q34.kind,q34.n,q34.b,q34.l,q34.rule,q34.more):(Int × Int × (List UInt8) × (List Val) × Int × (List Raw)))) (.there .here) .here (λS hv=>(Cv.pair Cv.id (Cv.pair Cv.id (Cv.pair Cv.id (Cv.pair (Cv.vh hv (by first | rfl | simp)) (Cv.pair Cv.id Cv.id))))))) (zah (zcp (R':=ptrv b32 (Fld.id ((Int × Int × (List UInt8) × (List Val) × Int × (List Raw))))) 11 e hI) (oH g47 (zaS (y:=((q34.kind,q34.n,q34.b,q34.l,q34.rule,q34.more):(Int × Int × (List UInt8) × (List Val) × Int × (List Raw)))) (R:=isv (((q34.kind,q34.n,q34.b,q34.l,q34.rule,q34.more)):((Int × Int × (List UInt8) × (List Val) × Int × (List Raw))))) ty26 e .here (by exact hI) (zah (zcp (R':=isv q34) 78 e (Cv.isv e λS=>(λcs h=>Cv.val cs (((Cv.pair Cv.id (Cv.pair Cv.id (Cv.pair Cv.id (Cv.pair Cv.id (Cv.pair Cv.id Cv.id))))):Cv S ((q34.kind,q34.n,q34.b,q34.l,q34.rule,q34.more):(Int × Int × (List UInt8) × (List Val) × Int × (List Raw))) (Val.to q34)) cs h)))) (za h λy48 hy48 h=>oH g47 (tC (zoO fuel hy48) hT (s2 e e) k0 (oV (zh e g47 e) (hJ46 h () 6)))))))))
      exact oG g44 (zm e) (oG g44 (zP e e) (oV (zh e g44 e) (hJ43 h 3)))
     exact oG g41 (zm e) (oV (zh e g41 e) (hJ40 h 2))
    exact zj (oV (zu e zgk zcK) (oT (zaS (R:=vecv v31 (([(Val.mk (2:Int) a_n_ ([]:(List UInt8)) ([]:(List Val)) (0:Int) ([]:(List Raw))),(Val.mk (1:Int) (1:Int) ([]:(List UInt8)) ([]:(List Val)) (0:Int) ([]:(List Raw)))]:(List Val)).length)) ty23 e p0 isvV1 (oV (zao (z:=(Val.mk (0:Int) (0:Int) ([]:(List UInt8)) ([]:(List Val)) (0:Int) ([]:(List Raw)))) e bu26 ze26 .nil) (zaj h λq36 h=>oV (zdw (α:=Val) sl23 e e q36.1 q36.2) (za h λy37 hy37 h=>oT (zeu ty26 e e (.there (.there .here)) hy37 (zah (zfS (y:=(((7:Int),(0:Int),([]:(List UInt8)),(Vh.mk v31 (([(Val.mk (2:Int) a_n_ ([]:(List UInt8)) ([]:(List Val)) (0:Int) ([]:(List Raw))),(Val.mk (1:Int) (1:Int) ([]:(List UInt8)) ([]:(List Val)) (0:Int) ([]:(List Raw)))]:(List Val)).set ((0:Int).toNat) (Val.mk (0:Int) (0:Int) ([]:(List UInt8)) ([]:(List Val)) (0:Int) ([]:(List Raw)))).length),(0:Int),([]:(List Raw))):ValOT)) (.there .here) (λS=>(Cv.pair Cv.id (Cv.pair Cv.id (Cv.pair Cv.id (Cv.pair (Cv.vhe (by first | rfl | simp)) (Cv.pair Cv.id Cv.id))))))) (zN (hJ35 h () 4))))))))))
   exact oN g16 (oN g16 (oV (zh e g16 e) (hJ15 h 3)))
  exact oN g13 (oN g13 (oV (zh e g13 e) (hJ12 h 3)))
 exact zj (om e (zam h λq7 h=>oV (zla e e q7) (oa e (zN (hJ6 h 3)))))

end Go.Proofs.Q

