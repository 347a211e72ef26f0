/- Walks, printed by mill.py. -/
import Derived.Test.YtmahnaanhhojkaaGreatDoorNlA
import Derived.Test.YtmahnaanhhojkaaGreatDoorNlB
import Derived.Test.YtmahnaanhhojkaaGreatDoorNlC
import Derived.Test.YtmahnaanhhojkaaGreatDoorNlD
import Derived.Test.YtmahnaanhhojkaaGreatDoorNlE
set_option linter.unusedVariables false
set_option linter.unusedSimpArgs false

namespace Go.Proofs.Q
open Go.Sy
set_option maxRecDepth 4000
theorem zkU {a_b r} (h:zgj a_b=some r):Ctr Tryz.prog 250 [isv a_b] [] (Pt [isv r.1,isv r.2.1,isv r.2.2] []):=by
 unfold zgj at h
 refine zi Tryz.func250 e λw0 S0 hT=>ws (oa e (oa e (an e (ws (an e (ss (om e (oV (vN e sl22) (om e (rn (zn (lP h Unit () (λq1 g1=>[(5,isv q1.1),(10,isv q1.2)]) (λq1 g1=>[]) (zA (j:=5) e hI (zA (j:=10) e hI zat)) k0 λL2 q1 g1 Q23 h hL2 eL2 rL2=>ws (oV (zas e e) (rn (zE (zd h e (λ_ h=>?_) (λ_ h=>xn (eL2 _ _ (zu (zp (ws (oa e (oa e (ar e (ze (.tmp e (.tmp e (.tmp e .nil))) k0 (iS h ▸ ⟨e,e⟩))))))))))))))))))))))))))
 refine wk (zE (zn (ws (om e (za h λy13 hy13 h=>oV (vX e e sl22 hy13) (oV (zb ty5 e) (oa e (an e (ss (om e (oV (zM e e) (om e (jO 3 20 h (λq14 h=>?_) λJ15 h hJ15=>oI h (λg16 h=>?_) λg16 h=>oN g16 (oN g16 (oV (zg e g16 e) (hJ15 h 3))))))))))))))))
 ·refine om e (jO 4 25 h (λq17 h=>?_) λJ18 h hJ18=>oI h (λg19 h=>?_) λg19 h=>oG g19 (zm e) (oG g19 (zvE (q:=(57:UInt64)) e e (by decide)) (oG g19 (zi0 eq102 e e) (oV (zg e g19 e) (hJ18 h 4)))))
  ·refine rn (zd h e (λ_ h=>?_) (λ_ h=>wk (ws (om e (zap h λq20 h=>oV (zg0 e e q20) (om e (oV (znr e e) (oV (zft Tryz.underlying5 Tryz.underlying102 e) (oV (zgU e e) (an e (ws (om e (oV (zfQ e e) (rn (zd h e (λ_ h=>?_) (λ_ h=>zC (zs (zp (zj (zy h λq22 h=>oV (zY e e q22) (om e (zO (hL2 h () 25)))))))))))))))))))))))
   ·exact ws (oa e (oa e (ar e (zF (bn (rL2 _ (bn (ze (.tmp e (.tmp e (.tmp e .nil))) k0 (iS h ▸ ⟨e,e⟩)))))))))
   exact ws (om e (om e (zy h λq21 h=>oV (zY e e q21) (oa e (oa e (ar e (bn (rL2 _ (bn (ze (.tmp e (.tmp e (.tmp e .nil))) k0 (iS h ▸ ⟨e,e⟩)))))))))))
  exact oN g19 (oN g19 (oN g19 (oV (zh e g19 e) (hJ18 h 4))))
 exact oG g16 (zm e) (oG g16 (zaT eq5 e e) (oV (zh e g16 e) (hJ15 h 3)))


theorem zpQ {a_b r} (h:zlr a_b=some r):Ctr Tryz.prog 237 [isv a_b] [] (Pt [isv r.1,isv r.2.1,isv r.2.2] []):=by
 unfold zlr at h
 refine zi Tryz.func237 e λw0 S0 hT=>ws (oa e (oa e (an e (ss (om e (za h λy1 hy1 h=>oV (vX e e sl22 hy1) (oV (zb ty5 e) (oV (znr e e) (oV (zp5 Tryz.underlying5 Tryz.underlying3 e) (an e (ws (om e (oV (zas e e) (rn (zd h e (λ_ h=>?_) (λ_ h=>wk (ws (om e (zah h λq2 h=>oV (zhR (l:=a_b) e hI sl22 (.inr ⟨_,e,e⟩) (.inl ⟨e,e⟩) q2.1 q2.2.1 q2.2.2) (za h λy3 hy3 h=>oT (tC (zkU hy3) hT (s1 e) k0 (om e (oV (zr e e) (oV (zr e e) (oV (zr e e) (oa e ?_))))))))))))))))))))))))))
 ·exact ws (om e (oa e (oa e (ar e (zF (ze (.tmp e (.tmp e (.tmp e .nil))) k0 (iS h ▸ ⟨e,e⟩)))))))
 refine oa e (an e (zE (zn (ws (om e (oV (zbt e e) (an e (zd h e (λ_ h=>?_) (λ_ h=>ws (om e (oV (zpe e e) (om e (jO 3 34 h (λq4 h=>?_) λJ5 h hJ5=>oI h (λg6 h=>?_) λg6 h=>oG g6 (zm e) (oG g6 (znh e e) (oV (zg e g6 e) (hJ5 h 3))))))))))))))))
 ·exact ws (om e (oa e (oa e (ar e (bn (ze (.tmp e (.tmp e (.tmp e .nil))) k0 (iS h ▸ ⟨e,e⟩)))))))
 ·refine an e (zd h e (λ_ h=>?_) (λ_ h=>zC (zs (zp (ws (om e (zy h λq7 h=>oV (zpC Tryz.underlying102 Tryz.underlying3 e q7) (om e (oa e (oa e (ar e (ze (.tmp e (.tmp e (.tmp e .nil))) k0 (iS h ▸ ⟨e,e⟩)))))))))))))
  exact ws (oa e (oa e (ar e (bn (ze (.tmp e (.tmp e (.tmp e .nil))) k0 (iS h ▸ ⟨e,e⟩))))))
 exact oN g6 (oN g6 (oV (zh e g6 e) (hJ5 h 3)))


theorem znt {a_b r} (h:zjC a_b=some r):Ctr Tryz.prog 254 [isv a_b] [] (Pt [isv r] []):=by
 unfold zjC at h
 refine zi Tryz.func254 e λw0 S0 hT=>ws (an e (ws (an e (ss (om e (oV (vN e sl22) (om e (rn (zn (lP h Unit () (λq1 g1=>[(3,isv q1.1),(8,isv q1.2)]) (λq1 g1=>[]) (zA (j:=3) e hI (zA (j:=8) e hI zat)) k0 λL2 q1 g1 Q9 h hL2 eL2 rL2=>ws (oV (zas e e) (rn (zE (zd h e (λ_ h=>?_) (λ_ h=>xn (eL2 _ _ (zu (zp (ws (om e (ar e (ze (r1 e) k0 (iS h ▸ ⟨e,e⟩)))))))))))))))))))))))
 exact wk (zE (zn (ws (za h λy6 hy6 h=>oV (vX e e sl22 hy6) (oV (zb ty5 e) (an e (zj (om e (zap h λq7 h=>oV (zg0 e e q7) (om e (oV (zft Tryz.underlying5 Tryz.underlying102 e) (oV (zgU e e) (oa e (rb (zp (zj (zy h λq8 h=>oV (zY e e q8) (om e (zO (hL2 h () 14))))))))))))))))))))


theorem zjO {a_b r} (h:zfA a_b=some r):Ctr Tryz.prog 251 [isv a_b] [] (Pt [isv r.1,isv r.2] []):=by
 unfold zfA at h
 refine zi Tryz.func251 e λw0 S0 hT=>ws (oa e (an e (ss (om e (oV (vN e sl22) (oV (zM e e) (rn (zd h e (λ_ h=>?_) (λ_ h=>wk (ss (om e (oV (vN e sl22) (oV (zcl e e) (om e (jO 10 20 h (λq1 h=>?_) λJ2 h hJ2=>oI h (λg3 h=>?_) λg3 h=>oG g3 (zm e) (oG g3 (vN e sl22) (oG g3 (zcl e e) (oG g3 (zm e) (jO 5 19 h (λq4 h=>?_) λJ5 h hJ5=>oI h (λg6 h=>?_) λg6 h=>oN g6 (oN g6 (oN g6 (oN g6 (oG g3 (zg e g6 e) (hJ5 h 5))))))))))))))))))))))))
 ·exact ws (oa e (ar e (zF (ze (r2 e e) k0 (iS h ▸ ⟨e,e⟩)))))
 ·refine rn (zd h e (λ_ h=>?_) (λ_ h=>wk (ws (om e (za h λy8 hy8 h=>oT (tC (znt hy8) hT (s1 e) k0 (oa e (ar e (ze (r2 e e) k0 (iS h ▸ ⟨e,e⟩))))))))))
  exact ws (oa e (ar e (zF (ze (r2 e e) k0 (iS h ▸ ⟨e,e⟩)))))
 ·exact oN g3 (oN g3 (oN g3 (oN g3 (oU (oU (oU (oU (oN g3 (oV (zh e g3 e) (hJ2 h 10))))))))))
 ·exact oV (zg e g3 e) (hJ2 h 6)
 exact oG g6 (zm e) (za h λy7 hy7 h=>oG g6 (vX e e sl22 hy7) (oG g6 (zb ty5 e) (oG g6 (zaT eq5 e e) (oG g3 (zh e g6 e) (hJ5 h 5)))))


theorem zo2 {a_b r} (h:zlo a_b=some r):Ctr Tryz.prog 238 [isv a_b] [] (Pt [isv r.1,isv r.2.1,isv r.2.2] []):=by
 unfold zlo at h
 refine zi Tryz.func238 e λw0 S0 hT=>ws (oa e (oa e (an e (ss (om e (oV (vN e sl22) (oV (zM e e) (rn (zd h e (λ_ h=>?_) (λ_ h=>wk (ss (om e (za h λy1 hy1 h=>oV (vX e e sl22 hy1) (oV (zb ty5 e) (oV (zfQ e e) (rn (zd h e (λ_ h=>?_) (λ_ h=>wk (ws (om e (za h λy3 hy3 h=>oV (vX e e sl22 hy3) (oV (zb ty5 e) (oV (zsp e e) (oV (zp5 Tryz.underlying5 Tryz.underlying3 e) (an e (zE ?_))))))))))))))))))))))))))
 ·exact ws (oa e (oa e (ar e (zF (ze (.tmp e (.tmp e (.tmp e .nil))) k0 (iS h ▸ ⟨e,e⟩))))))
 ·exact ws (om e (za h λy2 hy2 h=>oV (vX e e sl22 hy2) (oV (zb ty5 e) (oV (zp5 Tryz.underlying5 Tryz.underlying3 e) (oa e (oa e (ar e (zF (ze (.tmp e (.tmp e (.tmp e .nil))) k0 (iS h ▸ ⟨e,e⟩))))))))))
 refine zn (ws (om e (oV (zM e e) (om e (jO 3 30 h (λq4 h=>?_) λJ5 h hJ5=>oI h (λg6 h=>?_) λg6 h=>oG g6 (zm e) (oG g6 (zcl e e) (oV (zg e g6 e) (hJ5 h 3))))))))
 ·refine an e (zd h e (λ_ h=>?_) (λ_ h=>ws (om e (oV (vN e sl22) (om e (oV (zk5 e e) (an e (zd h e (λ_ h=>?_) (λ_ h=>zC (zs (zp (ws (om e (om e (zy h λq7 h=>oV (zY e e q7) (zah h λq8 h=>oV (zhR (l:=a_b) e hI sl22 (.inr ⟨_,e,e⟩) (.inr ⟨_,e,e⟩) q8.1 q8.2.1 q8.2.2) (za h λy9 hy9 h=>oT (tC (zjO hy9) hT (s1 e) k0 (om e (oV (zr e e) (oV (zr e e) (oa e (an e (ss (om e (oV (zbt e e) (om e ?_)))))))))))))))))))))))))))
  ·exact ws (oa e (oa e (ar e (bn (ze (.tmp e (.tmp e (.tmp e .nil))) k0 (iS h ▸ ⟨e,e⟩))))))
  ·exact ws (oa e (oa e (ar e (bn (ze (.tmp e (.tmp e (.tmp e .nil))) k0 (iS h ▸ ⟨e,e⟩))))))
  refine jO 3 49 h (λq10 h=>?_) λJ11 h hJ11=>oI h (λg12 h=>?_) λg12 h=>oG g12 (zm e) (oG g12 (zpe e e) (oV (zg e g12 e) (hJ11 h 3)))
  ·refine om e (jO 3 53 h (λq13 h=>?_) λJ14 h hJ14=>oI h (λg15 h=>?_) λg15 h=>oG g15 (zm e) (oG g15 (znh e e) (oV (zg e g15 e) (hJ14 h 3))))
   ·refine rn (zd h e (λ_ h=>?_) (λ_ h=>wk (ws (om e (zy h λq16 h=>oV (zpC Tryz.underlying102 Tryz.underlying3 e q16) (om e (zy h λq17 h=>oV (zY e e q17) (oa e (oa e (ar e (ze (.tmp e (.tmp e (.tmp e .nil))) k0 (iS h ▸ ⟨e,e⟩))))))))))))
    exact ws (oa e (oa e (ar e (zF (ze (.tmp e (.tmp e (.tmp e .nil))) k0 (iS h ▸ ⟨e,e⟩))))))
   exact oN g15 (oN g15 (oV (zh e g15 e) (hJ14 h 3)))
  exact oN g12 (oN g12 (oV (zh e g12 e) (hJ11 h 3)))
 exact oN g6 (oN g6 (oV (zh e g6 e) (hJ5 h 3)))


theorem znW {a_b r} (h:zjf a_b=some r):Ctr Tryz.prog 215 [isv a_b] [] (Pt [isv r.1,isv r.2.1,isv r.2.2.1,isv r.2.2.2.1,isv r.2.2.2.2] []):=by
 unfold zjf at h
 refine zi Tryz.func215 e λw0 S0 hT=>ws (oT (zV _ ze206 λb1=>oa e (oa e (oa e (an e (ss (om e (oV (vN e sl22) (oV (zM e e) (rn (zd h e (λ_ h=>?_) (λ_ h=>wk (ws (om e (za h λy2 hy2 h=>oT (tC (zpQ hy2) hT (s1 e) k0 (om e (oV (zr e e) (oV (zr e e) (oV (zr e e) (oa e (oa e (an e (ss (om e (oV (zbt e e) (rn (zd h e (λ_ h=>?_) (λ_ h=>?_)))))))))))))))))))))))))))))
 ·exact ws (oV (zam (z:=(Tag.mk (0:Int) (0:Int))) e bu206 ze206 .nil) (oT (tS ty206 e e p0 ⟨0,0⟩ (oa e (oa e (oa e (ar e (zF (ze (.cell e .here ty206 (.tmp e (.tmp e (.tmp e (.tmp e .nil))))) k0 (iS h ▸ ⟨e,e⟩))))))))))
 ·exact ws (oV (zam (z:=(Tag.mk (0:Int) (0:Int))) e bu206 ze206 .nil) (om e (oT (tS ty206 e e p0 ⟨0,0⟩ (oa e (oa e (oa e (ar e (zF (ze (.cell e .here ty206 (.tmp e (.tmp e (.tmp e (.tmp e .nil))))) k0 (iS h ▸ ⟨e,e⟩)))))))))))
 refine wk (ws (om e (om e (zy h λq3 h=>oV (zY e e q3) (zah h λq4 h=>oV (zhR (l:=a_b) e hI sl22 (.inr ⟨_,e,e⟩) (.inl ⟨e,e⟩) q4.1 q4.2.1 q4.2.2) (za h λy5 hy5 h=>oT (tC (zo2 hy5) hT (s1 e) k0 (om e (oV (zr e e) (oV (zr e e) (oV (zr e e) (oa e (oa e (an e (ss (om e (oV (zbt e e) (rn (zd h e (λ_ h=>?_) (λ_ h=>wk (zE (zG (.v 0 (.v 1 (.v 2 (.v 3 (.v 4 (.v 5 (.v 6 (.v 7 (.v 8 (.v 9 (.v 10 (.v 11 (.v 12 (.v 13 (.v 14 (.v 15 (.v 16 (.t 17 (.v 18 (.v 19 (.v 20 (.v 21 .nil)))))))))))))))))))))) moOrd (by kernel_rfl) (rm e e (za h λy6 hy6 h=>zl e (vX e e sl22 hy6) (zl e (zb ty5 e) (zap h λq7 h=>?_))))))))))))))))))))))))))
 ·exact ws (oV (zam (z:=(Tag.mk (0:Int) (0:Int))) e bu206 ze206 .nil) (om e (oT (tS ty206 e e p0 ⟨0,0⟩ (oa e (oa e (oa e (ar e (zF (ze (.cell e .here ty206 (.tmp e (.tmp e (.tmp e (.tmp e .nil))))) k0 (iS h ▸ ⟨e,e⟩)))))))))))
 exact zl e (zqR e e q7) (zl e (zp5 Tryz.underlying5 Tryz.underlying3 e) (rm e e (zl e (zam (z:=(Tag.mk ((shr8 y6 (6:UInt64).toNat).toNat:Int) y2.1)) e bu206 ze206 (.cons Tag.f0 zkH e hI (.cons Tag.f1 zfO e hI .nil))) (rm e e (za h λy8 hy8 h=>zl e (vX e e sl22 hy8) (zl e (zb ty5 e) (zl e (znr e e) (zl e (zi0 eq5 e e) (rm e e (rm e e (zy h λq9 h=>zl e (zY e e q9) (rm e e (zy h λq10 h=>zl e (zY e e q10) (rT e (tS ty206 e e p0 ⟨((shr8 y6 (6:UInt64).toNat).toNat:Int),y2.1⟩ (zl e (zaA e) (zl e (zaA e) (zl e (zaA e) (zl e (zaA e) (zaj (zp (zbM (ze (.cell e .here ty206 (.tmp e (.tmp e (.tmp e (.tmp e .nil))))) k0 (iS h ▸ ⟨e,e⟩))))))))))))))))))))))))


theorem zrw {a_b r} (h:znA a_b=some r):Ctr Tryz.prog 185 [isv a_b] [] (Pt [isv r.1,isv r.2.1,isv r.2.2.1,isv r.2.2.2.1,isv r.2.2.2.2] []):=by
 unfold znA at h
 refine zi Tryz.func185 e λw0 S0 hT=>ws (oT (zV _ ze206 λb1=>oa e (oa e (oa e (an e (ws (om e (za h λy2 hy2 h=>oT (tC (znW hy2) hT (s1 e) k0 (om e (oV (zr e e) (oV (zr e e) (oV (zr e e) (oV (zr e e) (oV (zr e e) (oT (zV _ ze206 λb3=>oT (tS ty206 e e p0 y2.1 (zaf (zaF 7 .here e) (oa e (oa e (oa e (an e (ss (om e (oV (zM e e) (om e (jO 7 29 h (λq4 h=>?_) λJ5 h hJ5=>oI h (λg6 h=>?_) λg6 h=>?_))))))))))))))))))))))))))))
 ·refine rn (jW 11 h (λq8 h=>?_) λJ9 h hJ9=>zd h e (λ_ h=>?_) (λ_ h=>zC (hJ9 h 0)))
  ·refine ss (om e (oV (zbt e e) (rn (zd h e (λ_ h=>?_) (λ_ h=>wk (zE (zG (.v 0 (.v 1 (.v 2 (.v 3 (.v 4 (.v 5 (.v 6 (.v 7 (.v 9 (.v 10 (.v 11 (.t 8 (.t 12 (.v 13 (.v 14 (.v 15 (.v 16 .nil))))))))))))))))) moOrd (by kernel_rfl) (zl e (zb ty206 e) (rm e e (rm e e (rm e e (rm e e (rm e e (zy h λq10 h=>zl e (zY e e q10) (zah h λq11 h=>zl e (zhR (l:=a_b) e hI sl22 (.inr ⟨_,e,e⟩) (.inr ⟨_,e,e⟩) q11.1 q11.2.1 q11.2.2) (rm e e (rm e e (zy h λq12 h=>zl e (zY e e q12) (zap h λq14 h=>rT e (zpr (m:=((a_b.take ((y2.2.2.2.1 + y2.2.2.1)).toNat).drop (y2.2.2.2.1).toNat)) zkJ e e hI q14 λt13=>rT e (tS ty206 e e p1 y2.1 (zl e (zaA e) (zl e (zaA e) (zl e (zaA e) (zl e (zaA e) (zaj ?_))))))))))))))))))))))))))
   ·exact ws (oV (zam (z:=(Tag.mk (0:Int) (0:Int))) e bu206 ze206 .nil) (om e (oT (tS ty206 e e p0 ⟨0,0⟩ (oa e (oa e (oa e (ar e (zF (ze (.cell e .here ty206 (.tmp e (.as e (zeR (α:=UInt8)) (.tmp e (.tmp e .nil))))) k0 (iS h ▸ ⟨e,e⟩)))))))))))
   exact zp (zbM (ze (.cell e .here ty206 (.tmp e (.as e zx (.tmp e (.tmp e .nil))))) k0 (iS h ▸ ⟨e,e⟩)))
  exact zj (oa e (zO (hJ9 h 1)))
 ·exact oG g6 (zm e) (oG g6 (zm e) (oG g6 (vN e sl22) (oG g6 (zm e) (zy h λq7 h=>oG g6 (zhd e e q7) (oG g6 (zcl e e) (oV (zh e g6 e) (hJ5 h 7)))))))
 exact oN g6 (oN g6 (oN g6 (oN g6 (oN g6 (oN g6 (oV (zg e g6 e) (hJ5 h 7)))))))


theorem zk2 {a_t a_k r} (h:zf8 a_t a_k=some r):Ctr Tryz.prog 159 [isv a_t,isv a_k] [] (Pt [isv r] []):=by
 unfold zf8 at h
 refine zi Tryz.func159 e λw0 S0 hT=>ws (oT (tB e (an e (ws (oV (vI e GTyp.f4 zbd a_t.fields) (oV (zb ty127 e) (om e (za h λy1 hy1 h=>oV (vX e e sl127 hy1) (oV (vI e GFld.f2 znd y1.optional) (oV (zb ty4 e) (om e (jO 7 18 h (λq2 h=>?_) λJ3 h hJ3=>oI h (λg4 h=>?_) λg4 h=>oG g4 (vI e GTyp.f4 zbd a_t.fields) (oG g4 (zb ty127 e) (oG g4 (zm e) (za h λy5 hy5 h=>oG g4 (vX e e sl127 hy5) (oG g4 (vI e GFld.f3 zjh y5.has) (oG g4 (zb ty4 e) (oV (zg e g4 e) (hJ3 h 7)))))))))))))))))))
 ·refine om e (jO 5 24 h (λq6 h=>?_) λJ7 h hJ7=>oI h (λg8 h=>?_) λg8 h=>oG g8 (zm e) (oG g8 (vI e GTyp.f5 zh4 a_t.root) (oG g8 (zb ty3 e) (oG g8 (zdP e e) (oV (zg e g8 e) (hJ7 h 5))))))
  ·exact ar e (ze (r1 e) k0 (iS h ▸ ⟨e,e⟩))
  exact oN g8 (oN g8 (oN g8 (oN g8 (oV (zh e g8 e) (hJ7 h 5)))))
 exact oN g4 (oN g4 (oN g4 (oN g4 (oN g4 (oN g4 (oV (zh e g4 e) (hJ3 h 7)))))))


theorem zpo {a_t r} (h:zlj a_t=some r):Ctr Tryz.prog 186 [isv a_t] [] (Pt [isv r] []):=by
 unfold zlj at h
 refine zi Tryz.func186 e λw0 S0 hT=>ws (oT (tB e (an e (ws (oV (vI e GTyp.f5 zh4 a_t.root) (oV (zb ty3 e) (oV (zvG e e) (oV (vI e GTyp.f4 zbd a_t.fields) (oV (zb ty127 e) (oV (vN e sl127) (oV (zvQ e e) (an e (zE (zn (lO 3 h e λL2 q1 Q15 h hL2 eL2 rL2=>ss (om e (oV (zcl e e) (om e (jO 5 18 h (λq9 h=>?_) λJ10 h hJ10=>oI h (λg11 h=>?_) λg11 h=>oN g11 (oN g11 (oN g11 (oN g11 (oV (zg e g11 e) (hJ10 h 5))))))))))))))))))))))))
 ·refine rn (zd h e (λ_ h=>?_) (λ_ h=>xn (eL2 _ _ (zu (zp (ws (om e (ar e (ze (r1 e) k0 (iS h ▸ ⟨e,e⟩))))))))))
  exact wk (zn (zj (om e (zy h λq14 h=>oV (zhd e e q14) (oa e (rb (hL2 h 8)))))))
 exact oG g11 (zb ty129 e) (oG g11 (zm e) (zy h λq12 h=>oG g11 (zhd e e q12) (za h λy13 hy13 h=>oH g11 (tC (zk2 hy13) hT (s2 e e) k0 (oV (zh e g11 e) (hJ10 h 5))))))


theorem ziE {a_x a_a1 zfj t_a_a11 r} (h:zeZ a_x a_a1=some r):Ctr Tryz.prog 240 [isv a_x,ptrv zfj (Fld.id (TList Tag))] [boxE zfj ((TList.mk t_a_a11 a_a1):(TList Tag)),tokE t_a_a11] (Pt1 (λ_=>[]) λu1=>[boxE zfj ((TList.mk u1 r)),tokE u1]):=by
 unfold zeZ at h
 refine zi Tryz.func240 e λw0 S0 hT=>ws (oT (tB e (rn (ws (oV (vI e GTyp.f1 zg3 a_x.tags) (oV (zb ty123 e) (oV (vN e sl123) (oV (zcl e e) (rn (zd h e (λ_ h=>?_) (λ_ h=>zC (zaL .nil k2 (iS h ▸ ⟨t_a_a11,e,e⟩)))))))))))))
 refine zG (.v 1 (.v 2 (.v 3 (.v 4 (.alt 0 (.t 5 (.t 6 (.t 7 .nil))) (.t 5 (.t 0 (.t 6 (.t 7 .nil))))))))) moOrd (by kernel_rfl) (zl e (vI e GTyp.f1 zg3 a_x.tags) (zl e (zb ty123 e) (za h λy2 hy2 h=>zl e (vX e e sl123 hy2) (zl e (zb ty206 e) (zap h λq5 h=>zfB ?_ (rT e (zB (l:=([y2]:(List Tag))) el123 (.cons e hI .nil) e e (rT e (zaP (R:=appv t_a_a11 a_a1) ty123 e p0 isvT1 (rT e (zcg (l:=a_a1) (m:=([y2]:(List Tag))) zhC e hI e zx (.there .here) q5 λt7=>rT e (tR ty123 e e isvT2 p1 ⟨t7,(a_a1 ++ ([y2]:(List Tag)))⟩ e (zaj (zaL .nil k2 (iS h ▸ ⟨t7,e,e⟩)))))))))))))))
 exact rT e (zaP (R:=appv t_a_a11 a_a1) ty123 e p0 isvT1 (rT e (zB (l:=([y2]:(List Tag))) el123 (.cons e hI .nil) e e (rT e (zcg (l:=a_a1) (m:=([y2]:(List Tag))) zhC e hI e zx (.there .here) q5 λt4=>rT e (tR ty123 e e isvT2 p1 ⟨t4,(a_a1 ++ ([y2]:(List Tag)))⟩ e (zaj (zaL .nil k2 (iS h ▸ ⟨t4,e,e⟩)))))))))


def zel (f':GTys->Int->Int->(List Tag)->Option (GTys × Int × (List Tag))):Prop :=
 ∀ {a_t zjF zhm zkD zlR zkd ziM t_a_do__01 r},f' a_t zjF zhm zkD=some r->Ctr Tryz.prog 239 [ptrv zlR (Fld.id GTys),isv zjF,ptrv zkd (Fld.id Int),clov 240 [ptrv ziM (Fld.id (TList Tag))]] [boxE zlR (a_t:GTys),boxE zkd (zhm:Int),boxE ziM ((TList.mk t_a_do__01 zkD):(TList Tag)),tokE t_a_do__01] (Pt1 (λ_=>[]) λu1=>[boxE zlR (r.1),boxE zkd (r.2.1),boxE ziM ((TList.mk u1 r.2.2)),tokE u1])
theorem zjX {zeF} (zkY:zel zeF):zel (zfE zeF):=by
 intro a_t zjF zhm zkD zlR zkd ziM t_a_do__01 r h
 unfold zfE at h
 refine zi Tryz.func239 e λw0 S0 hT=>ss (om e (oV (zas e e) (om e (jO 8 21 h (λq2 h=>?_) λJ3 h hJ3=>oI h (λg4 h=>?_) λg4 h=>oG g4 (zm e) (oG g4 (zm e) (oG g4 (zf e) (oG g4 (zw e GTys.f0 zo9) (oH g4 (tL ty29 e p0 a_t.l (oG g4 (vN e sl29) (oG g4 (zdP e e) (oV (zg e g4 e) (hJ3 h 8)))))))))))))
 ·refine om e (jO 5 27 h (λq5 h=>?_) λJ6 h hJ6=>oI h (λg7 h=>?_) λg7 h=>oG g7 (zm e) (oG g7 (zf e) (oH g7 (tL ty3 e p1 zhm (oG g7 (zM e e) (oV (zg e g7 e) (hJ6 h 5)))))))
  ·refine rn (zd h e (λ_ h=>?_) (λ_ h=>wk (ws (om e (oV (zf e) (oT (tL ty3 e p1 zhm (zy h λq8 h=>oV (zhd e e q8) (oV (zf e) (oT (tS ty3 e e p1 (zhm - 1) (rn (ws (om e (oV (zf e) (oV (zw e GTys.f0 zo9) (oT (tL ty29 e p1 a_t.l (om e (za h λy9 hy9 h=>oV (vX e e sl29 hy9) (oV (zb ty129 e) (oT (zV _ ze129 λb10=>oT (tS ty129 e e p0 y9 (zaf (zaF 8 .here e) (rn (ws (om e (oV (zb ty129 e) (za h λy11 hy11 h=>oT (zfr e (.same e .nil) (ziE hy11) hT (.cons (.there (.there .here)) (.cons (.there (.there .here)) .nil)) (λR H' hR=>?_))))))))))))))))))))))))))))))))
   ·exact zbM (zF (ze .nil k4 (iS h ▸ ⟨t_a_do__01,e,e⟩)))
   obtain ⟨t12,rfl,rfl⟩:=hR
   refine rn (ss (oV (vI e GTyp.f1 zg3 y9.tags) (oV (zb ty123 e) (oV (vN e sl123) (oV (zcl e e) (rn (zd h e (λ_ h=>?_) (λ_ h=>wk (ws (oV (vI e GTyp.f4 zbd y9.fields) (oV (zb ty127 e) (oV (vN e sl127) (om e (rn (zn (lP h Tok t12 (λq13 g13=>[(50,isv q13.1)]) (λq13 g13=>[boxE ziM ((TList.mk g13 q13.2.1):(TList Tag)),tokE g13,boxE zkd (q13.2.2.1:Int),boxE zlR (q13.2.2.2:GTys)]) (zA (j:=50) e hI zat) k4 λL14 q13 g13 Q25 h hL14 eL14 rL14=>ws (oV (zas e e) (rn (zE (zd h e (λ_ h=>?_) (λ_ h=>xn (eL14 _ _ (zu (zaL .nil (a3 (a2 k2)) (iS h ▸ ⟨g13,e,e⟩)))))))))))))))))))))))))
   ·exact zbM (zF (ze .nil (a3 (a2 k2)) (iS h ▸ ⟨t12,e,e⟩)))
   exact wk (zE (zn (ws (za h λy20 hy20 h=>oV (vX e e sl127 hy20) (oV (zb ty137 e) (oT (zV _ ze137 λb21=>oT (tS ty137 e e p0 y20 (zaf (zaF 10 .here e) (rn (zj (om e (oV (vI e GFld.f1 zdy y20.ty) (oV (zb ty3 e) (om e (om e (za h λy22 hy22 h=>oT (tC1 (zkY hy22) hT (s4 e e e e) (a3 (a2 k2)) (λt23=>rb (zp (zj (zy h λq24 h=>oV (zY e e q24) (om e (zO (hL14 h t23 14)))))))))))))))))))))))))
  exact oN g7 (oN g7 (oN g7 (oN g7 (oV (zh e g7 e) (hJ6 h 5)))))
 exact oN g4 (oN g4 (oN g4 (oN g4 (oN g4 (oN g4 (oN g4 (oV (zh e g4 e) (hJ3 h 8))))))))

theorem zf9:∀ n,zel (zgw n)
  | 0=>λh=>(by cases h)
  | n + 1=>zjX (zf9 n)
theorem zkS (n:Nat):zel (zgw n):=(zf9 n)

theorem zjU {a_t zjF zlR r} (h:zfT a_t zjF=some r):Ctr Tryz.prog 218 [ptrv zlR (Fld.id GTys),isv zjF] [boxE zlR (a_t:GTys)] (Pt [isv r.1] [boxE zlR (r.2)]):=by
 unfold zfT at h
 exact zi Tryz.func218 e λw0 S0 hT=>ws (an e (ws (oT (zV _ zvg λb1=>zaf (zbx) (rn (ws (oT (zV _ ze3 λb3=>oT (tS ty3 e e p0 300 (rn (ws (om e (om e (oV (zfg (.same e .nil)) (za h λy4 hy4 h=>oT (tC1 (zkS fuel hy4) hT (s4 e e e e) (a3 (a0 (a1 k1))) (λt5=>rn (ws (oT (zaP (R:=appv t5 y4.2.2) ty123 e p2 isvT1 (ar e (ze (.as e zx .nil) k1 (iS h ▸ ⟨e,e⟩)))))))))))))))))))))))


theorem zn2 {a_t a_i r} (h:zjz a_t a_i=some r):Ctr Tryz.prog 190 [isv a_t,isv a_i] [] (Pt [isv r] []):=by
 unfold zjz at h
 exact zi Tryz.func190 e λw0 S0 hT=>ws (oT (tB e (an e (ws (oV (vI e GTab.f3 zfD a_t.types) (oV (zb ty29 e) (oV (zam (z:=(GTys.mk a_t.types)) e bu272 ze272 (.cons GTys.f0 zo9 e hI .nil)) (oT (zki (y:=(GTys.mk a_t.types)) e hI λb1=>an e (ws (om e (om e (za h λy2 hy2 h=>oT (tC (zjU hy2) hT (s2 e e) k1 (ar e (ze (r1 e) k0 (iS h ▸ ⟨e,e⟩)))))))))))))))))


theorem zgC {a_s a_v r} (h:zdt a_s a_v=some r):Ctr Tryz.prog 217 [isv a_s,isv a_v] [] (Pt [isv r] []):=by
 unfold zdt at h
 refine zi Tryz.func217 e λw0 S0 hT=>ws (oT (tB e (an e (ss (om e (oV (vN e sl123) (om e (rn (zn (lO 8 h e λL2 q1 Q7 h hL2 eL2 rL2=>ws (oV (zas e e) (rn (zE (zd h e (λ_ h=>?_) (λ_ h=>xn (eL2 _ _ (zu (zp (ws (ar e (ze (r1 e) k0 (iS h ▸ ⟨e,e⟩))))))))))))))))))))))
 refine wk (zE (zn (ws (om e (an e (zE (zG (.v 0 (.v 1 (.v 2 (.v 3 (.v 4 (.v 5 .nil)))))) moOrd (by kernel_rfl) (zl e (zb ty206 e) (rm e e (rm e e (za h λy5 hy5 h=>zl e (vX e e sl123 hy5) (zl e (zb ty206 e) (zl e (zaT eq206 e e) (zaj (zp (zd h e (λ_ h=>?_) (λ_ h=>zC (zs (zp (zj (zy h λq6 h=>oV (zY e e q6) (om e (zO (hL2 h 12))))))))))))))))))))))))
 exact ws (om e (ar e (bn (rL2 _ (bn (ze (r1 e) k0 (iS h ▸ ⟨e,e⟩)))))))


theorem zf1 {a_s a_v r} (h:zc0 a_s a_v=some r):Ctr Tryz.prog 189 [isv a_s,isv a_v] [] (Pt [isv r] []):=by
 unfold zc0 at h
 exact zi Tryz.func189 e λw0 S0 hT=>ws (oT (tB e (an e (ws (om e (oV (zb ty206 e) (za h λy1 hy1 h=>oT (tC (zgC hy1) hT (s2 e e) k0 (oV (zdP e e) (ar e (ze (r1 e) k0 (iS h ▸ ⟨e,e⟩))))))))))))


theorem zhP {a_f a_a1 a_a2 zfj r} (h:zej a_f a_a1 a_a2=some r):Ctr Tryz.prog 188 [isv a_f,immv (PtrB.mk zfj),immv (a_a2)] [boxE zfj (a_a1:GChk)] (Pt [isv r.1] [boxE zfj (r.2)]):=by
 unfold zej at h
 exact zi Tryz.func188 e λw0 S0 hT=>ws (oT (tB e (an e (zE (zG (.v 0 (.v 1 (.v 2 (.v 3 (.v 5 (.v 6 (.v 8 (.t 4 (.t 7 (.t 9 (.v 10 .nil))))))))))) moOrd (by kernel_rfl) (zl e (za4 (α:=GChk) ty116 e) (zl e (zf e) (zl e (zw e GChk.f0 zgB) (zl e (zw e GTbd.f0 zgg) (zl e (vI e GFld.f1 zdy a_f.ty) (zl e (zb ty3 e) (zl e (zb ty206 e) (rT e (tL ty31 e p0 a_a1.tabled.t (za h λy1 hy1 h=>rT e (tC (zn2 hy1) hT (s2 e e) k0 (za h λy2 hy2 h=>rT e (tC (zf1 hy2) hT (s2 e e) k0 (zl e (zaA e) (zaj (zp (zbM (ze (r1 e) k1 (iS h ▸ ⟨e,e⟩))))))))))))))))))))))))


theorem zfb {a_s zeB zfG zdN r} (h:zcm a_s zeB zfG=some r):Ctr Tryz.prog 216 [isv a_s,clov 188 [immv (PtrB.mk zdN),immv (zfG)]] [boxE zdN (zeB:GChk)] (Pt [isv r.1] [boxE zdN (r.2)]):=by
 unfold zcm at h
 refine zi Tryz.func216 e λw0 S0 hT=>ws (an e (ss (om e (oV (vN e sl127) (om e (rn (zn (lP h Unit () (λq1 g1=>[(8,isv q1.1)]) (λq1 g1=>[boxE zdN (q1.2:GChk)]) (zA (j:=8) e hI zat) k1 λL2 q1 g1 Q9 h hL2 eL2 rL2=>ws (oV (zas e e) (rn (zE (zd h e (λ_ h=>?_) (λ_ h=>xn (eL2 _ _ (zu (zp (ws (ar e (ze (r1 e) k1 (iS h ▸ ⟨e,e⟩))))))))))))))))))))
 refine wk (zE (zn (ws (om e (an e (ws (om e (om e (om e (za h λy6 hy6 h=>oV (vX e e sl127 hy6) (oV (zb ty137 e) (za h λy7 hy7 h=>oT (zfr e (.same e .nil) (zhP hy7) hT (.cons .here .nil) (λR H' hR=>?_))))))))))))))
 obtain ⟨rfl,rfl⟩:=hR
 refine rn (zd h e (λ_ h=>?_) (λ_ h=>zC (zs (zp (zj (zy h λq8 h=>oV (zY e e q8) (om e (zO (hL2 h () 12)))))))))
 exact ws (om e (ar e (bn (rL2 _ (bn (ze (r1 e) k1 (iS h ▸ ⟨e,e⟩)))))))


theorem zeK {a_s zeB zfG zdN r} (h:zb5 a_s zeB zfG=some r):Ctr Tryz.prog 187 [isv a_s,clov 188 [immv (PtrB.mk zdN),immv (zfG)]] [boxE zdN (zeB:GChk)] (Pt [isv r.1] [boxE zdN (r.2)]):=by
 unfold zb5 at h
 exact zi Tryz.func187 e λw0 S0 hT=>ws (an e (ws (om e (om e (za h λy1 hy1 h=>oT (tC (zfb hy1) hT (s2 e e) k1 (oV (zdP e e) (ar e (ze (r1 e) k1 (iS h ▸ ⟨e,e⟩))))))))))


theorem zga {a_c a_i a_b zcA r} (h:zd4 a_c a_i a_b=some r):Ctr Tryz.prog 155 [ptrv zcA (Fld.id GChk),isv a_i,isv a_b] [boxE zcA (a_c:GChk)] (Pt [isv r.1,isv r.2.1] [boxE zcA (r.2.2)]):=by
 unfold zd4 at h
 refine zi Tryz.func155 e λw0 S0 hT=>ws (oT (zi8 (y:=PtrB.mk zcA) e zkv (oT (zV _ ze206 λb1=>an e (ws (om e (za h λy2 hy2 h=>oT (tC (zrw hy2) hT (s1 e) k0 (om e (oV (zr e e) (oV (zr e e) (oV (zr e e) (oV (zr e e) (oV (zr e e) (oT (zV _ ze206 λb3=>oT (tS ty206 e e p0 y2.1 (zaf (zaF 8 .here e) (oa e (oa e (oa e (an e (ss (om e (oV (zbt e e) (om e (jO 5 31 h (λq4 h=>?_) λJ5 h hJ5=>oI h (λg6 h=>?_) λg6 h=>oG g6 (zm e) (oG g6 (zm e) ?_))))))))))))))))))))))))))))
 ·refine rn (zd h e (λ_ h=>?_) (λ_ h=>wk (ws (oV (za4 (α:=GChk) ty116 e) (oV (zf e) (oV (zw e GChk.f0 zgB) (oV (zw e GTbd.f0 zgg) (oV (zw e GTab.f3 zfD) (oT (tL ty29 e p1 a_c.tabled.t.types (om e (za h λy7 hy7 h=>oV (vX e e sl29 hy7) (oV (zb ty129 e) (oT (zV _ ze129 λb8=>oT (tS ty129 e e p0 y7 (zaf (zaF 13 .here e) (an e (ss (oV (vI e GTyp.f0 zdB y7.kind) (oV (zb ty3 e) (oV (zM e e) (rn (jW 14 h (λq9 h=>?_) λJ10 h hJ10=>zd h e (λ_ h=>?_) (λ_ h=>zC (hJ10 h 0))))))))))))))))))))))))))
  ·exact ws (oV (zam (z:=(Tag.mk (0:Int) (0:Int))) e bu206 ze206 .nil) (oT (tS ty206 e e p0 ⟨0,0⟩ (ar e (zF (ze (.cell e .here ty206 (.tmp e .nil)) (a1 k0) (iS h ▸ ⟨e,e⟩)))))))
  ·exact ws (oV (vI e GTyp.f4 zbd y7.fields) (oV (zb ty127 e) (om e (zah h λq12 h=>oV (zhR (l:=y7.fields) e hI sl127 (.inr ⟨_,e,e⟩) (.inl ⟨e,e⟩) q12.1 q12.2.1 q12.2.2) (oV (zfg (.same e (.same e .nil))) (za h λy13 hy13 h=>oT (tC (zeK hy13) hT (s2 e e) (a1 k0) (an e (ws (oV (zb ty206 e) (om e (oV (zaX e) (oT (tS ty206 e e p1 y2.1 (ar e (ze (.cell e .here ty206 (.tmp e .nil)) (a1 k0) (iS h ▸ ⟨e,e⟩)))))))))))))))))
  exact zj (oV (zb ty129 e) (za h λy11 hy11 h=>oT (tC (zpo hy11) hT (s1 e) k0 (oa e (zO (hJ10 h 3))))))
 ·exact oN g6 (oN g6 (oN g6 (oN g6 (oV (zh e g6 e) (hJ5 h 5)))))
 exact oG g6 (vN e sl22) (oG g6 (zbt e e) (oV (zg e g6 e) (hJ5 h 5)))


theorem zmS {a_y a_a1 r} (h:zg1 a_y a_a1=some r):Ctr Tryz.prog 112 [isv a_y,immv (a_a1)] [] (Pt [isv r] []):=by
 unfold zg1 at h
 exact zi Tryz.func112 e λw0 S0 hT=>ws (oT (tB e (an e (ws (oV (vI e GItem.f1 zen a_y.number) (oV (zb ty2 e) (oV (zb ty2 e) (oV (zM e e) (ar e (ze (r1 e) k0 (iS h ▸ ⟨e,e⟩)))))))))))


theorem zfu {a_s zeB r} (h:zbe a_s zeB=some r):Ctr Tryz.prog 111 [isv a_s,clov 112 [immv (zeB)]] [] (Pt [isv r] []):=by
 unfold zbe at h
 refine zi Tryz.func111 e λw0 S0 hT=>ws (an e (ss (om e (oV (vN e sl126) (om e (rn (zn (lO 8 h e λL2 q1 Q9 h hL2 eL2 rL2=>ws (oV (zas e e) (rn (zE (zd h e (λ_ h=>?_) (λ_ h=>xn (eL2 _ _ (zu (zp (ws (ar e (ze (r1 e) k0 (iS h ▸ ⟨e,e⟩))))))))))))))))))))
 refine wk (zE (zn (ws (om e (an e (ws (om e (om e (om e (za h λy6 hy6 h=>oV (vX e e sl126 hy6) (oV (zb ty132 e) (za h λy7 hy7 h=>oT (zfr e (.same e .nil) (zmS hy7) hT .nil (λR H' hR=>?_))))))))))))))
 obtain ⟨rfl,rfl⟩:=hR
 refine rn (zd h e (λ_ h=>?_) (λ_ h=>zC (zs (zp (zj (zy h λq8 h=>oV (zY e e q8) (om e (zO (hL2 h 12)))))))))
 exact ws (om e (ar e (bn (rL2 _ (bn (ze (r1 e) k0 (iS h ▸ ⟨e,e⟩)))))))


theorem zjE {a_x a_n_ r} (h:zeM a_x a_n_=some r):Ctr Tryz.prog 57 [isv a_x,isv a_n_] [] (Pt [isv r] []):=by
 unfold zeM at h
 exact zi Tryz.func57 e λw0 S0 hT=>ws (oT (tB e (oT (tB e (an e (ws (oV (vI e GTyp.f3 zh2 a_x.items) (oV (zb ty126 e) (oV (zfg (.same e .nil)) (za h λy1 hy1 h=>oT (tC (zfu hy1) hT (s2 e e) k0 (ar e (ze (r1 e) k0 (iS h ▸ ⟨e,e⟩))))))))))))))


theorem zlV {a_b r} (h:zji a_b=some r):Ctr Tryz.prog 156 [isv a_b] [] (Pt [isv r] []):=by
 unfold zji at h
 refine zi Tryz.func156 e λw0 S0 hT=>ws (an e (ws (om e (oV (vN e sl22) (oV (zcl e e) (om e (jO 4 10 h (λq1 h=>?_) λJ2 h hJ2=>oI h (λg3 h=>?_) λg3 h=>oN g3 (oN g3 (oN g3 (oV (zg e g3 e) (hJ2 h 4)))))))))))
 ·exact ar e (ze (r1 e) k0 (iS h ▸ ⟨e,e⟩))
 exact oG g3 (zm e) (oG g3 (vN e sl22) (oG g3 (zk5 e e) (oV (zh e g3 e) (hJ2 h 4))))


theorem ziI {a_c a_i a_v zcA r} (h:zeX a_c a_i a_v=some r):Ctr Tryz.prog 104 [ptrv zcA (Fld.id GChk),isv a_i,isv a_v] [boxE zcA (a_c:GChk)] (Pt [isv r.1] [boxE zcA (r.2)]):=by
 unfold zeX at h
 refine zi Tryz.func104 e λw0 S0 hT=>ws (oT (tB e (an e (ws (om e (oV (zf e) (oV (zw e GChk.f0 zgB) (oV (zw e GTbd.f0 zgg) (oV (zw e GTab.f3 zfD) (oT (tL ty29 e p0 a_c.tabled.t.types (om e (za h λy1 hy1 h=>oV (vX e e sl29 hy1) (oV (zb ty129 e) (oT (zV _ ze129 λb2=>oT (tS ty129 e e p0 y1 (zaf (zaF 7 .here e) (rn (ws (oV (vI e GTyp.f0 zdB y1.kind) (oV (zb ty3 e) (oV (zM e e) (an e (ss (oV (vI e GTyp.f6 zkK y1.more) (oV (zb ty4 e) (oV (zaX e) (om e (jO 8 35 h (λq3 h=>?_) λJ4 h hJ4=>?_))))))))))))))))))))))))))))))
 ·refine om e (jO 9 45 h (λq9 h=>?_) λJ10 h hJ10=>oI h (λg11 h=>?_) λg11 h=>oG g11 (vI e Val.f3 zcS a_v.l) (oG g11 (zb ty23 e) (oG g11 (vN e sl23) (oG g11 (vI e Val.f5 zjo a_v.more) (oG g11 (zb ty24 e) (oG g11 (vN e sl24) (zy h λq12 h=>oG g11 (zY e e q12) (oG g11 (zcl e e) (oV (zg e g11 e) (hJ10 h 9))))))))))
  ·refine rn (zd h e (λ_ h=>?_) (λ_ h=>wk (ss (om e (oV (zf e) (oV (zw e GChk.f1 zuJ) (oT (tL ty4 e p0 a_c.bare (rn (zd h e (λ_ h=>?_) (λ_ h=>wk (ws (oV (vI e GTyp.f3 zh2 y1.items) (oV (zb ty126 e) (oV (vN e sl126) (oV (vI e GTyp.f4 zbd y1.fields) (oV (zb ty127 e) (oV (vN e sl127) (zy h λq19 h=>oV (zY e e q19) (oV (vI e GTyp.f5 zh4 y1.root) (oV (zb ty3 e) (zy h λq20 h=>oV (zhd e e q20) (an e (zE (zn (ws (oV (vI e Val.f4 zgP a_v.rule) (oV (zb ty3 e) ?_))))))))))))))))))))))))))))
   ·exact ws (ar e (zF (ze (r1 e) k1 (iS h ▸ ⟨e,e⟩))))
   ·refine ws (oV (vI e Val.f1 zcy a_v.n) (oV (zb ty2 e) (oV (zM e e) (om e (jO 5 58 h (λq13 h=>?_) λJ14 h hJ14=>oI h (λg15 h=>?_) λg15 h=>oN g15 (oN g15 (oN g15 (oN g15 (oV (zg e g15 e) (hJ14 h 5))))))))))
    ·refine om e (jO 4 63 h (λq16 h=>?_) λJ17 h hJ17=>oI h (λg18 h=>?_) λg18 h=>oN g18 (oN g18 (oN g18 (oV (zg e g18 e) (hJ17 h 4)))))
     ·exact ar e (zF (ze (r1 e) k1 (iS h ▸ ⟨e,e⟩)))
     exact oG g18 (vI e Val.f4 zgP a_v.rule) (oG g18 (zb ty3 e) (oG g18 (zM e e) (oV (zh e g18 e) (hJ17 h 4))))
    exact oG g15 (vI e Val.f2 zdp a_v.b) (oG g15 (zb ty22 e) (oG g15 (vN e sl22) (oG g15 (zM e e) (oV (zh e g15 e) (hJ14 h 5)))))
   refine oV (zM e e) (om e (jO 2 80 h (λq21 h=>?_) λJ22 h hJ22=>oI h (λg23 h=>?_) λg23 h=>oN g23 (oV (zg e g23 e) (hJ22 h 2))))
   ·refine an e (zd h e (λ_ h=>?_) (λ_ h=>ws (oV (vI e Val.f4 zgP a_v.rule) (oV (zb ty3 e) (oV (zM e e) (an e (zd h e (λ_ h=>?_) (λ_ h=>ws (oV (vI e Val.f4 zgP a_v.rule) (oV (zb ty3 e) (oV (zbt e e) (om e (jO 5 119 h (λq33 h=>?_) λJ34 h hJ34=>oI h (λg35 h=>?_) λg35 h=>oG g35 (vI e Val.f1 zcy a_v.n) (oG g35 (zb ty2 e) (oG g35 (zm e) (oG g35 (zas e e) (oV (zg e g35 e) (hJ34 h 5))))))))))))))))))
    ·refine ws (om e (om e (oV (vI e Val.f2 zdp a_v.b) (oV (zb ty22 e) (za h λy24 hy24 h=>oT (tC (zga hy24) hT (s3 e e e) k1 (om e (oV (zr e e) (oV (zr e e) (oT (zV _ ze206 λb25=>oT (tS ty206 e e p0 y24.1 (zaf (zaF 10 .here e) (an e (ws (om e (om e (jO 4 94 h (λq26 h=>?_) λJ27 h hJ27=>oI h (λg28 h=>?_) λg28 h=>oN g28 (oN g28 (oN g28 (oV (zg e g28 e) (hJ27 h 4))))))))))))))))))))))
     ·exact ar e (bn (ze (r1 e) k1 (iS h ▸ ⟨e,e⟩)))
     exact oG g28 (vI e Val.f1 zcy a_v.n) (oG g28 (zb ty2 e) (oG g28 (zM e e) (oV (zh e g28 e) (hJ27 h 4))))
    ·refine ws (oV (vI e Val.f2 zdp a_v.b) (oV (zb ty22 e) (oV (vN e sl22) (oV (zM e e) (om e (jO 6 109 h (λq29 h=>?_) λJ30 h hJ30=>oI h (λg31 h=>?_) λg31 h=>oN g31 (oN g31 (oN g31 (oN g31 (oN g31 (oV (zg e g31 e) (hJ30 h 6))))))))))))
     ·exact ar e (bn (ze (r1 e) k1 (iS h ▸ ⟨e,e⟩)))
     exact oG g31 (zb ty129 e) (oG g31 (vI e Val.f1 zcy a_v.n) (oG g31 (zb ty2 e) (za h λy32 hy32 h=>oH g31 (tC (zjE hy32) hT (s2 e e) k0 (oG g31 (zas e e) (oV (zh e g31 e) (hJ30 h 6)))))))
    ·refine om e (jO 4 124 h (λq36 h=>?_) λJ37 h hJ37=>oI h (λg38 h=>?_) λg38 h=>oG g38 (vI e Val.f1 zcy a_v.n) (oG g38 (zb ty2 e) (oG g38 (zdP e e) (oV (zg e g38 e) (hJ37 h 4)))))
     ·refine an e (zd h e (λ_ h=>?_) (λ_ h=>ws (om e (an e (zd h e (λ_ h=>?_) (λ_ h=>zC (zs (zp (ws (oV (vI e Val.f2 zdp a_v.b) (oV (zb ty22 e) (oV (vN e sl22) (oV (zM e e) (ar e (ze (r1 e) k1 (iS h ▸ ⟨e,e⟩))))))))))))))))
      ·exact ws (ar e (bn (ze (r1 e) k1 (iS h ▸ ⟨e,e⟩))))
      exact ws (oV (vI e Val.f2 zdp a_v.b) (oV (zb ty22 e) (za h λy39 hy39 h=>oT (tC (zlV hy39) hT (s1 e) k0 (ar e (bn (ze (r1 e) k1 (iS h ▸ ⟨e,e⟩))))))))
     exact oN g38 (oN g38 (oN g38 (oV (zh e g38 e) (hJ37 h 4))))
    exact oN g35 (oN g35 (oN g35 (oN g35 (oV (zh e g35 e) (hJ34 h 5)))))
   exact oG g23 (zm e) (oV (zh e g23 e) (hJ22 h 2))
  exact oN g11 (oN g11 (oN g11 (oN g11 (oN g11 (oN g11 (oN g11 (oN g11 (oV (zh e g11 e) (hJ10 h 9)))))))))
 refine oI h (λg5 h=>?_) λg5 h=>oG g5 (zm e) (oG g5 (zaX e) (oG g5 (zm e) (jO 4 34 h (λq6 h=>?_) λJ7 h hJ7=>oI h (λg8 h=>?_) λg8 h=>oN g8 (oN g8 (oN g8 (oG g5 (zg e g8 e) (hJ7 h 4)))))))
 ·exact oN g5 (oN g5 (oN g5 (oU (oU (oU (oN g5 (oV (zh e g5 e) (hJ4 h 8))))))))
 ·exact oV (zg e g5 e) (hJ4 h 5)
 exact oG g8 (vI e GTyp.f0 zdB y1.kind) (oG g8 (zb ty3 e) (oG g8 (zbt e e) (oG g5 (zh e g8 e) (hJ7 h 4))))


theorem zdm {a_v zhW r} (h:zcN a_v zhW=some r):Ctr Tryz.prog 105 [isv a_v,isv zhW] [] (Pt [isv r] []):=by
 unfold zcN at h
 refine zi Tryz.func105 e λw0 S0 hT=>ws (oT (tB e (an e (ws (om e (zah h λq1 h=>oV (zpl e e q1.1 q1.2) (oV (zbt e e) (om e (jO 4 12 h (λq2 h=>?_) λJ3 h hJ3=>oI h (λg4 h=>?_) λg4 h=>oG g4 (vI e Val.f1 zcy a_v.n) (oG g4 (zb ty2 e) (oG g4 (zM e e) (oV (zg e g4 e) (hJ3 h 4)))))))))))))
 ·refine om e (jO 10 23 h (λq5 h=>?_) λJ6 h hJ6=>oI h (λg7 h=>?_) λg7 h=>oN g7 (oN g7 (oN g7 (oN g7 (oU (oU (oU (oU (oN g7 (oV (zg e g7 e) (hJ6 h 10)))))))))))
  ·refine om e (jO 10 34 h (λq12 h=>?_) λJ13 h hJ13=>oI h (λg14 h=>?_) λg14 h=>oN g14 (oN g14 (oN g14 (oN g14 (oU (oU (oU (oU (oN g14 (oV (zg e g14 e) (hJ13 h 10)))))))))))
   ·refine om e (jO 15 50 h (λq19 h=>?_) λJ20 h hJ20=>oI h (λg21 h=>?_) λg21 h=>oN g21 (oN g21 (oN g21 (oN g21 (oU (oU (oU (oU (oU (oU (oU (oU (oU (oN g21 (oV (zg e g21 e) (hJ20 h 15))))))))))))))))
    ·exact ar e (ze (r1 e) k0 (iS h ▸ ⟨e,e⟩))
    refine oG g21 (zm e) (zah h λq22 h=>oG g21 (zpl e e q22.1 q22.2) (oG g21 (zbt e e) (oG g21 (zm e) (jO 10 49 h (λq23 h=>?_) λJ24 h hJ24=>oI h (λg25 h=>?_) λg25 h=>oG g25 (vI e Val.f4 zgP a_v.rule) (oG g25 (zb ty3 e) (oG g25 (zM e e) (oG g25 (zm e) (jO 5 48 h (λq26 h=>?_) λJ27 h hJ27=>oI h (λg28 h=>?_) λg28 h=>oN g28 (oN g28 (oN g28 (oN g28 (oG g25 (zg e g28 e) (hJ27 h 5)))))))))))))
    ·exact oV (zh e g21 e) (hJ20 h 6)
    ·exact oN g25 (oN g25 (oN g25 (oN g25 (oU (oU (oU (oU (oN g25 (oG g21 (zh e g25 e) (hJ24 h 10))))))))))
    ·exact oG g21 (zg e g25 e) (hJ24 h 6)
    exact oG g28 (vI e Val.f5 zjo a_v.more) (oG g28 (zb ty24 e) (oG g28 (vN e sl24) (oG g28 (zM e e) (oG g25 (zh e g28 e) (hJ27 h 5)))))
   refine oG g14 (zm e) (zah h λq15 h=>oG g14 (zpl e e q15.1 q15.2) (oG g14 (zbt e e) (oG g14 (zm e) (jO 5 33 h (λq16 h=>?_) λJ17 h hJ17=>oI h (λg18 h=>?_) λg18 h=>oG g18 (vI e Val.f3 zcS a_v.l) (oG g18 (zb ty23 e) (oG g18 (vN e sl23) (oG g18 (zM e e) (oG g14 (zg e g18 e) (hJ17 h 5)))))))))
   ·exact oV (zh e g14 e) (hJ13 h 6)
   exact oN g18 (oN g18 (oN g18 (oN g18 (oG g14 (zh e g18 e) (hJ17 h 5)))))
  refine oG g7 (zm e) (zah h λq8 h=>oG g7 (zpl e e q8.1 q8.2) (oG g7 (zbt e e) (oG g7 (zm e) (jO 5 22 h (λq9 h=>?_) λJ10 h hJ10=>oI h (λg11 h=>?_) λg11 h=>oG g11 (vI e Val.f2 zdp a_v.b) (oG g11 (zb ty22 e) (oG g11 (vN e sl22) (oG g11 (zM e e) (oG g7 (zg e g11 e) (hJ10 h 5)))))))))
  ·exact oV (zh e g7 e) (hJ6 h 6)
  exact oN g11 (oN g11 (oN g11 (oN g11 (oG g7 (zh e g11 e) (hJ10 h 5)))))
 exact oN g4 (oN g4 (oN g4 (oV (zh e g4 e) (hJ3 h 4))))


theorem zhh {a_c a_v r} (h:zeh a_c a_v=some r):Ctr Tryz.prog 106 [isv a_c,isv a_v] [] (Pt [isv r] []):=by
 unfold zeh at h
 refine zi Tryz.func106 e λw0 S0 hT=>ws (oT (tB e (an e (ws (oV (vI e GCon.f0 zm3 a_c.has) (oV (zb ty4 e) (oV (zaX e) (om e (jO 21 29 h (λq1 h=>?_) λJ2 h hJ2=>oI h (λg3 h=>?_) λg3 h=>oG g3 (vI e GCon.f1 zkN a_c.hasLow) (oG g3 (zb ty4 e) (oG g3 (zaX e) (oG g3 (zm e) (jO 5 17 h (λq4 h=>?_) λJ5 h hJ5=>oI h (λg6 h=>?_) λg6 h=>oG g6 (zm e) (oG g6 (vI e GCon.f4 zi6 a_c.low) (oG g6 (zb ty2 e) (oG g6 (zdP e e) (oG g3 (zg e g6 e) (hJ5 h 5))))))))))))))))))
 ·exact ar e (ze (r1 e) k0 (iS h ▸ ⟨e,e⟩))
 ·exact oN g3 (oN g3 (oN g3 (oN g3 (oU (oU (oU (oU (oN g3 (oN g3 (oU (oU (oU (oU (oU (oU (oU (oU (oU (oN g3 (oV (zh e g3 e) (hJ2 h 21)))))))))))))))))))))
 ·refine oG g3 (zm e) (jO 10 28 h (λq7 h=>?_) λJ8 h hJ8=>oI h (λg9 h=>?_) λg9 h=>oN g9 (oN g9 (oN g9 (oN g9 (oU (oU (oU (oU (oN g9 (oG g3 (zg e g9 e) (hJ8 h 10)))))))))))
  ·exact oV (zg e g3 e) (hJ2 h 8)
  refine oG g9 (vI e GCon.f2 zkG a_c.hasHigh) (oG g9 (zb ty4 e) (oG g9 (zaX e) (oG g9 (zm e) (jO 5 27 h (λq10 h=>?_) λJ11 h hJ11=>oI h (λg12 h=>?_) λg12 h=>oG g12 (zm e) (oG g12 (vI e GCon.f5 zju a_c.high) (oG g12 (zb ty2 e) (oG g12 (zk5 e e) (oG g9 (zg e g12 e) (hJ11 h 5)))))))))
  ·exact oG g3 (zh e g9 e) (hJ8 h 6)
  exact oN g12 (oN g12 (oN g12 (oN g12 (oG g9 (zh e g12 e) (hJ11 h 5)))))
 exact oN g6 (oN g6 (oN g6 (oN g6 (oG g3 (zh e g6 e) (hJ5 h 5)))))


theorem zjk {a_c a_x a_v zcA r} (h:zeg a_c a_x a_v=some r):Ctr Tryz.prog 107 [ptrv zcA (Fld.id GChk),isv a_x,isv a_v] [boxE zcA (a_c:GChk)] (Pt [isv r.1] [boxE zcA (r.2)]):=by
 unfold zeg at h
 refine zi Tryz.func107 e λw0 S0 hT=>ws (oT (tB e (oT (tB e (an e (ws (oV (zb ty26 e) (za h λy1 hy1 h=>oT (tC (zdm hy1) hT (s2 e e) k0 (om e (jO 5 14 h (λq2 h=>?_) λJ3 h hJ3=>oI h (λg4 h=>?_) λg4 h=>oN g4 (oN g4 (oN g4 (oN g4 (oV (zg e g4 e) (hJ3 h 5))))))))))))))))
 ·refine om e (jO 12 27 h (λq5 h=>?_) λJ6 h hJ6=>oI h (λg7 h=>?_) λg7 h=>oN g7 (oN g7 (oN g7 (oN g7 (oU (oU (oU (oU (oU (oU (oN g7 (oV (zg e g7 e) (hJ6 h 12)))))))))))))
  ·refine om e (jO 9 37 h (λq12 h=>?_) λJ13 h hJ13=>oI h (λg14 h=>?_) λg14 h=>oN g14 (oN g14 (oN g14 (oN g14 (oU (oU (oU (oN g14 (oV (zg e g14 e) (hJ13 h 9))))))))))
   ·exact ar e (ze (r1 e) k1 (iS h ▸ ⟨e,e⟩))
   refine oG g14 (vI e GTyp.f0 zdB a_x.kind) (oG g14 (zb ty3 e) (oG g14 (zM e e) (oG g14 (zm e) (jO 4 36 h (λq15 h=>?_) λJ16 h hJ16=>oI h (λg17 h=>?_) λg17 h=>oG g17 (vI e Val.f2 zdp a_v.b) (oG g17 (zb ty22 e) (za h λy18 hy18 h=>oH g17 (tC (zjD hy18) hT (s1 e) k0 (oG g14 (zg e g17 e) (hJ16 h 4)))))))))
   ·exact oV (zh e g14 e) (hJ13 h 6)
   exact oN g17 (oN g17 (oN g17 (oG g14 (zh e g17 e) (hJ16 h 4))))
  refine oG g7 (vI e GTyp.f2 zhv a_x.con) (oG g7 (vI e GCon.f3 zmX a_x.con.more) (oG g7 (zb ty4 e) (oG g7 (zm e) (jO 7 26 h (λq8 h=>?_) λJ9 h hJ9=>oI h (λg10 h=>?_) λg10 h=>oG g10 (vI e GTyp.f2 zhv a_x.con) (oG g10 (zb ty125 e) (oG g10 (vI e Val.f2 zdp a_v.b) (oG g10 (zb ty22 e) (oG g10 (vN e sl22) (za h λy11 hy11 h=>oH g10 (tC (zhh hy11) hT (s2 e e) k0 (oG g7 (zg e g10 e) (hJ9 h 7))))))))))))
  ·exact oV (zh e g7 e) (hJ6 h 6)
  exact oN g10 (oN g10 (oN g10 (oN g10 (oN g10 (oN g10 (oG g7 (zh e g10 e) (hJ9 h 7)))))))
 exact oG g4 (vI e Val.f2 zdp a_v.b) (oG g4 (zb ty22 e) (oG g4 (vN e sl22) (oG g4 (zk5 e e) (oV (zh e g4 e) (hJ3 h 5)))))


theorem zoi {a_t a_i r} (h:zhe a_t a_i=some r):Ctr Tryz.prog 219 [isv a_t,isv a_i] [] (Pt [isv r] []):=by
 unfold zhe at h
 refine zi Tryz.func219 e λw0 S0 hT=>ws (oT (tB e (oT (zV _ ze129 λb1=>rn (ss (om e (oV (zas e e) (om e (jO 6 13 h (λq2 h=>?_) λJ3 h hJ3=>oI h (λg4 h=>?_) λg4 h=>oG g4 (zm e) (oG g4 (vI e GTab.f3 zfD a_t.types) (oG g4 (zb ty29 e) (oG g4 (vN e sl29) (oG g4 (zdP e e) (oV (zg e g4 e) (hJ3 h 6)))))))))))))))
 ·refine rn (zd h e (λ_ h=>?_) (λ_ h=>wk (ws (oV (vI e GTab.f3 zfD a_t.types) (oV (zb ty29 e) (om e (za h λy5 hy5 h=>oV (vX e e sl29 hy5) (oV (zb ty129 e) (oT (tS ty129 e e p0 y5 (rn (zbM (ze (.cell e .here ty129 .nil) k0 (iS h ▸ ⟨e,e⟩))))))))))))))
  exact ws (oV (zam (z:=(GTyp.mk (0:Int) ([]:(List Tag)) (GCon.mk false false false false (0:Int) (0:Int)) ([]:(List GItem)) ([]:(List GFld)) (0:Int) false (0:Int))) e bu129 ze129 .nil) (oT (tS ty129 e e p0 ⟨0,[],⟨false,false,false,false,0,0⟩,[],[],0,false,0⟩ (rn (zbM (zF (ze (.cell e .here ty129 .nil) k0 (iS h ▸ ⟨e,e⟩))))))))
 exact oN g4 (oN g4 (oN g4 (oN g4 (oN g4 (oV (zh e g4 e) (hJ3 h 6))))))


theorem zni {ze5 a_to r} (h:zgo ze5 a_to=some r):Ctr Tryz.prog 220 [isv ze5,isv a_to] [] (Pt1 (λu1=>[vecv u1 ((r).length)]) λu1=>[vecE u1 r]):=by
 unfold zgo at h
 refine zi Tryz.func220 e λw0 S0 hT=>ws (oa e (zaf (zg4 (α:=Int)) (zaf (zcB 4 e nilvV) (rn (ws (oa e (zaf (zg4 (α:=Int)) (zaf (zcB 5 e nilvV) (rn (ss (om e (an e (zn (lP h Vt none (λq3 g3=>[(5,vecv g3 (q3.1.length)),(6,isv q3.2)]) (λq3 g3=>[vecE g3 q3.1]) (zA (j:=5) e (vecvE (by first | rfl | simp)) (zA (j:=6) e hI zat)) k1 λL4 q3 g3 Q13 h hL4 eL4 rL4=>ss (om e (om e (oV (zas e e) (rn (zd h e (λ_ h=>?_) (λ_ h=>xn (eL4 _ _ (zu (zp (ws (om e (ar e (ze (.as e (vecvE (by first | rfl | simp)) .nil) k1 ?_)))))))))))))))))))))))))))
 ·exact wk (zE (zn (zj (om e (om e (oT (zB (l:=([q3.2]:(List Int))) el28 (.cons e hI .nil) e e (zap h λq11 h=>oT (zi9 (m:=([q3.2]:(List Int))) zgd e e zx .here (by first | rfl | simp) q11 λv10=>oa e (rb (zp (zj (om e (zy h λq12 h=>oV (zY e e q12) (oa e (zO (hL4 h v10 13)))))))))))))))))
 exact iS h ▸ ⟨g3,e,e⟩


theorem zk6 {a_t a_i r} (h:zf5 a_t a_i=some r):Ctr Tryz.prog 191 [isv a_t,isv a_i] [] (Pt [isv r] []):=by
 unfold zf5 at h
 refine zi Tryz.func191 e λw0 S0 hT=>ws (oT (tB e (oa e (zaf (zbx) (zaf (zg4 (α:=NL Int)) (zaf (zcB 4 e nilvV) (rn (ws (oV (zb ty31 e) (om e (za h λy3 hy3 h=>oT (tC (zoi hy3) hT (s2 e e) k0 (oT (zV _ ze129 λb4=>oT (tS ty129 e e p0 y3 (zaf (zaF 5 .here e) (rn (ss (oV (vI e GTyp.f0 zdB y3.kind) (oV (zb ty3 e) (oV (zbt e e) (om e (jO 4 21 h (λq5 h=>?_) λJ6 h hJ6=>oI h (λg7 h=>?_) λg7 h=>oN g7 (oN g7 (oN g7 (oV (zg e g7 e) (hJ6 h 4)))))))))))))))))))))))))))
 ·refine om e (jO 4 26 h (λq8 h=>?_) λJ9 h hJ9=>oI h (λg10 h=>?_) λg10 h=>oN g10 (oN g10 (oN g10 (oV (zg e g10 e) (hJ9 h 4)))))
  ·refine rn (zd h e (λ_ h=>?_) (λ_ h=>wk (ws (oa e (zaf (zbx) (zaf (zg4 (α:=NL Int)) (zaf (zcB 6 e nilvV) (rn (ss (oV (vI e GTyp.f5 zh4 y3.root) (oV (zb ty3 e) (oV (zvG e e) (oV (vI e GTyp.f4 zbd y3.fields) (oV (zb ty127 e) (oV (vN e sl127) (za h λy15 hy15 h=>oT (tC1 (zni hy15) hT (s2 e e) k0 (λv16=>oV (zhM sl28 e) (om e (rn (zn (lP h (Vt × Tok) (none,none) (λq17 g17=>[(6,vecv g17.1 (q17.1.length)),(35,isv q17.2)]) (λq17 g17=>[vecE g17.1 (nestL g17.2 (q17.1:List (List Int))),tokE g17.2]) (zA (j:=6) e (vecvE (by first | rfl | simp)) (zA (j:=35) e hI zat)) (a1 (a1 k0)) λL18 q17 g17 Q79 h hL18 eL18 rL18=>ws (oV (zas e e) (rn (zE (zd h e (λ_ h=>?_) (λ_ h=>xn (eL18 _ _ ?_))))))))))))))))))))))))))))
   ·exact ws (oa e (zaf (zbx) (zaf (zg4 (α:=NL Int)) (zaf (zcB 4 e nilvV) (rn (zbM (zF (zm7 (zlF 4 .here e (by first | rfl | simp)) (zm7 (zcB 4 e (zqk (t:=none) (L:=(([]:(List (List Int))):List (List Int))))) (ze (r1 e) k0 (iS h ▸ ⟨e,e⟩)))))))))))
   ·refine wk (zE (jw h (Vt × Tok) (λq49 g49=>[(6,vecv g49.1 (q49.length))]) (λq49 g49=>[vecE g49.1 (nestL g49.2 (q49:List (List Int))),tokE g49.2]) k2 (λq49 g49 h=>?_) λJ50 h hJ50=>zn (ws (zah h λq51 h=>oV (zdH (α:=Int) sl28 e e q51.1 q51.2) (za h λy52 hy52 h=>oT (zeI ty3 e (.there (.there .here)) hy52 (an e (ws (om e (oV (zhM sl178 e) (zy h λq53 h=>oV (zhd e e q53) (an e (ss (oV (vI e GTyp.f4 zbd y3.fields) (oV (zb ty127 e) (om e (za h λy54 hy54 h=>oV (vX e e sl127 hy54) (oV (vI e GFld.f5 zng y54.group) (oV (zb ty3 e) (an e (ws (oV (vI e GTyp.f0 zdB y3.kind) (oV (zb ty3 e) (oV (zbt e e) (om e ?_)))))))))))))))))))))))))
    ·exact zj (zy h λq78 h=>oV (zY e e q78) (om e (zO (hL18 h (g49.1,g49.2) 6))))
    refine jO 3 54 h (λq55 h=>?_) λJ56 h hJ56=>oI h (λg57 h=>?_) λg57 h=>oN g57 (oN g57 (oV (zg e g57 e) (hJ56 h 3)))
    ·refine om e (jO 3 58 h (λq58 h=>?_) λJ59 h hJ59=>oI h (λg60 h=>?_) λg60 h=>oN g60 (oN g60 (oV (zg e g60 e) (hJ59 h 3))))
     ·refine om e (jO 10 69 h (λq61 h=>?_) λJ62 h hJ62=>oI h (λg63 h=>?_) λg63 h=>oN g63 (oN g63 (oN g63 (oN g63 (oN g63 (oN g63 (oN g63 (oN g63 (oN g63 (oV (zg e g63 e) (hJ62 h 10)))))))))))
      ·refine rn (zd h e (λ_ h=>?_) (λ_ h=>wk (zj (om e (om e (oT (zB (l:=([y52]:(List Int))) el28 (.cons e hI .nil) e e (zaf (zbx) (oT (zB (l:=[NL.mk (([y52]:(List Int))) (some none)]) el178 (.cons e ztO .nil) e e (zap h λq77 h=>oT (zi9 (m:=[NL.mk (([y52]:(List Int))) (some none)]) zoG e e zx (.there .here) (by first | rfl | simp) (by rw [zgn];exact q77) λv76=>zaf (ztl .here) (zaf (zcB (R':=vecv v76 (q17.1 ++ [([y52]:(List Int))]).length) 84 e (vecvE (by simp))) (oa e (rb (hJ50 h (v76,none) 30))))))))))))))))
       exact ws (om e (om e (om e (om e (zah h λq66 h=>oV (zdH (α:=NL Int) sl178 e e q66.1 q66.2) (zah h λq67 h=>za h λy68 hy68 h=>oT (zeI ty28 e .here (zlq q67 hy68) (zaf (zcB 75 e zvU) (om e (oT (zB (l:=([y52]:(List Int))) el28 (.cons e hI .nil) e e (zap h λq71 h=>oT (zcg (l:=y68) (m:=([y52]:(List Int))) zgd e hI e zx (.there .here) q71 λt70=>zah h λq72 h=>oV (zdH (α:=NL Int) sl178 e e q72.1 q72.2) (zah h λq73 h=>za h λy74 hy74 h=>zaf (zcB 78 e ztO) (oT (zeS ty28 e e (.there .here) (zlq q73 hy74) (zaf (ztw .here (zoF q73)) (zaf (zcB (R':=vecv g17.1 (q17.1.set ((((q17.1.length:Nat):Int) - (1:Int)).toNat) (y68 ++ ([y52]:(List Int)))).length) 6 e (vecvE (by simp))) (zaf (zcB (R':=vecv g17.1 (q17.1.set ((((q17.1.length:Nat):Int) - (1:Int)).toNat) (y68 ++ ([y52]:(List Int)))).length) 39 e (vecvE (by simp))) (zaf (zcB (R':=vecv g17.1 (q17.1.set ((((q17.1.length:Nat):Int) - (1:Int)).toNat) (y68 ++ ([y52]:(List Int)))).length) 70 e (vecvE (by simp))) (zaf (zcB (R':=vecv g17.1 (q17.1.set ((((q17.1.length:Nat):Int) - (1:Int)).toNat) (y68 ++ ([y52]:(List Int)))).length) 72 e (vecvE (by simp))) (rn (xn (zu (hJ50 h (g17.1,t70) 39)))))))))))))))))))))))))
      exact oG g63 (vI e GTyp.f4 zbd y3.fields) (oG g63 (zb ty127 e) (oG g63 (zm e) (zy h λq64 h=>oG g63 (zhd e e q64) (za h λy65 hy65 h=>oG g63 (vX e e sl127 hy65) (oG g63 (vI e GFld.f5 zng y65.group) (oG g63 (zb ty3 e) (oG g63 (zm e) (oG g63 (zM e e) (oV (zh e g63 e) (hJ62 h 10))))))))))
     exact oG g60 (zm e) (oG g60 (zdP e e) (oV (zh e g60 e) (hJ59 h 3)))
    exact oG g57 (zm e) (oG g57 (zcl e e) (oV (zh e g57 e) (hJ56 h 3)))
   exact zu (zp (ws (om e (ar e (zm7 (zlF 4 .here e (by first | rfl | simp)) (zm7 (zcB 4 e (zqk (t:=g17.2) (L:=(q17.1:List (List Int))))) (ze (r1 e) k0 (iS h ▸ ⟨e,e⟩))))))))
  exact oG g10 (vI e GTyp.f0 zdB y3.kind) (oG g10 (zb ty3 e) (oG g10 (zbt e e) (oV (zh e g10 e) (hJ9 h 4))))
 exact oG g7 (vI e GTyp.f0 zdB y3.kind) (oG g7 (zb ty3 e) (oG g7 (zbt e e) (oV (zh e g7 e) (hJ6 h 4))))


theorem zqP {a_a a_b r} (h:zml a_a a_b=some r):Ctr Tryz.prog 192 [isv a_a,isv a_b] [] (Pt [isv r] []):=by
 unfold zml at h
 refine zi Tryz.func192 e λw0 S0 hT=>ws (oT (tB e (oT (tB e (an e (ss (oV (vI e Tag.f0 zkH a_a.cls) (oV (zb ty3 e) (oV (vI e Tag.f0 zkH a_b.cls) (oV (zb ty3 e) (oV (zbt e e) (rn (zd h e (λ_ h=>?_) (λ_ h=>wk (ws (oV (vI e Tag.f1 zfO a_a.num) (oV (zb ty3 e) (oV (vI e Tag.f1 zfO a_b.num) (oV (zb ty3 e) (oV (zas e e) (ar e (ze (r1 e) k0 (iS h ▸ ⟨e,e⟩)))))))))))))))))))))))
 exact ws (oV (vI e Tag.f0 zkH a_a.cls) (oV (zb ty3 e) (oV (vI e Tag.f0 zkH a_b.cls) (oV (zb ty3 e) (oV (zas e e) (ar e (zF (ze (r1 e) k0 (iS h ▸ ⟨e,e⟩)))))))))

end Go.Proofs.Q


namespace Go.Proofs.Q
open Go.Sy
set_option maxRecDepth 4000
theorem zj7 {a_c a_i a_v zcA r} (h:zeD a_c a_i a_v=some r):Ctr Tryz.prog 158 [ptrv zcA (Fld.id GChk),isv a_i,isv a_v] [boxE zcA (a_c:GChk)] (Pt [isv r.1] [boxE zcA (r.2)]):=by
 unfold zeD at h
 refine zi Tryz.func158 e λw0 S0 hT=>ws (oT (tB e (an e (ws (om e (oV (zf e) (oV (zw e GChk.f0 zgB) (oV (zw e GTbd.f0 zgg) (oV (zw e GTab.f3 zfD) (oT (tL ty29 e p0 a_c.tabled.t.types (om e (za h λy1 hy1 h=>oV (vX e e sl29 hy1) (oV (zb ty129 e) (oT (zV _ ze129 λb2=>oT (tS ty129 e e p0 y1 (zaf (zaF 7 .here e) (rn (ss (oV (vI e Val.f5 zjo a_v.more) (oV (zb ty24 e) (oV (vN e sl24) (oV (zM e e) (rn (zd h e (λ_ h=>?_) (λ_ h=>wk (ss (oV (vI e GTyp.f6 zkK y1.more) (oV (zb ty4 e) ?_))))))))))))))))))))))))))))))
 ·exact ws (oV (vI e Val.f4 zgP a_v.rule) (oV (zb ty3 e) (oV (zM e e) (ar e (zF (ze (r1 e) k1 (iS h ▸ ⟨e,e⟩)))))))
 refine oV (zaX e) (om e (jO 9 42 h (λq3 h=>?_) λJ4 h hJ4=>oI h (λg5 h=>?_) λg5 h=>oG g5 (vI e Val.f4 zgP a_v.rule) (oG g5 (zb ty3 e) (oG g5 (zbt e e) (oG g5 (zm e) (jO 4 41 h (λq6 h=>?_) λJ7 h hJ7=>oI h (λg8 h=>?_) λg8 h=>oN g8 (oN g8 (oN g8 (oG g5 (zg e g8 e) (hJ7 h 4))))))))))
 ·refine rn (zd h e (λ_ h=>?_) (λ_ h=>wk (ws (om e (oV (zf e) (oV (zw e GChk.f0 zgB) (oV (zw e GTbd.f0 zgg) (oT (tL ty31 e p0 a_c.tabled.t (om e (za h λy9 hy9 h=>oT (tC (zk6 hy9) hT (s2 e e) k0 (oV (vN e sl178) (an e (ws (oT (zV _ ze206 λb10=>rn (ss (oV (vI e Val.f5 zjo a_v.more) (oV (zb ty24 e) (oV (vN e sl24) (om e (rn (zn (lP h Unit () (λq11 g11=>[(8,isv q11.1),(54,isv q11.2.1)]) (λq11 g11=>[boxE b10 (q11.2.2.1:Tag),boxE zcA (q11.2.2.2:GChk)]) (zA (j:=8) e hI (zA (j:=54) e hI zat)) k2 λL12 q11 g11 Q69 h hL12 eL12 rL12=>ws (oV (zas e e) (rn (zE (zd h e (λ_ h=>?_) (λ_ h=>?_))))))))))))))))))))))))))))))
  ·exact ws (ar e (zF (ze (r1 e) k1 (iS h ▸ ⟨e,e⟩))))
  ·refine wk (zE (jw h Unit (λq41 g41=>[(8,isv q41.1)]) (λq41 g41=>[boxE b10 (q41.2.1:Tag),boxE zcA (q41.2.2:GChk)]) k2 (λq41 g41 h=>?_) λJ42 h hJ42=>zn (ws (om e (za h λy43 hy43 h=>oV (vX e e sl24 hy43) (oV (zb ty92 e) (oT (zV _ ze92 λb44=>oa e (oT (tS ty92 e e p0 y43 (zaf (zaF 11 .here e) (rn (ss (oV (vI e Val.f4 zgP a_v.rule) (oV (zb ty3 e) (oV (zM e e) (rn (zd h e (λ_ h=>?_) (λ_ h=>wk (ws (om e (om e (oV (vI e Raw.f1 zmp y43.b) (oV (zb ty22 e) (za h λy53 hy53 h=>oT (tC (zga hy53) hT (s3 e e e) (a1 k0) (om e (oV (zr e e) ?_))))))))))))))))))))))))))))
   ·exact zj (zy h λq68 h=>oV (zY e e q68) (om e (zO (hL12 h () 6))))
   ·refine ss (oV (vI e Raw.f0 zj1 y43.n) (oV (zb ty3 e) (om e (oV (zas e e) (om e (jO 4 70 h (λq45 h=>?_) λJ46 h hJ46=>oI h (λg47 h=>?_) λg47 h=>oG g47 (vI e Raw.f0 zj1 y43.n) (oG g47 (zb ty3 e) (oG g47 (zdP e e) (oV (zg e g47 e) (hJ46 h 4))))))))))
    ·refine om e (jO 5 76 h (λq48 h=>?_) λJ49 h hJ49=>oI h (λg50 h=>?_) λg50 h=>oG g50 (vI e Raw.f1 zmp y43.b) (oG g50 (zb ty22 e) (za h λy51 hy51 h=>oH g50 (tC (zlV hy51) hT (s1 e) k0 (oG g50 (zaX e) (oV (zg e g50 e) (hJ49 h 5)))))))
     ·refine rn (zd h e (λ_ h=>?_) (λ_ h=>wk (ws (oV (vI e Raw.f0 zj1 y43.n) (oV (zb ty3 e) (zy h λq52 h=>oV (zY e e q52) (an e (xn (zu (hJ42 h () 21))))))))))
      exact ws (ar e (zF (zF (bn (rL12 _ (bn (ze (r1 e) (a1 k0) (iS h ▸ ⟨e,e⟩))))))))
     exact oN g50 (oN g50 (oN g50 (oN g50 (oV (zh e g50 e) (hJ49 h 5)))))
    exact oN g47 (oN g47 (oN g47 (oV (zh e g47 e) (hJ46 h 4))))
   refine oV (zr e e) (oT (zV _ ze206 λb54=>oT (tS ty206 e e p0 y53.1 (zaf (zaF 12 .here e) (an e (ss (om e (oV (zaX e) (om e (jO 4 94 h (λq55 h=>?_) λJ56 h hJ56=>oI h (λg57 h=>?_) λg57 h=>oG g57 (vI e Raw.f0 zj1 y43.n) (oG g57 (zb ty3 e) (oG g57 (zbt e e) (oV (zg e g57 e) (hJ56 h 4))))))))))))))
   ·refine om e (jO 14 109 h (λq58 h=>?_) λJ59 h hJ59=>oI h (λg60 h=>?_) λg60 h=>oG g60 (vI e GTyp.f0 zdB y1.kind) (oG g60 (zb ty3 e) (oG g60 (zM e e) (oG g60 (zm e) (jO 3 102 h (λq61 h=>?_) λJ62 h hJ62=>oI h (λg63 h=>?_) λg63 h=>oN g63 (oN g63 (oG g60 (zg e g63 e) (hJ62 h 3))))))))
    ·refine rn (zd h e (λ_ h=>?_) (λ_ h=>wk (zj (oV (zb ty206 e) (oT (tS ty206 e e p1 y53.1 (rb (hJ42 h () 27))))))))
     exact ws (ar e (zF (bn (rL12 _ (bn (ze (r1 e) k1 (iS h ▸ ⟨e,e⟩)))))))
    ·exact oN g60 (oN g60 (oN g60 (oN g60 (oU (oU (oN g60 (oN g60 (oU (oU (oU (oU (oN g60 (oV (zh e g60 e) (hJ59 h 14))))))))))))))
    ·refine oG g60 (zm e) (jO 5 108 h (λq64 h=>?_) λJ65 h hJ65=>oI h (λg66 h=>?_) λg66 h=>oN g66 (oN g66 (oN g66 (oN g66 (oG g60 (zg e g66 e) (hJ65 h 5))))))
     ·exact oV (zg e g60 e) (hJ59 h 8)
     exact oH g66 (tL ty206 e p1 q11.2.2.1 (oG g66 (zb ty206 e) (za h λy67 hy67 h=>oH g66 (tC (zqP hy67) hT (s2 e e) k0 (oG g66 (zaX e) (oG g60 (zh e g66 e) (hJ65 h 5)))))))
    exact oG g63 (zm e) (oG g63 (zcl e e) (oG g60 (zh e g63 e) (hJ62 h 3)))
   exact oN g57 (oN g57 (oN g57 (oV (zh e g57 e) (hJ56 h 4))))
  exact xn (eL12 _ _ (zu (zp (ws (ar e (ze (r1 e) (a1 k0) (iS h ▸ ⟨e,e⟩)))))))
 ·exact oN g5 (oN g5 (oN g5 (oN g5 (oU (oU (oU (oN g5 (oV (zh e g5 e) (hJ4 h 9)))))))))
 ·exact oV (zg e g5 e) (hJ4 h 6)
 exact oG g8 (vI e Val.f4 zgP a_v.rule) (oG g8 (zb ty3 e) (oG g8 (zbt e e) (oG g5 (zh e g8 e) (hJ7 h 4))))


theorem zh0 {a_v r} (h:zeO a_v=some r):Ctr Tryz.prog 61 [isv a_v] [] (Pt [isv r] []):=by
 unfold zeO at h
 refine zi Tryz.func61 e λw0 S0 hT=>ws (oT (tB e (an e (ws (oV (vI e Val.f0 zdg a_v.kind) (oV (zb ty3 e) (oV (zM e e) (om e (jO 3 9 h (λq1 h=>?_) λJ2 h hJ2=>oI h (λg3 h=>?_) λg3 h=>oN g3 (oN g3 (oV (zg e g3 e) (hJ2 h 3))))))))))))
 ·exact ar e (ze (r1 e) k0 (iS h ▸ ⟨e,e⟩))
 exact oG g3 (zb ty26 e) (za h λy4 hy4 h=>oH g3 (tC (zdm hy4) hT (s2 e e) k0 (oV (zh e g3 e) (hJ2 h 3))))


theorem zk3 {a_a a_b r} (h:zih a_a a_b=some r):Ctr Tryz.prog 170 [isv a_a,isv a_b] [] (Pt [isv r] []):=by
 unfold zih at h
 exact zi Tryz.func170 e λw0 S0 hT=>ws (an e (ws (om e (oV (zor (l:=a_a) Tryz.underlying22 Tryz.underlying5 Tryz.underlying9 e hI) (om e (oV (zor (l:=a_b) Tryz.underlying22 Tryz.underlying5 Tryz.underlying9 e hI) (oV (zaT eq9 e e) (ar e (ze (r1 e) k0 (iS h ▸ ⟨e,e⟩))))))))))


theorem zmV {a_a a_b r} (h:zfJ a_a a_b=some r):Ctr Tryz.prog 173 [isv a_a,isv a_b] [] (Pt [isv r] []):=by
 unfold zfJ at h
 refine zi Tryz.func173 e λw0 S0 hT=>ws (oT (tB e (oT (tB e (an e (ws (oV (vI e Raw.f0 zj1 a_a.n) (oV (zb ty3 e) (oV (vI e Raw.f0 zj1 a_b.n) (oV (zb ty3 e) (oV (zM e e) (om e (jO 6 16 h (λq1 h=>?_) λJ2 h hJ2=>oI h (λg3 h=>?_) λg3 h=>oN g3 (oN g3 (oN g3 (oN g3 (oN g3 (oV (zg e g3 e) (hJ2 h 6)))))))))))))))))))
 ·exact ar e (ze (r1 e) k0 (iS h ▸ ⟨e,e⟩))
 exact oG g3 (vI e Raw.f1 zmp a_a.b) (oG g3 (zb ty22 e) (oG g3 (vI e Raw.f1 zmp a_b.b) (oG g3 (zb ty22 e) (za h λy4 hy4 h=>oH g3 (tC (zk3 hy4) hT (s2 e e) k0 (oV (zh e g3 e) (hJ2 h 6)))))))


theorem zdM {a_s1 a_s2 r} (h:zaU a_s1 a_s2=some r):Ctr Tryz.prog 172 [isv a_s1,isv a_s2,clov 173 []] [] (Pt [isv r] []):=by
 unfold zaU at h
 refine zi Tryz.func172 e λw0 S0 hT=>ws (an e (ss (om e (oV (vN e sl24) (om e (oV (vN e sl24) (oV (zbt e e) (rn (zd h e (λ_ h=>?_) (λ_ h=>wk (ss (om e (oV (vN e sl24) (om e (rn (zn (lO 17 h e λL2 q1 Q15 h hL2 eL2 rL2=>ws (oV (zas e e) (rn (zE (zd h e (λ_ h=>?_) (λ_ h=>xn (eL2 _ _ (zu (zp (ws (ar e ?_)))))))))))))))))))))))))))
 ·exact ws (ar e (zF (ze (r1 e) k0 (iS h ▸ ⟨e,e⟩))))
 ·refine wk (zE (zn (ws (om e (za h λy9 hy9 h=>oV (vX e e sl24 hy9) (oV (zb ty92 e) (oT (zV _ ze92 λb10=>oa e (oT (tS ty92 e e p0 y9 (zaf (zaF 8 .here e) (rn (ws (om e (om e (za h λy11 hy11 h=>oV (vX e e sl24 hy11) (oV (zb ty92 e) (oT (zV _ ze92 λb12=>oT (tS ty92 e e p0 y11 (zaf (zaF 9 .here e) (rn (ws (om e (oV (zb ty92 e) (oV (zb ty92 e) (za h λy13 hy13 h=>oT (zfr e (.same e (.same e .nil)) (zmV hy13) hT .nil (λR H' hR=>?_)))))))))))))))))))))))))))))
  obtain ⟨rfl,rfl⟩:=hR
  refine oV (zaX e) (rn (zd h e (λ_ h=>?_) (λ_ h=>zC (zs (zp (zj (zy h λq14 h=>oV (zY e e q14) (om e (zO (hL2 h 21))))))))))
  exact ws (ar e (bn (rL2 _ (bn (ze (r1 e) k0 (iS h ▸ ⟨e,e⟩))))))
 exact ze (r1 e) k0 (iS h ▸ ⟨e,e⟩)


def zgh (f':Val->Val->Option (Bool)):Prop :=
 ∀ {a_a a_b r},f' a_a a_b=some r->Ctr Tryz.prog 130 [isv a_a,isv a_b] [] (Pt [isv r] [])
def zaz (f':(List Val)->(List Val)->Option (Bool)):Prop :=
 ∀ {a_s1 a_s2 r},f' a_s1 a_s2=some r->Ctr Tryz.prog 171 [isv a_s1,isv a_s2,clov 130 []] [] (Pt [isv r] [])
theorem zod {zeA zI} (zlx:zgh zeA) (zbz:zaz zI):zgh (zgv zeA zI):=by
 intro a_a a_b r h
 unfold zgv at h
 refine zi Tryz.func130 e λw0 S0 hT=>ws (oT (tB e (oT (tB e (an e (ws (oV (vI e Val.f0 zdg a_a.kind) (oV (zb ty3 e) (oV (vI e Val.f0 zdg a_b.kind) (oV (zb ty3 e) (oV (zM e e) (om e (jO 6 16 h (λq1 h=>?_) λJ2 h hJ2=>oI h (λg3 h=>?_) λg3 h=>oN g3 (oN g3 (oN g3 (oN g3 (oN g3 (oV (zg e g3 e) (hJ2 h 6)))))))))))))))))))
 ·refine om e (jO 6 23 h (λq4 h=>?_) λJ5 h hJ5=>oI h (λg6 h=>?_) λg6 h=>oN g6 (oN g6 (oN g6 (oN g6 (oN g6 (oV (zg e g6 e) (hJ5 h 6)))))))
  ·refine om e (jO 6 30 h (λq8 h=>?_) λJ9 h hJ9=>oI h (λg10 h=>?_) λg10 h=>oN g10 (oN g10 (oN g10 (oN g10 (oN g10 (oV (zg e g10 e) (hJ9 h 6)))))))
   ·refine om e (jO 6 37 h (λq12 h=>?_) λJ13 h hJ13=>oI h (λg14 h=>?_) λg14 h=>oN g14 (oN g14 (oN g14 (oN g14 (oN g14 (oV (zg e g14 e) (hJ13 h 6)))))))
    ·refine om e (jO 6 44 h (λq15 h=>?_) λJ16 h hJ16=>oI h (λg17 h=>?_) λg17 h=>oN g17 (oN g17 (oN g17 (oN g17 (oN g17 (oV (zg e g17 e) (hJ16 h 6)))))))
     ·exact ar e (ze (r1 e) k0 (iS h ▸ ⟨e,e⟩))
     exact oG g17 (vI e Val.f5 zjo a_a.more) (oG g17 (zb ty24 e) (oG g17 (vI e Val.f5 zjo a_b.more) (oG g17 (zb ty24 e) (za h λy18 hy18 h=>oH g17 (tC (zdM hy18) hT (s3 e e e) k0 (oV (zh e g17 e) (hJ16 h 6)))))))
    exact oG g14 (vI e Val.f4 zgP a_a.rule) (oG g14 (zb ty3 e) (oG g14 (vI e Val.f4 zgP a_b.rule) (oG g14 (zb ty3 e) (oG g14 (zM e e) (oV (zh e g14 e) (hJ13 h 6))))))
   exact oG g10 (vI e Val.f3 zcS a_a.l) (oG g10 (zb ty23 e) (oG g10 (vI e Val.f3 zcS a_b.l) (oG g10 (zb ty23 e) (za h λy11 hy11 h=>oH g10 (tC (zbz hy11) hT (s3 e e e) k0 (oV (zh e g10 e) (hJ9 h 6)))))))
  exact oG g6 (vI e Val.f2 zdp a_a.b) (oG g6 (zb ty22 e) (oG g6 (vI e Val.f2 zdp a_b.b) (oG g6 (zb ty22 e) (za h λy7 hy7 h=>oH g6 (tC (zk3 hy7) hT (s2 e e) k0 (oV (zh e g6 e) (hJ5 h 6)))))))
 exact oG g3 (vI e Val.f1 zcy a_a.n) (oG g3 (zb ty2 e) (oG g3 (vI e Val.f1 zcy a_b.n) (oG g3 (zb ty2 e) (oG g3 (zM e e) (oV (zh e g3 e) (hJ2 h 6))))))

theorem zc6 {zeA zI} (zlx:zgh zeA) (zbz:zaz zI):zaz (zao zeA zI):=by
 intro a_s1 a_s2 r h
 unfold zao at h
 refine zi Tryz.func171 e λw0 S0 hT=>ws (an e (ss (om e (oV (vN e sl23) (om e (oV (vN e sl23) (oV (zbt e e) (rn (zd h e (λ_ h=>?_) (λ_ h=>wk (ss (om e (oV (vN e sl23) (om e (rn (zn (lO 17 h e λL2 q1 Q15 h hL2 eL2 rL2=>ws (oV (zas e e) (rn (zE (zd h e (λ_ h=>?_) (λ_ h=>xn (eL2 _ _ (zu (zp (ws (ar e ?_)))))))))))))))))))))))))))
 ·exact ws (ar e (zF (ze (r1 e) k0 (iS h ▸ ⟨e,e⟩))))
 ·refine wk (zE (zn (ws (om e (za h λy9 hy9 h=>oV (vX e e sl23 hy9) (oV (zb ty26 e) (oT (zV _ ze26 λb10=>oa e (oT (tS ty26 e e p0 y9 (zaf (zaF 8 .here e) (rn (ws (om e (om e (za h λy11 hy11 h=>oV (vX e e sl23 hy11) (oV (zb ty26 e) (oT (zV _ ze26 λb12=>oT (tS ty26 e e p0 y11 (zaf (zaF 9 .here e) (rn (ws (om e (oV (zb ty26 e) (oV (zb ty26 e) (za h λy13 hy13 h=>oT (zfr e (.same e (.same e .nil)) (zlx hy13) hT .nil (λR H' hR=>?_)))))))))))))))))))))))))))))
  obtain ⟨rfl,rfl⟩:=hR
  refine oV (zaX e) (rn (zd h e (λ_ h=>?_) (λ_ h=>zC (zs (zp (zj (zy h λq14 h=>oV (zY e e q14) (om e (zO (hL2 h 21))))))))))
  exact ws (ar e (bn (rL2 _ (bn (ze (r1 e) k0 (iS h ▸ ⟨e,e⟩))))))
 exact ze (r1 e) k0 (iS h ▸ ⟨e,e⟩)

theorem zi1:∀ n,zgh (zfU n)/\zaz (za1 n)
  | 0=>⟨λh=>(by cases h),λh=>(by cases h)⟩
  | n + 1=>by
    obtain ⟨h0,h1⟩:=zi1 n
    exact ⟨zod h0 h1,zc6 h0 h1⟩
theorem zlY (n:Nat):zgh (zfU n):=(zi1 n).1
theorem zjx {a_c a_i a_v zcA r} (h:zdv a_c a_i a_v=some r):Ctr Tryz.prog 160 [ptrv zcA (Fld.id GChk),isv a_i,isv a_v] [boxE zcA (a_c:GChk)] (Pt [isv r.1] [boxE zcA (r.2)]):=by
 unfold zdv at h
 refine zi Tryz.func160 e λw0 S0 hT=>ws (oT (tB e (an e (ws (om e (oV (zf e) (oV (zw e GChk.f0 zgB) (oV (zw e GTbd.f0 zgg) (oV (zw e GTab.f3 zfD) (oT (tL ty29 e p0 a_c.tabled.t.types (om e (za h λy1 hy1 h=>oV (vX e e sl29 hy1) (oV (zb ty129 e) (oT (zV _ ze129 λb2=>oT (tS ty129 e e p0 y1 (zaf (zaF 7 .here e) (rn (ss (om e (oV (zf e) (oV (zw e GChk.f0 zgB) (oV (zw e GTbd.f0 zgg) (oT (tL ty31 e p0 a_c.tabled.t (om e (za h λy3 hy3 h=>oT (tC (zk6 hy3) hT (s2 e e) k0 (oV (vN e sl178) (om e ?_)))))))))))))))))))))))))))))))
 refine rn (zn (lO 32 h e λL5 q4 Q90 h hL5 eL5 rL5=>ws (oV (zas e e) (rn (zE (zd h e (λ_ h=>?_) (λ_ h=>xn (eL5 _ _ (zu (zp (ws (ar e (ze (r1 e) k1 (iS h ▸ ⟨e,e⟩))))))))))))))
 refine wk (zE (jw h Unit (λq48 g48=>[]) (λq48 g48=>[]) k0 (λq48 g48 h=>?_) λJ49 h hJ49=>zn (ws (za h λy50 hy50 h=>oV (vX e e sl178 hy50) (oV (zb ty28 e) (an e (zE (zE (zG (.v 0 (.v 1 (.v 2 (.v 3 (.v 4 (.v 5 (.v 6 (.v 7 (.v 8 .nil))))))))) moOrd (by kernel_rfl) (zl e (vI e GTyp.f4 zbd y1.fields) (zl e (zb ty127 e) (rm e e (za h λy51 hy51 h=>zl e (vX e e sl28 hy51) (zl e (zb ty3 e) (za h λy52 hy52 h=>zl e (vX e e sl127 hy52) (zl e (vI e GFld.f5 zng y52.group) (zl e (zb ty3 e) (zl e (zM e e) (zaj (zp (zd h e (λ_ h=>?_) (λ_ h=>wk (ws (oa e (an e ?_)))))))))))))))))))))))))
 ·exact zj (zy h λq89 h=>oV (zY e e q89) (om e (zO (hL5 h 4))))
 ·exact xn (zu (hJ49 h () 12))
 refine ss (om e (oV (vN e sl28) (om e (rn (zn (lP h Unit () (λq53 g53=>[(10,isv q53.1),(11,isv q53.2.1),(47,isv q53.2.2)]) (λq53 g53=>[]) (zA (j:=10) e hI (zA (j:=11) e hI (zA (j:=47) e hI zat))) k0 λL54 q53 g53 Q88 h hL54 eL54 rL54=>ws (oV (zas e e) (rn (zE (zd h e (λ_ h=>?_) (λ_ h=>xn (eL54 _ _ (zu (zp (ws (om e (om e (jO 2 89 h (λq85 h=>?_) λJ86 h hJ86=>oI h (λg87 h=>?_) λg87 h=>oN g87 (oV (zg e g87 e) (hJ86 h 2))))))))))))))))))))
 ·refine wk (zE (zn (ws (za h λy67 hy67 h=>oV (vX e e sl28 hy67) (oV (zb ty3 e) (an e (ws (oV (vI e Val.f3 zcS a_v.l) (oV (zb ty23 e) (om e (za h λy68 hy68 h=>oV (vX e e sl23 hy68) (oV (zb ty26 e) (za h λy69 hy69 h=>oT (tC (zh0 hy69) hT (s1 e) k0 (oV (zaX e) (an e (ws (om e (om e (jO 2 61 h (λq70 h=>?_) λJ71 h hJ71=>oI h (λg72 h=>?_) λg72 h=>oG g72 (zm e) (oV (zg e g72 e) (hJ71 h 2))))))))))))))))))))))
  ·refine an e (zj (om e (om e (jO 21 84 h (λq73 h=>?_) λJ74 h hJ74=>oI h (λg75 h=>?_) λg75 h=>oG g75 (zm e) (oG g75 (zaX e) (oG g75 (zm e) (jO 8 74 h (λq76 h=>?_) λJ77 h hJ77=>oI h (λg78 h=>?_) λg78 h=>oN g78 (oN g78 (oN g78 (oN g78 (oN g78 (oN g78 (oN g78 (oG g75 (zg e g78 e) (hJ77 h 8)))))))))))))))
   ·exact oa e (rb (zp (zj (zy h λq84 h=>oV (zY e e q84) (om e (zO (hL54 h () 25)))))))
   ·exact oN g75 (oN g75 (oN g75 (oU (oU (oU (oU (oU (oU (oU (oN g75 (oN g75 (oU (oU (oU (oU (oU (oU (oU (oN g75 (oV (zh e g75 e) (hJ74 h 21)))))))))))))))))))))
   ·refine oG g75 (zm e) (jO 8 83 h (λq80 h=>?_) λJ81 h hJ81=>oI h (λg82 h=>?_) λg82 h=>oN g82 (oN g82 (oN g82 (oN g82 (oN g82 (oN g82 (oN g82 (oG g75 (zg e g82 e) (hJ81 h 8)))))))))
    ·exact oV (zg e g75 e) (hJ74 h 7)
    exact oG g82 (vI e GTyp.f4 zbd y1.fields) (oG g82 (zb ty127 e) (oG g82 (zm e) (za h λy83 hy83 h=>oG g82 (vX e e sl127 hy83) (oG g82 (vI e GFld.f3 zjh y83.has) (oG g82 (zb ty4 e) (oG g82 (zaX e) (oG g75 (zh e g82 e) (hJ81 h 8))))))))
   exact oG g78 (vI e GTyp.f4 zbd y1.fields) (oG g78 (zb ty127 e) (oG g78 (zm e) (za h λy79 hy79 h=>oG g78 (vX e e sl127 hy79) (oG g78 (vI e GFld.f2 znd y79.optional) (oG g78 (zb ty4 e) (oG g78 (zaX e) (oG g75 (zh e g78 e) (hJ77 h 8))))))))
  exact oN g72 (oV (zh e g72 e) (hJ71 h 2))
 ·refine rn (zd h e (λ_ h=>?_) (λ_ h=>zC (zs (hJ49 h () 24))))
  exact ws (ar e (bn (rL5 _ (bn (ze (r1 e) k1 (iS h ▸ ⟨e,e⟩))))))
 exact oG g87 (zm e) (oV (zh e g87 e) (hJ86 h 2))


def zbk (f':Val->GChk->GTyp->Int->Option (Bool × GChk)):Prop :=
 ∀ {a_w_ a_a1 a_a2 a_a3 zfj r},f' a_w_ a_a1 a_a2 a_a3=some r->Ctr Tryz.prog 157 [isv a_w_,immv (PtrB.mk zfj),immv (a_a2),immv (a_a3)] [boxE zfj (a_a1:GChk)] (Pt [isv r.1] [boxE zfj (r.2)])
def zbq (f':GChk->Int->Val->Int->Option (Bool × GChk)):Prop :=
 ∀ {a_c a_i a_v zH zcA r},f' a_c a_i a_v zH=some r->Ctr Tryz.prog 52 [ptrv zcA (Fld.id GChk),isv a_i,isv a_v,isv zH] [boxE zcA (a_c:GChk)] (Pt [isv r.1] [boxE zcA (r.2)])
def zbS (f':GChk->GTyp->Val->Int->Option (Bool × GChk)):Prop :=
 ∀ {a_c a_x a_v zH zcA r},f' a_c a_x a_v zH=some r->Ctr Tryz.prog 108 [ptrv zcA (Fld.id GChk),isv a_x,isv a_v,isv zH] [boxE zcA (a_c:GChk)] (Pt [isv r.1] [boxE zcA (r.2)])
def zak (f':(List Val)->GChk->GTyp->Int->Option (Bool × GChk)):Prop :=
 ∀ {a_s zeB zfG zj2 zdN r},f' a_s zeB zfG zj2=some r->Ctr Tryz.prog 54 [isv a_s,clov 157 [immv (PtrB.mk zdN),immv (zfG),immv (zj2)]] [boxE zdN (zeB:GChk)] (Pt [isv r.1] [boxE zdN (r.2)])
def zaq (f':(List Val)->GChk->GTyp->Int->Option (Int × GChk)):Prop :=
 ∀ {a_s zeB zfG zj2 zdN r},f' a_s zeB zfG zj2=some r->Ctr Tryz.prog 110 [isv a_s,clov 157 [immv (PtrB.mk zdN),immv (zfG),immv (zj2)]] [boxE zdN (zeB:GChk)] (Pt [isv r.1] [boxE zdN (r.2)])
def zbo (f':GChk->Int->Val->Int->Option (Bool × GChk)):Prop :=
 ∀ {a_c a_i a_v zH zcA r},f' a_c a_i a_v zH=some r->Ctr Tryz.prog 109 [ptrv zcA (Fld.id GChk),isv a_i,isv a_v,isv zH] [boxE zcA (a_c:GChk)] (Pt [isv r.1] [boxE zcA (r.2)])
theorem zil {zK zS zZ zo zq zP} (zcb:zbk zK) (zbU:zbq zS) (zcL:zbS zZ) (zaD:zak zo) (zaK:zaq zq) (zco:zbo zP):zbk (zcI zK zS zZ zo zq zP):=by
 intro a_w_ a_a1 a_a2 a_a3 zfj r h
 unfold zcI at h
 exact zi Tryz.func157 e λw0 S0 hT=>ws (oT (tB e (an e (ws (oV (za4 (α:=GChk) ty116 e) (oV (vI e GTyp.f7 zm8 a_a2.of) (oV (zb ty3 e) (oV (zb ty26 e) (oV (zb ty3 e) (zy h λq1 h=>oV (zY e e q1) (za h λy2 hy2 h=>oT (tC (zbU hy2) hT (s4 e e e e) k1 (oV (zaX e) (ar e (ze (r1 e) k1 (iS h ▸ ⟨e,e⟩))))))))))))))))

theorem zjP {zK zS zZ zo zq zP} (zcb:zbk zK) (zbU:zbq zS) (zcL:zbS zZ) (zaD:zak zo) (zaK:zaq zq) (zco:zbo zP):zbq (zdu zK zS zZ zo zq zP):=by
 intro a_c a_i a_v zH zcA r h
 unfold zdu at h
 refine zi Tryz.func52 e λw0 S0 hT=>ws (oT (tB e (an e (ss (om e (oV (zas e e) (om e (jO 10 22 h (λq1 h=>?_) λJ2 h hJ2=>oI h (λg3 h=>?_) λg3 h=>oG g3 (zm e) (oG g3 (zm e) (oG g3 (zf e) (oG g3 (zw e GChk.f0 zgB) (oG g3 (zw e GTbd.f0 zgg) (oG g3 (zw e GTab.f3 zfD) (oH g3 (tL ty29 e p0 a_c.tabled.t.types (oG g3 (vN e sl29) (oG g3 (zdP e e) (oV (zg e g3 e) (hJ2 h 10)))))))))))))))))))
 ·refine om e (jO 3 26 h (λq4 h=>?_) λJ5 h hJ5=>oI h (λg6 h=>?_) λg6 h=>oG g6 (zm e) (oG g6 (zcl e e) (oV (zg e g6 e) (hJ5 h 3))))
  ·refine rn (zd h e (λ_ h=>?_) (λ_ h=>wk (ws (om e (oV (zf e) (oV (zw e GChk.f0 zgB) (oV (zw e GTbd.f0 zgg) (oV (zw e GTab.f3 zfD) (oT (tL ty29 e p0 a_c.tabled.t.types (om e (za h λy7 hy7 h=>oV (vX e e sl29 hy7) (oV (zb ty129 e) (oT (zV _ ze129 λb8=>oT (tS ty129 e e p0 y7 (zaf (zaF 9 .here e) (rn (ss (oV (vI e Val.f0 zdg a_v.kind) (oV (zb ty3 e) (oV (zM e e) (rn (zd h e (λ_ h=>?_) (λ_ h=>wk (ss (oV (vI e Val.f0 zdg a_v.kind) (oV (zb ty3 e) (oV (vI e GTyp.f0 zdB y7.kind) (oV (zb ty3 e) ?_))))))))))))))))))))))))))))))
   ·exact ws (ar e (zF (ze (r1 e) k1 (iS h ▸ ⟨e,e⟩))))
   ·exact ws (om e (om e (oV (zb ty26 e) (za h λy9 hy9 h=>oT (tC (ziI hy9) hT (s3 e e e) k1 (ar e (zF (ze (r1 e) k1 (iS h ▸ ⟨e,e⟩)))))))))
   refine oV (zbt e e) (rn (zd h e (λ_ h=>?_) (λ_ h=>wk (ss (oV (vI e GTyp.f0 zdB y7.kind) (oV (zb ty3 e) (rn (zn (ws (oV (zM e e) (an e (zd h e (λ_ h=>?_) (λ_ h=>ws (oV (zM e e) (an e (zd h e (λ_ h=>?_) (λ_ h=>ws (oV (zM e e) (an e (zd h e (λ_ h=>?_) (λ_ h=>ws (oV (zM e e) (an e (zd h e (λ_ h=>?_) (λ_ h=>ss (oV (zM e e) (an e (jW 95 h (λq31 h=>?_) λJ32 h hJ32=>zd h e (λ_ h=>?_) (λ_ h=>?_)))))))))))))))))))))))))))))
   ·exact ws (ar e (zF (ze (r1 e) k1 (iS h ▸ ⟨e,e⟩))))
   ·refine ws (oV (zb ty26 e) (za h λy10 hy10 h=>oT (tC (zdm hy10) hT (s2 e e) k0 (om e (jO 9 63 h (λq11 h=>?_) λJ12 h hJ12=>oI h (λg13 h=>?_) λg13 h=>oN g13 (oN g13 (oN g13 (oN g13 (oU (oU (oU (oN g13 (oV (zg e g13 e) (hJ12 h 9))))))))))))))
    ·exact ar e (bn (ze (r1 e) k1 (iS h ▸ ⟨e,e⟩)))
    refine oG g13 (vI e Val.f1 zcy a_v.n) (oG g13 (zb ty2 e) (oG g13 (zM e e) (oG g13 (zm e) (jO 4 62 h (λq14 h=>?_) λJ15 h hJ15=>oI h (λg16 h=>?_) λg16 h=>oG g16 (vI e Val.f1 zcy a_v.n) (oG g16 (zb ty2 e) (oG g16 (zM e e) (oG g13 (zg e g16 e) (hJ15 h 4))))))))
    ·exact oV (zh e g13 e) (hJ12 h 6)
    exact oN g16 (oN g16 (oN g16 (oG g13 (zh e g16 e) (hJ15 h 4))))
   ·refine ws (oV (zb ty26 e) (za h λy17 hy17 h=>oT (tC (zdm hy17) hT (s2 e e) k0 (om e (jO 11 79 h (λq18 h=>?_) λJ19 h hJ19=>oI h (λg20 h=>?_) λg20 h=>oN g20 (oN g20 (oN g20 (oN g20 (oU (oU (oU (oU (oU (oN g20 (oV (zg e g20 e) (hJ19 h 11))))))))))))))))
    ·exact ar e (bn (ze (r1 e) k1 (iS h ▸ ⟨e,e⟩)))
    refine oG g20 (vI e GTyp.f2 zhv y7.con) (oG g20 (vI e GCon.f3 zmX y7.con.more) (oG g20 (zb ty4 e) (oG g20 (zm e) (jO 6 78 h (λq21 h=>?_) λJ22 h hJ22=>oI h (λg23 h=>?_) λg23 h=>oG g23 (vI e GTyp.f2 zhv y7.con) (oG g23 (zb ty125 e) (oG g23 (vI e Val.f1 zcy a_v.n) (oG g23 (zb ty2 e) (za h λy24 hy24 h=>oH g23 (tC (zhh hy24) hT (s2 e e) k0 (oG g20 (zg e g23 e) (hJ22 h 6)))))))))))
    ·exact oV (zh e g20 e) (hJ19 h 6)
    exact oN g23 (oN g23 (oN g23 (oN g23 (oN g23 (oG g20 (zh e g23 e) (hJ22 h 6))))))
   ·refine ws (oV (zb ty26 e) (za h λy25 hy25 h=>oT (tC (zdm hy25) hT (s2 e e) k0 (om e (jO 6 90 h (λq26 h=>?_) λJ27 h hJ27=>oI h (λg28 h=>?_) λg28 h=>oN g28 (oN g28 (oN g28 (oN g28 (oN g28 (oV (zg e g28 e) (hJ27 h 6)))))))))))
    ·exact ar e (bn (ze (r1 e) k1 (iS h ▸ ⟨e,e⟩)))
    exact oG g28 (zb ty129 e) (oG g28 (vI e Val.f1 zcy a_v.n) (oG g28 (zb ty2 e) (za h λy29 hy29 h=>oH g28 (tC (zjE hy29) hT (s2 e e) k0 (oG g28 (zdP e e) (oV (zh e g28 e) (hJ27 h 6)))))))
   ·exact ws (oV (zb ty26 e) (za h λy30 hy30 h=>oT (tC (zdm hy30) hT (s2 e e) k0 (ar e (bn (ze (r1 e) k1 (iS h ▸ ⟨e,e⟩)))))))
   ·refine zd h e (λ_ h=>?_) (λ_ h=>ws (oV (zM e e) (an e (zd h e (λ_ h=>?_) (λ_ h=>ws (oV (zM e e) (an e (zd h e (λ_ h=>?_) (λ_ h=>ss (oV (zM e e) (an e (jW 149 h (λq52 h=>?_) λJ53 h hJ53=>zd h e (λ_ h=>?_) (λ_ h=>zj (oV (zM e e) (oa e (zO (hJ53 h 2)))))))))))))))))
    ·exact ws (om e (oV (zb ty129 e) (oV (zb ty26 e) (za h λy33 hy33 h=>oT (tC (zjk hy33) hT (s3 e e e) k1 (ar e (bn (ze (r1 e) k1 (iS h ▸ ⟨e,e⟩)))))))))
    ·exact ws (om e (oV (zb ty129 e) (oV (zb ty26 e) (om e (za h λy34 hy34 h=>oT (tC (zcL hy34) hT (s4 e e e e) k1 (ar e (bn (ze (r1 e) k1 (iS h ▸ ⟨e,e⟩))))))))))
    ·refine zE (zG (.v 0 (.t 1 (.v 2 (.v 3 (.v 4 (.v 5 (.v 6 (.v 7 (.v 8 (.v 9 (.v 10 (.v 11 (.v 12 (.v 13 (.v 14 (.v 15 (.v 16 (.v 17 (.v 18 (.v 19 (.v 20 (.v 21 (.v 22 (.v 23 (.v 24 (.v 25 (.v 26 (.v 27 (.v 28 (.v 29 (.v 30 (.v 31 (.v 32 (.v 33 (.v 34 (.v 35 (.t 36 (.v 37 (.v 38 .nil))))))))))))))))))))))))))))))))))))))) moOrd (by kernel_rfl) (zl e (zb ty26 e) (za h λy35 hy35 h=>rT e (tC (zdm hy35) hT (s2 e e) k0 (rm e e (jD 4 117 h (λq36 h=>?_) λJ37 h hJ37=>rJ h (λg38 h=>?_) λg38 h=>rP e g38 (rP e g38 (rP e g38 (zl e (zg e g38 e) (hJ37 h 4))))))))))
     ·refine rm e e (jD 7 125 h (λq39 h=>?_) λJ40 h hJ40=>rJ h (λg41 h=>?_) λg41 h=>rP e g41 (rP e g41 (rP e g41 (rP e g41 (rP e g41 (rP e g41 (zl e (zg e g41 e) (hJ40 h 7))))))))
      ·refine rm e e (jD 5 131 h (λq42 h=>?_) λJ43 h hJ43=>rJ h (λg44 h=>?_) λg44 h=>rP e g44 (rP e g44 (rP e g44 (rP e g44 (zl e (zg e g44 e) (hJ43 h 5))))))
       ·refine rm e e (jd 16 h Unit (λq45 g45=>[(148,isv q45.1)]) (λq45 g45=>[boxE zcA (q45.2:GChk)]) k1 (λq45 g45 h=>?_) λJ46 h hJ46=>rJ h (λg47 h=>?_) λg47 h=>rP e g47 (rP e g47 (rP e g47 (rP e g47 (rP e g47 (rP e g47 (rP e g47 (rP e g47 (rP e g47 (rP e g47 (rP e g47 (rP e g47 (rP e g47 (rP e g47 (zet e e (dj:=132) e g47 (zl e (zg e g47 e) (hJ46 h () 16)))))))))))))))))
        ·exact zl e (zaA e) (zaj (zp (zbM (bn (ze (r1 e) k1 (iS h ▸ ⟨e,e⟩))))))
        exact rG e g47 (zm e) (rG e g47 (vI e GTyp.f4 zbd y7.fields) (rG e g47 (zb ty127 e) (rG e g47 (vI e Val.f1 zcy a_v.n) (rG e g47 (zb ty2 e) (za h λy48 hy48 h=>rG e g47 (vX e e sl127 hy48) (rG e g47 (vI e GFld.f1 zdy y48.ty) (rG e g47 (zb ty3 e) (rG e g47 (vI e Val.f3 zcS a_v.l) (rG e g47 (zb ty23 e) (za h λy49 hy49 h=>rG e g47 (vX e e sl23 hy49) (rG e g47 (zb ty26 e) (rG e g47 (zm e) (zy h λq50 h=>rG e g47 (zY e e q50) (za h λy51 hy51 h=>rH e g47 (tC (zbU hy51) hT (s4 e e e e) k1 (zl e (zh e g47 e) (hJ46 h () 16)))))))))))))))))
       exact rG e g44 (vI e Val.f3 zcS a_v.l) (rG e g44 (zb ty23 e) (rG e g44 (vN e sl23) (rG e g44 (zM e e) (zl e (zh e g44 e) (hJ43 h 5)))))
      exact rG e g41 (vI e Val.f1 zcy a_v.n) (rG e g41 (zb ty2 e) (rG e g41 (vI e GTyp.f4 zbd y7.fields) (rG e g41 (zb ty127 e) (rG e g41 (vN e sl127) (rG e g41 (zas e e) (zl e (zh e g41 e) (hJ40 h 7)))))))
     exact rG e g38 (vI e Val.f1 zcy a_v.n) (rG e g38 (zb ty2 e) (rG e g38 (zdP e e) (zl e (zh e g38 e) (hJ37 h 4))))
    ·refine zd h e (λ_ h=>?_) (λ_ h=>zC (zs (zp (ws (ar e (ze (r1 e) k1 (iS h ▸ ⟨e,e⟩)))))))
     exact ws (om e (om e (oV (zb ty26 e) (om e (za h λy54 hy54 h=>oT (tC (zco hy54) hT (s4 e e e e) k1 (ar e (bn (ze (r1 e) k1 (iS h ▸ ⟨e,e⟩))))))))))
    exact zC (hJ53 h 0)
   ·exact zC (hJ32 h 0)
   exact zj (oV (zM e e) (oa e (zO (hJ32 h 2))))
  exact oN g6 (oN g6 (oV (zh e g6 e) (hJ5 h 3)))
 exact oN g3 (oN g3 (oN g3 (oN g3 (oN g3 (oN g3 (oN g3 (oN g3 (oN g3 (oV (zh e g3 e) (hJ2 h 10))))))))))

theorem zjN {zK zS zZ zo zq zP} (zcb:zbk zK) (zbU:zbq zS) (zcL:zbS zZ) (zaD:zak zo) (zaK:zaq zq) (zco:zbo zP):zbS (zdn zK zS zZ zo zq zP):=by
 intro a_c a_x a_v zH zcA r h
 unfold zdn at h
 refine zi Tryz.func108 e λw0 S0 hT=>ws (oT (zi8 (y:=PtrB.mk zcA) e zkv (oT (tB e (oT (tB e (oT (tB e (an e (ws (oV (zb ty26 e) (za h λy1 hy1 h=>oT (tC (zdm hy1) hT (s2 e e) k0 (om e (jO 12 23 h (λq2 h=>?_) λJ3 h hJ3=>oI h (λg4 h=>?_) λg4 h=>oN g4 (oN g4 (oN g4 (oN g4 (oU (oU (oU (oU (oU (oU (oN g4 (oV (zg e g4 e) (hJ3 h 12)))))))))))))))))))))))))))
 ·refine om e (jo 6 h Unit (λq9 g9=>[(30,isv q9.1)]) (λq9 g9=>[boxE zcA (q9.2:GChk)]) k1 (λq9 g9 h=>?_) λJ10 h hJ10=>oI h (λg11 h=>?_) λg11 h=>oN g11 (oN g11 (oN g11 (oN g11 (oN g11 (oV (zg e g11 e) (hJ10 h () 6)))))))
  ·exact ar e (ze (r1 e) k1 (iS h ▸ ⟨e,e⟩))
  exact oG g11 (vI e Val.f3 zcS a_v.l) (oG g11 (zb ty23 e) (oG g11 (zfg (.same e (.same e (.same e .nil)))) (za h λy12 hy12 h=>oH g11 (tC (zaD hy12) hT (s2 e e) k1 (oG g11 (zaX e) (oV (zh e g11 e) (hJ10 h () 6)))))))
 refine oG g4 (vI e GTyp.f2 zhv a_x.con) (oG g4 (vI e GCon.f3 zmX a_x.con.more) (oG g4 (zb ty4 e) (oG g4 (zm e) (jO 7 22 h (λq5 h=>?_) λJ6 h hJ6=>oI h (λg7 h=>?_) λg7 h=>oG g7 (vI e GTyp.f2 zhv a_x.con) (oG g7 (zb ty125 e) (oG g7 (vI e Val.f3 zcS a_v.l) (oG g7 (zb ty23 e) (oG g7 (vN e sl23) (za h λy8 hy8 h=>oH g7 (tC (zhh hy8) hT (s2 e e) k0 (oG g4 (zg e g7 e) (hJ6 h 7))))))))))))
 ·exact oV (zh e g4 e) (hJ3 h 6)
 exact oN g7 (oN g7 (oN g7 (oN g7 (oN g7 (oN g7 (oG g4 (zh e g7 e) (hJ6 h 7)))))))

theorem zez {zK zS zZ zo zq zP} (zcb:zbk zK) (zbU:zbq zS) (zcL:zbS zZ) (zaD:zak zo) (zaK:zaq zq) (zco:zbo zP):zak (zaR zK zS zZ zo zq zP):=by
 intro a_s zeB zfG zj2 zdN r h
 unfold zaR at h
 exact zi Tryz.func54 e λw0 S0 hT=>ws (an e (ws (om e (om e (za h λy1 hy1 h=>oT (tC (zaK hy1) hT (s2 e e) k1 (oV (zdP e e) (ar e (ze (r1 e) k1 (iS h ▸ ⟨e,e⟩))))))))))

theorem zeY {zK zS zZ zo zq zP} (zcb:zbk zK) (zbU:zbq zS) (zcL:zbS zZ) (zaD:zak zo) (zaK:zaq zq) (zco:zbo zP):zaq (za3 zK zS zZ zo zq zP):=by
 intro a_s zeB zfG zj2 zdN r h
 unfold za3 at h
 refine zi Tryz.func110 e λw0 S0 hT=>ws (an e (ss (om e (oV (vN e sl23) (om e (rn (zn (lP h Unit () (λq1 g1=>[(8,isv q1.1)]) (λq1 g1=>[boxE zdN (q1.2:GChk)]) (zA (j:=8) e hI zat) k1 λL2 q1 g1 Q9 h hL2 eL2 rL2=>ws (oV (zas e e) (rn (zE (zd h e (λ_ h=>?_) (λ_ h=>xn (eL2 _ _ (zu (zp (ws (ar e (ze (r1 e) k1 (iS h ▸ ⟨e,e⟩))))))))))))))))))))
 refine wk (zE (zn (ws (om e (an e (ws (om e (om e (om e (za h λy6 hy6 h=>oV (vX e e sl23 hy6) (oV (zb ty26 e) (za h λy7 hy7 h=>oT (zfr e (.same e .nil) (zcb hy7) hT (.cons .here .nil) (λR H' hR=>?_))))))))))))))
 obtain ⟨rfl,rfl⟩:=hR
 refine rn (zd h e (λ_ h=>?_) (λ_ h=>zC (zs (zp (zj (zy h λq8 h=>oV (zY e e q8) (om e (zO (hL2 h () 12)))))))))
 exact ws (om e (ar e (bn (rL2 _ (bn (ze (r1 e) k1 (iS h ▸ ⟨e,e⟩)))))))

theorem ziD {zK zS zZ zo zq zP} (zcb:zbk zK) (zbU:zbq zS) (zcL:zbS zZ) (zaD:zak zo) (zaK:zaq zq) (zco:zbo zP):zbo (zcX zK zS zZ zo zq zP):=by
 intro a_c a_i a_v zH zcA r h
 unfold zcX at h
 refine zi Tryz.func109 e λw0 S0 hT=>ws (oT (tB e (an e (ws (om e (oV (zf e) (oV (zw e GChk.f0 zgB) (oV (zw e GTbd.f0 zgg) (oV (zw e GTab.f3 zfD) (oT (tL ty29 e p0 a_c.tabled.t.types (om e (za h λy1 hy1 h=>oV (vX e e sl29 hy1) (oV (zb ty129 e) (oT (zV _ ze129 λb2=>oT (tS ty129 e e p0 y1 (zaf (zaF 9 .here e) (rn (ss (oV (zb ty26 e) (za h λy3 hy3 h=>oT (tC (zdm hy3) hT (s2 e e) k0 (oV (zaX e) (om e (jO 8 33 h (λq4 h=>?_) λJ5 h hJ5=>oI h (λg6 h=>?_) λg6 h=>oG g6 (vI e Val.f3 zcS a_v.l) (oG g6 (zb ty23 e) (oG g6 (vN e sl23) ?_))))))))))))))))))))))))))))
 ·refine om e (jo 6 h Unit (λq7 g7=>[(40,isv q7.1)]) (λq7 g7=>[boxE zcA (q7.2:GChk)]) k1 (λq7 g7 h=>?_) λJ8 h hJ8=>oI h (λg9 h=>?_) λg9 h=>oG g9 (zm e) (oG g9 (zm e) (oG g9 (zb ty26 e) (za h λy10 hy10 h=>oH g9 (tC (zj7 hy10) hT (s3 e e e) k1 (oG g9 (zaX e) (oV (zg e g9 e) (hJ8 h () 6))))))))
  ·refine rn (zd h e (λ_ h=>?_) (λ_ h=>wk (ss (oV (vI e GTyp.f4 zbd y1.fields) (oV (zb ty127 e) (oV (vN e sl127) (om e (rn (zn (lP h Unit () (λq11 g11=>[(44,isv q11.1)]) (λq11 g11=>[boxE zcA (q11.2:GChk)]) (zA (j:=44) e hI zat) k1 λL12 q11 g11 Q57 h hL12 eL12 rL12=>ws (oV (zas e e) (rn (zE (zd h e (λ_ h=>?_) (λ_ h=>xn (eL12 _ _ (zu (zp (ws (om e (om e (oV (zb ty26 e) (za h λy56 hy56 h=>oT (tC (zjx hy56) hT (s3 e e e) k1 (ar e (ze (r1 e) k1 (iS h ▸ ⟨e,e⟩)))))))))))))))))))))))))))
   ·exact ws (ar e (zF (ze (r1 e) k1 (iS h ▸ ⟨e,e⟩))))
   refine wk (zE (jw h Unit (λq35 g35=>[]) (λq35 g35=>[boxE zcA (q35:GChk)]) k1 (λq35 g35 h=>?_) λJ36 h hJ36=>zn (ws (om e (za h λy37 hy37 h=>oV (vX e e sl127 hy37) (oV (zb ty137 e) (oT (zV _ ze137 λb38=>oa e (oT (tS ty137 e e p0 y37 (zaf (zaF 11 .here e) (rn (ws (oV (vI e Val.f3 zcS a_v.l) (oV (zb ty23 e) (om e (za h λy39 hy39 h=>oV (vX e e sl23 hy39) (oV (zb ty26 e) (oT (zV _ ze26 λb40=>oT (tS ty26 e e p0 y39 (zaf (zaF 12 .here e) (rn (zn (ws (oV (vI e Val.f0 zdg y39.kind) (oV (zb ty3 e) (oV (zM e e) ?_))))))))))))))))))))))))))))
   ·exact zj (zy h λq55 h=>oV (zY e e q55) (om e (zO (hL12 h () 4))))
   refine an e (zd h e (λ_ h=>?_) (λ_ h=>ws (om e (oV (vI e GFld.f1 zdy y37.ty) (oV (zb ty3 e) (oV (zb ty26 e) (om e (zy h λq46 h=>oV (zY e e q46) (za h λy47 hy47 h=>oT (tC (zbU hy47) hT (s4 e e e e) k1 (oV (zaX e) (om e (jO 9 85 h (λq48 h=>?_) λJ49 h hJ49=>oI h (λg50 h=>?_) λg50 h=>oG g50 (vI e GFld.f3 zjh y37.has) (oG g50 (zb ty4 e) (oG g50 (zm e) (jO 5 84 h (λq51 h=>?_) λJ52 h hJ52=>oI h (λg53 h=>?_) λg53 h=>oN g53 (oN g53 (oN g53 (oN g53 (oG g50 (zg e g53 e) (hJ52 h 5)))))))))))))))))))))
   ·refine ws (oV (zb ty26 e) (za h λy41 hy41 h=>oT (tC (zh0 hy41) hT (s1 e) k0 (oV (zaX e) (om e (jO 5 66 h (λq42 h=>?_) λJ43 h hJ43=>oI h (λg44 h=>?_) λg44 h=>oG g44 (zb ty129 e) (oG g44 (zm e) (za h λy45 hy45 h=>oH g44 (tC (zk2 hy45) hT (s2 e e) k0 (oG g44 (zaX e) (oV (zg e g44 e) (hJ43 h 5))))))))))))
    ·refine rn (zd h e (λ_ h=>?_) (λ_ h=>zC (zs (zs (hJ36 h () 22)))))
     exact ws (ar e (za2 (bn (rL12 _ (bn (ze (r1 e) k1 (iS h ▸ ⟨e,e⟩)))))))
    exact oN g44 (oN g44 (oN g44 (oN g44 (oV (zh e g44 e) (hJ43 h 5)))))
   ·refine an e (zd h e (λ_ h=>?_) (λ_ h=>zC (zs (zs (hJ36 h () 28)))))
    exact ws (ar e (za2 (bn (rL12 _ (bn (ze (r1 e) k1 (iS h ▸ ⟨e,e⟩)))))))
   ·exact oN g50 (oN g50 (oN g50 (oU (oU (oU (oU (oN g50 (oV (zh e g50 e) (hJ49 h 9)))))))))
   ·exact oV (zg e g50 e) (hJ49 h 5)
   exact oG g53 (zb ty26 e) (oG g53 (vI e GFld.f4 zlH y37.dflt) (oG g53 (zb ty26 e) (za h λy54 hy54 h=>oH g53 (tC (zlY fuel hy54) hT (s2 e e) k0 (oG g50 (zh e g53 e) (hJ52 h 5))))))
  exact oN g9 (oN g9 (oN g9 (oN g9 (oN g9 (oV (zh e g9 e) (hJ8 h () 6))))))
 ·exact oN g6 (oN g6 (oN g6 (oN g6 (oN g6 (oN g6 (oN g6 (oV (zh e g6 e) (hJ5 h 8))))))))
 exact oG g6 (vI e GTyp.f4 zbd y1.fields) (oG g6 (zb ty127 e) (oG g6 (vN e sl127) (oG g6 (zbt e e) (oV (zg e g6 e) (hJ5 h 8)))))

theorem ze4:∀ n,zbk (zb9 n)/\zbq (zbv n)/\zbS (zcD n)/\zak (zaw n)/\zaq (zaB n)/\zbo (zck n)
  | 0=>⟨λh=>(by cases h),λh=>(by cases h),λh=>(by cases h),λh=>(by cases h),λh=>(by cases h),λh=>(by cases h)⟩
  | n + 1=>by
    obtain ⟨h0,h1,h2,h3,h4,h5⟩:=ze4 n
    exact ⟨zil h0 h1 h2 h3 h4 h5,zjP h0 h1 h2 h3 h4 h5,zjN h0 h1 h2 h3 h4 h5,zez h0 h1 h2 h3 h4 h5,zeY h0 h1 h2 h3 h4 h5,ziD h0 h1 h2 h3 h4 h5⟩
theorem zj9 (n:Nat):zbq (zbv n):=(ze4 n).2.1
def zgZ (f':Val->Option (Int)):Prop :=
 ∀ {a_v r},f' a_v=some r->Ctr Tryz.prog 53 [isv a_v] [] (Pt [isv r] [])
theorem znL {zhs} (zoq:zgZ zhs):zgZ (zfH zhs):=by
 intro a_v r h
 unfold zfH at h
 refine zi Tryz.func53 e λw0 S0 hT=>ws (oT (tB e (an e (ws (an e (ss (oV (vI e Val.f3 zcS a_v.l) (oV (zb ty23 e) (oV (vN e sl23) (om e (rn (zn (lP h Unit () (λq1 g1=>[(3,isv q1.1),(9,isv q1.2)]) (λq1 g1=>[]) (zA (j:=3) e hI (zA (j:=9) e hI zat)) k0 λL2 q1 g1 Q13 h hL2 eL2 rL2=>ws (oV (zas e e) (rn (zE (zd h e (λ_ h=>?_) (λ_ h=>xn (eL2 _ _ (zu (zp (ws (om e (ar e (ze (r1 e) k0 (iS h ▸ ⟨e,e⟩))))))))))))))))))))))))))
 exact wk (zE (zn (ws (za h λy8 hy8 h=>oV (vX e e sl23 hy8) (oV (zb ty26 e) (oT (zV _ ze26 λb9=>oT (tS ty26 e e p0 y8 (zaf (zaF 5 .here e) (rn (zj (om e (oV (zb ty26 e) (za h λy10 hy10 h=>oT (tC (zoq hy10) hT (s1 e) k0 (zy h λq11 h=>oV (zY e e q11) (oa e (rb (zp (zj (zy h λq12 h=>oV (zY e e q12) (om e (zO (hL2 h () 14))))))))))))))))))))))))

theorem zh8:∀ n,zgZ (zhc n)
  | 0=>λh=>(by cases h)
  | n + 1=>znL (zh8 n)
theorem zog (n:Nat):zgZ (zhc n):=(zh8 n)

theorem zlO {a_t a_i a_v r} (h:zfY a_t a_i a_v=some r):Ctr Tryz.prog 25 [isv a_t,isv a_i,isv a_v] [] (Pt [isv r] []):=by
 unfold zfY at h
 refine zi Tryz.func25 e λw0 S0 hT=>ws (oT (tB e (oT (tB e (an e (ws (oV (zb ty31 e) (oV (zam (z:=(GTbd.mk a_t)) e bu118 ze118 (.cons GTbd.f0 zgg e hI .nil)) (oV (zam (z:=(GChk.mk (GTbd.mk a_t) false)) e bu120 ze120 (.cons GChk.f0 zgB e hI .nil)) (oT (zki (y:=(GChk.mk (GTbd.mk a_t) false)) e hI λb1=>an e (ws (om e (om e (oV (zb ty26 e) (za h λy2 hy2 h=>oT (tC (zj9 fuel hy2) hT (s4 e e e e) k1 (om e (jO 4 20 h (λq3 h=>?_) λJ4 h hJ4=>oI h (λg5 h=>?_) λg5 h=>oN g5 (oN g5 (oN g5 (oV (zg e g5 e) (hJ4 h 4)))))))))))))))))))))))
 ·exact ar e (ze (r1 e) k0 (iS h ▸ ⟨e,e⟩))
 exact oG g5 (zb ty26 e) (za h λy6 hy6 h=>oH g5 (tC (zog fuel hy6) hT (s1 e) k0 (oG g5 (zk5 e e) (oV (zh e g5 e) (hJ4 h 4)))))


def zd5 (f':Val->Option (Bool)):Prop :=
 ∀ {a_w_ r},f' a_w_=some r->Ctr Tryz.prog 55 [isv a_w_] [] (Pt [isv r] [])
def zeP (f':Val->Option (Bool)):Prop :=
 ∀ {a_v r},f' a_v=some r->Ctr Tryz.prog 26 [isv a_v] [] (Pt [isv r] [])
def zay (f':(List Val)->Option (Bool)):Prop :=
 ∀ {a_s r},f' a_s=some r->Ctr Tryz.prog 54 [isv a_s,clov 55 []] [] (Pt [isv r] [])
def zaH (f':(List Val)->Option (Int)):Prop :=
 ∀ {a_s r},f' a_s=some r->Ctr Tryz.prog 110 [isv a_s,clov 55 []] [] (Pt [isv r] [])
theorem zmn {zbc zb4 zt zz} (zfN:zd5 zbc) (zhr:zeP zb4) (za8:zay zt) (zbj:zaH zz):zd5 (zeU zbc zb4 zt zz):=by
 intro a_w_ r h
 unfold zeU at h
 exact zi Tryz.func55 e λw0 S0 hT=>ws (oT (tB e (an e (ws (oV (zb ty26 e) (za h λy1 hy1 h=>oT (tC (zhr hy1) hT (s1 e) k0 (oV (zaX e) (ar e (ze (r1 e) k0 (iS h ▸ ⟨e,e⟩)))))))))))

theorem zol {zbc zb4 zt zz} (zfN:zd5 zbc) (zhr:zeP zb4) (za8:zay zt) (zbj:zaH zz):zeP (zgz zbc zb4 zt zz):=by
 intro a_v r h
 unfold zgz at h
 refine zi Tryz.func26 e λw0 S0 hT=>ws (oT (tB e (an e (ws (oV (vI e Val.f0 zdg a_v.kind) (oV (zb ty3 e) (oV (zbt e e) (om e (jO 5 11 h (λq1 h=>?_) λJ2 h hJ2=>oI h (λg3 h=>?_) λg3 h=>oN g3 (oN g3 (oN g3 (oN g3 (oV (zg e g3 e) (hJ2 h 5))))))))))))))
 ·refine om e (jO 5 17 h (λq4 h=>?_) λJ5 h hJ5=>oI h (λg6 h=>?_) λg6 h=>oN g6 (oN g6 (oN g6 (oN g6 (oV (zg e g6 e) (hJ5 h 5))))))
  ·exact ar e (ze (r1 e) k0 (iS h ▸ ⟨e,e⟩))
  exact oG g6 (vI e Val.f3 zcS a_v.l) (oG g6 (zb ty23 e) (za h λy7 hy7 h=>oH g6 (tC (za8 hy7) hT (s2 e e) k0 (oG g6 (zaX e) (oV (zh e g6 e) (hJ5 h 5))))))
 exact oG g3 (vI e Val.f5 zjo a_v.more) (oG g3 (zb ty24 e) (oG g3 (vN e sl24) (oG g3 (zM e e) (oV (zh e g3 e) (hJ2 h 5)))))

theorem zek {zbc zb4 zt zz} (zfN:zd5 zbc) (zhr:zeP zb4) (za8:zay zt) (zbj:zaH zz):zay (zaN zbc zb4 zt zz):=by
 intro a_s r h
 unfold zaN at h
 exact zi Tryz.func54 e λw0 S0 hT=>ws (an e (ws (om e (om e (za h λy1 hy1 h=>oT (tC (zbj hy1) hT (s2 e e) k0 (oV (zdP e e) (ar e (ze (r1 e) k0 (iS h ▸ ⟨e,e⟩))))))))))

theorem zeN {zbc zb4 zt zz} (zfN:zd5 zbc) (zhr:zeP zb4) (za8:zay zt) (zbj:zaH zz):zaH (zaY zbc zb4 zt zz):=by
 intro a_s r h
 unfold zaY at h
 refine zi Tryz.func110 e λw0 S0 hT=>ws (an e (ss (om e (oV (vN e sl23) (om e (rn (zn (lO 8 h e λL2 q1 Q9 h hL2 eL2 rL2=>ws (oV (zas e e) (rn (zE (zd h e (λ_ h=>?_) (λ_ h=>xn (eL2 _ _ (zu (zp (ws (ar e (ze (r1 e) k0 (iS h ▸ ⟨e,e⟩))))))))))))))))))))
 refine wk (zE (zn (ws (om e (an e (ws (om e (om e (om e (za h λy6 hy6 h=>oV (vX e e sl23 hy6) (oV (zb ty26 e) (za h λy7 hy7 h=>oT (zfr e (.same e .nil) (zfN hy7) hT .nil (λR H' hR=>?_))))))))))))))
 obtain ⟨rfl,rfl⟩:=hR
 refine rn (zd h e (λ_ h=>?_) (λ_ h=>zC (zs (zp (zj (zy h λq8 h=>oV (zY e e q8) (om e (zO (hL2 h 12)))))))))
 exact ws (om e (ar e (bn (rL2 _ (bn (ze (r1 e) k0 (iS h ▸ ⟨e,e⟩)))))))

theorem zhp:∀ n,zd5 (zfK n)/\zeP (zfo n)/\zay (zaC n)/\zaH (za5 n)
  | 0=>⟨λh=>(by cases h),λh=>(by cases h),λh=>(by cases h),λh=>(by cases h)⟩
  | n + 1=>by
    obtain ⟨h0,h1,h2,h3⟩:=zhp n
    exact ⟨zmn h0 h1 h2 h3,zol h0 h1 h2 h3,zek h0 h1 h2 h3,zeN h0 h1 h2 h3⟩
theorem zpc (n:Nat):zeP (zfo n):=(zhp n).2.1
end Go.Proofs.Q


namespace Go.Proofs.Q
open Go.Sy
set_option maxRecDepth 4000
theorem zaM {a_r_ a_k zeG r} (h:zan a_r_ a_k=some r):Ctr Tryz.prog 117 [ptrv zeG ((Fld.id GLex).comp GLex.f0),isv a_k] [boxE zeG (a_r_:GLex)] (Pt [isv r.1] [boxE zeG (r.2)]):=by
 unfold zan at h
 refine zi Tryz.func117 e λw0 S0 hT=>ws (an e (zE (zE (zcZ 0 .here e (λo1 hn2=>zG (.v 0 (.v 1 (.v 2 (.v 3 (.v 4 (.v 5 (.v 6 (.v 7 (.v 8 (.v 9 (.v 10 (.v 11 .nil)))))))))))) moOrd (by kernel_rfl) (rm e e (zl e (zar e) (zl e (zdI e GLrd.f1 za0) (zl e (vP ty3 e m0 a_r_.reader.at_) (rm e e (zy h λq3 h=>zl e (zY e e q3) (rm e e (zl e (zar e) (zl e (zdI e GLrd.f0 zgk) (zl e (vP ty9 e m0 a_r_.reader.s) (zl e (zcf st9 e) (zl e (zdP e e) (zaj (zaJ 0 hn2 e (zp (zd h e (λ_ h=>?_) (λ_ h=>wk (zE (zcZ 0 .here e (λo4 hn5=>zG (.v 0 (.v 1 (.v 2 (.v 3 (.v 4 (.v 5 (.v 6 (.v 7 (.v 8 (.v 9 (.v 10 (.v 11 .nil)))))))))))) moOrd (by kernel_rfl) (rm e e (zl e (zar e) ?_)))))))))))))))))))))))))))
 ·exact ws (ar e (zF (ze (r1 e) k1 (iS h ▸ ⟨e,e⟩))))
 exact zl e (zdI e GLrd.f0 zgk) (zl e (vP ty9 e m0 a_r_.reader.s) (rm e e (zl e (zar e) (zl e (zdI e GLrd.f1 za0) (zl e (vP ty3 e m0 a_r_.reader.at_) (rm e e (zy h λq6 h=>zl e (zY e e q6) (za h λy7 hy7 h=>zl e (zcj y7 st9 e e hy7) (zl e (zaA e) (zaj (zaJ 0 hn5 e (zp (zbM (ze (r1 e) k1 (iS h ▸ ⟨e,e⟩)))))))))))))))


theorem zgr {a_s zdR r} (h:zbF a_s zdR=some r):Ctr Tryz.prog 203 [isv a_s,isv zdR] [] (Pt [isv r] []):=by
 unfold zbF at h
 refine zi Tryz.func203 e λw0 S0 hT=>ws (an e (ws (om e (oV (zcf st9 e) (om e (oV (zcf st9 e) (oV (zdP e e) (om e (jO 7 17 h (λq1 h=>?_) λJ2 h hJ2=>oI h (λg3 h=>?_) λg3 h=>oN g3 (oN g3 (oN g3 (oN g3 (oN g3 (oN g3 (oV (zg e g3 e) (hJ2 h 7))))))))))))))))
 ·exact ar e (ze (r1 e) k0 (iS h ▸ ⟨e,e⟩))
 exact oG g3 (zm e) (oG g3 (zm e) (oG g3 (zcf st9 e) (zah h λq4 h=>oG g3 (zgD st9 e (.inl ⟨e,e⟩) (.inr ⟨_,e,e⟩) q4.1 q4.2.1 q4.2.2) (oG g3 (zm e) (oG g3 (zaT eq9 e e) (oV (zh e g3 e) (hJ2 h 7)))))))


theorem zkQ {a_s zdR r} (h:ze7 a_s zdR=some r):Ctr Tryz.prog 163 [isv a_s,isv zdR] [] (Pt [isv r] []):=by
 unfold ze7 at h
 exact zi Tryz.func163 e λw0 S0 hT=>ws (an e (ws (om e (om e (za h λy1 hy1 h=>oT (tC (zgr hy1) hT (s2 e e) k0 (ar e (ze (r1 e) k0 (iS h ▸ ⟨e,e⟩)))))))))


theorem zdd {a_r_ a_t zeG r} (h:zb3 a_r_ a_t=some r):Ctr Tryz.prog 118 [ptrv zeG ((Fld.id GLex).comp GLex.f0),isv a_t] [boxE zeG (a_r_:GLex)] (Pt [isv r.1] [boxE zeG (r.2)]):=by
 unfold zb3 at h
 exact zi Tryz.func118 e λw0 S0 hT=>ws (an e (zE (zcZ 0 .here e (λo1 hn2=>zG (.v 0 (.v 1 (.v 2 (.v 3 (.v 4 (.v 5 (.v 6 (.v 7 (.v 8 (.v 9 (.t 10 (.v 11 .nil)))))))))))) moOrd (by kernel_rfl) (rm e e (zl e (zar e) (zl e (zdI e GLrd.f0 zgk) (zl e (vP ty9 e m0 a_r_.reader.s) (rm e e (zl e (zar e) (zl e (zdI e GLrd.f1 za0) (zl e (vP ty3 e m0 a_r_.reader.at_) (zah h λq3 h=>zl e (zgD st9 e (.inr ⟨_,e,e⟩) (.inl ⟨e,e⟩) q3.1 q3.2.1 q3.2.2) (rm e e (za h λy4 hy4 h=>rT e (tC (zkQ hy4) hT (s2 e e) k0 (zl e (zaA e) (zaj (zaJ 0 hn2 e (zp (zbM (ze (r1 e) k1 (iS h ▸ ⟨e,e⟩)))))))))))))))))))))))


theorem zia {a_r_ zeG r} (h:zdG a_r_=some r):Ctr Tryz.prog 65 [ptrv zeG ((Fld.id GLex).comp GLex.f0)] [boxE zeG (a_r_:GLex)] (Pt [] [boxE zeG (r)]):=by
 unfold zdG at h
 refine zi Tryz.func65 e λw0 S0 hT=>zn (lP h Unit () (λq1 g1=>[(0,ptrv zeG ((Fld.id GLex).comp GLex.f0))]) (λq1 g1=>[boxE zeG (q1:GLex)]) (zA (j:=0) e hI zat) k1 λL2 q1 g1 Q123 h hL2 eL2 rL2=>zE (zE (zcZ 0 .here e (λo63 hn64=>zG (.v 0 (.v 1 (.v 2 (.v 3 (.v 4 (.v 5 (.v 6 (.v 7 (.v 8 (.v 9 .nil)))))))))) moOrd (by kernel_rfl) (rm e e (zl e (zar e) (zl e (zdI e GLrd.f1 za0) (zl e (vP ty3 e m0 q1.reader.at_) (rm e e (zl e (zar e) (zl e (zdI e GLrd.f0 zgk) (zl e (vP ty9 e m0 q1.reader.s) (zl e (zcf st9 e) (zl e (zas e e) (zaj (zaJ 0 hn64 e (zp (zd h e (λ_ h=>?_) (λ_ h=>xn (eL2 _ _ (zu (zaL .nil k1 (iS h ▸ ⟨e,e⟩)))))))))))))))))))))))
 refine wk (zn (ws (om e (za h λy65 hy65 h=>oT (tC (zaM hy65) hT (s2 e e) k1 (an e (zn (ws (om e (oV (zaT eq5 e e) (om e (jO 3 21 h (λq66 h=>?_) λJ67 h hJ67=>oI h (λg68 h=>?_) λg68 h=>oG g68 (zm e) (oG g68 (zaT eq5 e e) (oV (zg e g68 e) (hJ67 h 3)))))))))))))))
 ·refine om e (jO 3 25 h (λq69 h=>?_) λJ70 h hJ70=>oI h (λg71 h=>?_) λg71 h=>oG g71 (zm e) (oG g71 (zaT eq5 e e) (oV (zg e g71 e) (hJ70 h 3))))
  ·refine om e (jO 3 29 h (λq72 h=>?_) λJ73 h hJ73=>oI h (λg74 h=>?_) λg74 h=>oG g74 (zm e) (oG g74 (zaT eq5 e e) (oV (zg e g74 e) (hJ73 h 3))))
   ·refine an e (zd h e (λ_ h=>?_) (λ_ h=>ws (om e (za h λy76 hy76 h=>oT (tC (zdd hy76) hT (s2 e e) k1 (an e (zd h e (λ_ h=>?_) (λ_ h=>zbM (za2 (za2 (rL2 _ (za2 (ze .nil k1 (iS h ▸ ⟨e,e⟩))))))))))))))
    ·exact zj (om e (oV (zf e) (oV (zw e GLrd.f1 za0) (oT (tL ty3 e p0 y65.2.reader.at_ (zy h λq75 h=>oV (zY e e q75) (oV (zf e) (oV (zw e GLrd.f1 za0) (oT (tS ty3 e e p0 ({ y65.2 with reader:={ y65.2.reader with at_:=(y65.2.reader.at_ + 1) } }) (rb (zs (hL2 h () 32)))))))))))))
    refine ws (om e (oV (zf e) (oV (zw e GLrd.f1 za0) (oT (tL ty3 e p0 y76.2.reader.at_ (zy h λq77 h=>oV (zY e e q77) (oV (zf e) (oV (zw e GLrd.f1 za0) (oT (tS ty3 e e p0 ({ y76.2 with reader:={ y76.2.reader with at_:=(y76.2.reader.at_ + 2) } }) (rn (zE (zn (lP h Unit () (λq78 g78=>[]) (λq78 g78=>[boxE zeG (q78:GLex)]) zat k1 λL79 q78 g78 Q122 h hL79 eL79 rL79=>zE (zE (jw h Unit (λq101 g101=>[(66,isv q101.1)]) (λq101 g101=>[boxE zeG (q101.2:GLex)]) k1 (λq101 g101 h=>?_) λJ102 h hJ102=>zG (.v 0 (.v 1 (.v 2 (.v 4 (.v 5 (.v 6 (.alt 3 (.t 7 (.v 8 (.v 9 (.v 10 (.v 11 (.t 12 (.v 13 (.v 14 (.v 15 (.v 16 (.t 17 (.v 18 (.v 19 .nil))))))))))))) (.t 7 (.v 8 (.t 3 (.v 9 (.v 10 (.v 11 (.t 12 (.v 13 (.v 14 (.v 15 (.v 16 (.t 17 (.v 18 (.v 19 .nil))))))))))))))))))))) moOrd (by kernel_rfl) (rm e e (zl e (zf e) (zl e (zw e GLrd.f1 za0) (rm e e (zl e (zf e) (zl e (zw e GLrd.f0 zgk) (zfB ?_ (rT e (tL ty9 e p0 q78.reader.s (zl e (zcf st9 e) (rT e (tL ty3 e p0 q78.reader.at_ (zl e (zas e e) (rm e e ?_))))))))))))))))))))))))))))))
    ·refine zd h e (λ_ h=>?_) (λ_ h=>xn (eL79 _ _ (zu (zp (ws (om e (za h λy120 hy120 h=>oT (tC (zdd hy120) hT (s2 e e) k1 (rn (zd h e (λ_ h=>?_) (λ_ h=>zC (zs (zs (hL2 h () 38))))))))))))))
     ·exact wk (zn (zj (om e (oV (zf e) (oV (zw e GLrd.f1 za0) (oT (tL ty3 e p0 q101.2.reader.at_ (zy h λq119 h=>oV (zY e e q119) (oV (zf e) (oV (zw e GLrd.f1 za0) (oT (tS ty3 e e p0 ({ q101.2 with reader:={ q101.2.reader with at_:=(q101.2.reader.at_ + 1) } }) (rb (hL79 h () 8))))))))))))))
     exact zj (om e (oV (zf e) (oV (zw e GLrd.f1 za0) (oT (tL ty3 e p0 y120.2.reader.at_ (zy h λq121 h=>oV (zY e e q121) (oV (zf e) (oV (zw e GLrd.f1 za0) (oT (tS ty3 e e p0 ({ y120.2 with reader:={ y120.2.reader with at_:=(y120.2.reader.at_ + 2) } }) (rb (zs (hL2 h () 45)))))))))))))
    ·refine rT e (tL ty3 e p0 q78.reader.at_ (rT e (tL ty9 e p0 q78.reader.s (zl e (zcf st9 e) (zl e (zas e e) (rm e e (jd 4 h Unit (λq103 g103=>[(61,isv q103.1)]) (λq103 g103=>[boxE zeG (q103.2:GLex)]) k1 (λq103 g103 h=>?_) λJ104 h hJ104=>rJ h (λg105 h=>?_) λg105 h=>rP e g105 (zet e e (dj:=57) e g105 (rP e g105 (zl e (zg e g105 e) (hJ104 h () 4)))))))))))
     ·refine rm e e (jd 4 h Unit (λq107 g107=>[(66,isv q107.1)]) (λq107 g107=>[boxE zeG (q107.2:GLex)]) k1 (λq107 g107 h=>?_) λJ108 h hJ108=>rJ h (λg109 h=>?_) λg109 h=>rP e g109 (zet e e (dj:=62) e g109 (rP e g109 (zl e (zg e g109 e) (hJ108 h () 4)))))
      ·exact zaj (hJ102 h () 14)
      exact rG e g109 (zm e) (za h λy110 hy110 h=>rH e g109 (tC (zdd hy110) hT (s2 e e) k1 (rG e g109 (zaX e) (zl e (zh e g109 e) (hJ108 h () 4)))))
     exact rG e g105 (zm e) (za h λy106 hy106 h=>rH e g105 (tC (zaM hy106) hT (s2 e e) k1 (rG e g105 (zi0 eq5 e e) (zl e (zh e g105 e) (hJ104 h () 4)))))
    refine jd 4 h Unit (λq111 g111=>[(61,isv q111.1)]) (λq111 g111=>[boxE zeG (q111.2:GLex)]) k1 (λq111 g111 h=>?_) λJ112 h hJ112=>rJ h (λg113 h=>?_) λg113 h=>rP e g113 (zet e e (dj:=57) e g113 (rP e g113 (zl e (zg e g113 e) (hJ112 h () 4))))
    ·refine rm e e (jd 4 h Unit (λq115 g115=>[(66,isv q115.1)]) (λq115 g115=>[boxE zeG (q115.2:GLex)]) k1 (λq115 g115 h=>?_) λJ116 h hJ116=>rJ h (λg117 h=>?_) λg117 h=>rP e g117 (zet e e (dj:=62) e g117 (rP e g117 (zl e (zg e g117 e) (hJ116 h () 4)))))
     ·exact zaj (hJ102 h () 14)
     exact rG e g117 (zm e) (za h λy118 hy118 h=>rH e g117 (tC (zdd hy118) hT (s2 e e) k1 (rG e g117 (zaX e) (zl e (zh e g117 e) (hJ116 h () 4)))))
    exact rG e g113 (zm e) (za h λy114 hy114 h=>rH e g113 (tC (zaM hy114) hT (s2 e e) k1 (rG e g113 (zi0 eq5 e e) (zl e (zh e g113 e) (hJ112 h () 4)))))
   exact oN g74 (oN g74 (oV (zh e g74 e) (hJ73 h 3)))
  exact oN g71 (oN g71 (oV (zh e g71 e) (hJ70 h 3)))
 exact oN g68 (oN g68 (oV (zh e g68 e) (hJ67 h 3)))


theorem zjc {a_c r} (h:zf2 a_c=some r):Ctr Tryz.prog 119 [isv a_c] [] (Pt [isv r] []):=by
 unfold zf2 at h
 refine zi Tryz.func119 e λw0 S0 hT=>ws (an e (ws (om e (oV (ziv e e) (om e (jO 3 8 h (λq1 h=>?_) λJ2 h hJ2=>oI h (λg3 h=>?_) λg3 h=>oN g3 (oN g3 (oV (zg e g3 e) (hJ2 h 3)))))))))
 ·refine om e (jO 7 16 h (λq4 h=>?_) λJ5 h hJ5=>oI h (λg6 h=>?_) λg6 h=>oG g6 (zm e) (oG g6 (ziv e e) (oG g6 (zm e) (jO 3 15 h (λq7 h=>?_) λJ8 h hJ8=>oI h (λg9 h=>?_) λg9 h=>oN g9 (oN g9 (oG g6 (zg e g9 e) (hJ8 h 3)))))))
  ·exact ar e (ze (r1 e) k0 (iS h ▸ ⟨e,e⟩))
  ·exact oN g6 (oN g6 (oN g6 (oU (oU (oN g6 (oV (zh e g6 e) (hJ5 h 7)))))))
  ·exact oV (zg e g6 e) (hJ5 h 5)
  exact oG g9 (zm e) (oG g9 (zgs e e) (oG g6 (zh e g9 e) (hJ8 h 3)))
 exact oG g3 (zm e) (oG g3 (zgs e e) (oV (zh e g3 e) (hJ2 h 3)))


theorem zg6 {a_c r} (h:zfx a_c=some r):Ctr Tryz.prog 121 [isv a_c] [] (Pt [isv r] []):=by
 unfold zfx at h
 refine zi Tryz.func121 e λw0 S0 hT=>ws (an e (ws (om e (oV (ziv e e) (om e (jO 3 8 h (λq1 h=>?_) λJ2 h hJ2=>oI h (λg3 h=>?_) λg3 h=>oN g3 (oN g3 (oV (zg e g3 e) (hJ2 h 3)))))))))
 ·exact ar e (ze (r1 e) k0 (iS h ▸ ⟨e,e⟩))
 exact oG g3 (zm e) (oG g3 (zgs e e) (oV (zh e g3 e) (hJ2 h 3)))


theorem zq5 {a_s r} (h:zjY a_s=some r):Ctr Tryz.prog 164 [isv a_s] [] (Pt [isv r] []):=by
 unfold zjY at h
 refine zi Tryz.func164 e λw0 S0 hT=>ws (an e (ss (om e (rn (zn (ss (oV (zaT eq9 e e) (an e (jW 4 h (λq1 h=>?_) λJ2 h hJ2=>zd h e (λ_ h=>?_) (λ_ h=>ws (oV (zaT eq9 e e) (an e (zd h e (λ_ h=>?_) (λ_ h=>ws (oV (zaT eq9 e e) (an e (zd h e (λ_ h=>?_) (λ_ h=>ws (oV (zaT eq9 e e) (an e (zd h e (λ_ h=>?_) (λ_ h=>ws (oV (zaT eq9 e e) (an e (zd h e (λ_ h=>?_) (λ_ h=>ws (oV (zaT eq9 e e) ?_)))))))))))))))))))))))))))
 ·refine zd h e (λ_ h=>?_) (λ_ h=>zC (zs (zp (ws (ar e (ze (r1 e) k0 (iS h ▸ ⟨e,e⟩)))))))
  exact ws (ar e (bn (ze (r1 e) k0 (iS h ▸ ⟨e,e⟩))))
 ·exact zC (hJ2 h 0)
 ·exact zC (hJ2 h 2)
 ·exact zC (hJ2 h 4)
 ·exact zC (hJ2 h 6)
 ·exact zC (hJ2 h 8)
 refine an e (zd h e (λ_ h=>?_) (λ_ h=>ws (oV (zaT eq9 e e) (an e (zd h e (λ_ h=>?_) (λ_ h=>ws (oV (zaT eq9 e e) (an e (zd h e (λ_ h=>?_) (λ_ h=>ws (oV (zaT eq9 e e) (an e (zd h e (λ_ h=>?_) (λ_ h=>ws (oV (zaT eq9 e e) (an e (zd h e (λ_ h=>?_) (λ_ h=>ws (oV (zaT eq9 e e) (an e (zd h e (λ_ h=>?_) (λ_ h=>ws (oV (zaT eq9 e e) (an e (zd h e (λ_ h=>?_) (λ_ h=>ws (oV (zaT eq9 e e) (an e (zd h e (λ_ h=>?_) (λ_ h=>?_))))))))))))))))))))))))))))))
 ·exact zC (hJ2 h 10)
 ·exact zC (hJ2 h 12)
 ·exact zC (hJ2 h 14)
 ·exact zC (hJ2 h 16)
 ·exact zC (hJ2 h 18)
 ·exact zC (hJ2 h 20)
 ·exact zC (hJ2 h 22)
 ·exact zC (hJ2 h 24)
 refine ws (oV (zaT eq9 e e) (an e (zd h e (λ_ h=>?_) (λ_ h=>ws (oV (zaT eq9 e e) (an e (zd h e (λ_ h=>?_) (λ_ h=>ws (oV (zaT eq9 e e) (an e (zd h e (λ_ h=>?_) (λ_ h=>ws (oV (zaT eq9 e e) (an e (zd h e (λ_ h=>?_) (λ_ h=>ws (oV (zaT eq9 e e) (an e (zd h e (λ_ h=>?_) (λ_ h=>ws (oV (zaT eq9 e e) (an e (zd h e (λ_ h=>?_) (λ_ h=>ws (oV (zaT eq9 e e) (an e (zd h e (λ_ h=>?_) (λ_ h=>ws (oV (zaT eq9 e e) ?_)))))))))))))))))))))))))))))
 ·exact zC (hJ2 h 26)
 ·exact zC (hJ2 h 28)
 ·exact zC (hJ2 h 30)
 ·exact zC (hJ2 h 32)
 ·exact zC (hJ2 h 34)
 ·exact zC (hJ2 h 36)
 ·exact zC (hJ2 h 38)
 refine an e (zd h e (λ_ h=>?_) (λ_ h=>ws (oV (zaT eq9 e e) (an e (zd h e (λ_ h=>?_) (λ_ h=>ws (oV (zaT eq9 e e) (an e (zd h e (λ_ h=>?_) (λ_ h=>ws (oV (zaT eq9 e e) (an e (zd h e (λ_ h=>?_) (λ_ h=>zj (oV (zaT eq9 e e) (oa e (zO (hJ2 h 48))))))))))))))))))
 ·exact zC (hJ2 h 40)
 ·exact zC (hJ2 h 42)
 ·exact zC (hJ2 h 44)
 exact zC (hJ2 h 46)


theorem zmo {a_l zdb r} (h:zfh a_l=some r):Ctr Tryz.prog 120 [ptrv zdb (Fld.id GLex)] [boxE zdb (a_l:GLex)] (Pt [isv r.1,isv r.2.1] [boxE zdb (r.2.2)]):=by
 unfold zfh at h
 refine zi Tryz.func120 e λw0 S0 hT=>ws (oa e (an e (ws (om e (oV (zf e) (oV (zw e GLex.f0 zaG) (oV (zw e GLrd.f1 za0) (oT (tL ty3 e p0 a_l.reader.at_ (an e (ss (om e (oV (zf e) (oV (zw e GLex.f0 zaG) (za h λy1 hy1 h=>oT (tC (zaM hy1) hT (s2 e e) k1 (an e (zn (lP h Unit () (λq2 g2=>[(5,isv q2.1)]) (λq2 g2=>[boxE zdb (q2.2:GLex)]) (zA (j:=5) e hI zat) k1 λL3 q2 g2 Q52 h hL3 eL3 rL3=>ss (om e (za h λy28 hy28 h=>oT (tC (zjc hy28) hT (s1 e) k0 (om e (jO 3 21 h (λq29 h=>?_) λJ30 h hJ30=>oI h (λg31 h=>?_) λg31 h=>oG g31 (zm e) (za h λy32 hy32 h=>oH g31 (tC (zg6 hy32) hT (s1 e) k0 ?_))))))))))))))))))))))))))
 ·refine om e (jo 10 h Unit (λq33 g33=>[(32,isv q33.1)]) (λq33 g33=>[boxE zdb (q33.2:GLex)]) k1 (λq33 g33 h=>?_) λJ34 h hJ34=>oI h (λg35 h=>?_) λg35 h=>oG g35 (zm e) (oG g35 (zaT eq5 e e) (oG g35 (zm e) (jo 6 h Unit (λq36 g36=>[(31,isv q36.1)]) (λq36 g36=>[boxE zdb (q36.2:GLex)]) k1 (λq36 g36 h=>?_) λJ37 h hJ37=>oI h (λg38 h=>?_) λg38 h=>oN g38 (oN g38 (oN g38 (oN g38 (oN g38 (oG g35 (zg e g38 e) (hJ37 h () 6))))))))))
  ·refine rn (zd h e (λ_ h=>?_) (λ_ h=>xn (eL3 _ _ (zu (zp (zE (zcZ 0 .here e (λo42 hn43=>zG (.v 0 (.v 1 (.v 2 (.v 3 (.v 4 (.v 5 (.v 6 (.v 7 (.v 8 (.v 9 (.v 10 (.v 11 (.v 12 .nil))))))))))))) moOrd (by kernel_rfl) (rm e e (zl e (zar e) (zl e (zdI e GLex.f0 zaG) (zl e (zdI e GLrd.f0 zgk) (zl e (vP ty9 e m0 q33.2.reader.s) (rm e e (rm e e (zl e (zar e) (zl e (zdI e GLex.f0 zaG) (zl e (zdI e GLrd.f1 za0) (zl e (vP ty3 e m0 q33.2.reader.at_) (zah h λq44 h=>zl e (zgD st9 e (.inr ⟨_,e,e⟩) (.inr ⟨_,e,e⟩) q44.1 q44.2.1 q44.2.2) (zl e (zaA e) (zaj (zaJ 0 hn43 e (zp (zE (zn (ws (om e ?_))))))))))))))))))))))))))))
   ·exact wk (zE (zn (zj (om e (oV (zf e) (oV (zw e GLex.f0 zaG) (oV (zw e GLrd.f1 za0) (oT (tL ty3 e p0 q33.2.reader.at_ (zy h λq40 h=>oV (zY e e q40) (oV (zf e) (oV (zw e GLex.f0 zaG) (oV (zw e GLrd.f1 za0) (oT (tS ty3 e e p0 ({ q33.2 with reader:={ q33.2.reader with at_:=(q33.2.reader.at_ + 1) } }) (rb (zp (zj (om e (oV (zf e) (oV (zw e GLex.f0 zaG) (za h λy41 hy41 h=>oT (tC (zaM hy41) hT (s2 e e) k1 (oa e (zO (hL3 h () 21))))))))))))))))))))))))))
   refine oV (zcf st9 e) (oV (zcl e e) (om e (jO 7 69 h (λq45 h=>?_) λJ46 h hJ46=>oI h (λg47 h=>?_) λg47 h=>oG g47 (zm e) (oG g47 (zm e) (oG g47 (zcf st9 e) (zy h λq48 h=>oG g47 (zhd e e q48) (za h λy49 hy49 h=>oG g47 (zcj y49 st9 e e hy49) (oG g47 (zaT eq5 e e) (oV (zg e g47 e) (hJ46 h 7))))))))))
   ·refine an e (zd h e (λ_ h=>?_) (λ_ h=>ws (om e (za h λy50 hy50 h=>oT (tC (zq5 hy50) hT (s1 e) k0 (an e (zd h e (λ_ h=>?_) (λ_ h=>ws (om e (za h λy51 hy51 h=>oV (zcj y51 st9 e e hy51) (oV (zgs e e) (an e (zd h e (λ_ h=>?_) (λ_ h=>zC (zs (zp (ws (om e (oa e (ar e (ze (r2 e e) k1 (iS h ▸ ⟨e,e⟩))))))))))))))))))))))
    ·exact ws (oa e (ar e (bn (ze (r2 e e) k1 (iS h ▸ ⟨e,e⟩)))))
    ·exact ws (om e (oa e (ar e (bn (ze (r2 e e) k1 (iS h ▸ ⟨e,e⟩))))))
    exact ws (om e (oa e (ar e (bn (ze (r2 e e) k1 (iS h ▸ ⟨e,e⟩))))))
   exact oN g47 (oN g47 (oN g47 (oN g47 (oN g47 (oN g47 (oV (zh e g47 e) (hJ46 h 7)))))))
  ·exact oN g35 (oN g35 (oN g35 (oU (oU (oU (oU (oU (oN g35 (oV (zh e g35 e) (hJ34 h () 10))))))))))
  ·exact oV (zg e g35 e) (hJ34 h () 5)
  exact oG g38 (zm e) (oG g38 (zf e) (oG g38 (zw e GLex.f0 zaG) (za h λy39 hy39 h=>oH g38 (tC (zaM hy39) hT (s2 e e) k1 (oG g38 (zi0 eq5 e e) (oG g35 (zh e g38 e) (hJ37 h () 6)))))))
 ·exact oN g31 (oN g31 (oV (zh e g31 e) (hJ30 h 3)))
 exact oV (zg e g31 e) (hJ30 h 3)


theorem zld {a_l zdb r} (h:zeq a_l=some r):Ctr Tryz.prog 122 [ptrv zdb (Fld.id GLex)] [boxE zdb (a_l:GLex)] (Pt [isv r.1,isv r.2.1] [boxE zdb (r.2.2)]):=by
 unfold zeq at h
 refine zi Tryz.func122 e λw0 S0 hT=>ws (oa e (an e (ws (om e (oV (zf e) (oV (zw e GLex.f0 zaG) (oV (zw e GLrd.f1 za0) (oT (tL ty3 e p0 a_l.reader.at_ (an e (ss (om e (oV (zf e) (oV (zw e GLex.f0 zaG) (za h λy1 hy1 h=>oT (tC (zaM hy1) hT (s2 e e) k1 (oV (zaT eq5 e e) (rn (jw h Unit (λq2 g2=>[]) (λq2 g2=>[boxE zdb (q2:GLex)]) k1 (λq2 g2 h=>?_) λJ3 h hJ3=>zd h e (λ_ h=>?_) (λ_ h=>zC (hJ3 h () 0)))))))))))))))))))))
 ·refine ws (om e (oV (zf e) (oV (zw e GLex.f0 zaG) (oV (zw e GLrd.f1 za0) (oT (tL ty3 e p0 q2.reader.at_ (an e (zE (zn (lP h Unit () (λq5 g5=>[]) (λq5 g5=>[boxE zdb (q5:GLex)]) zat k1 λL6 q5 g5 Q53 h hL6 eL6 rL6=>ss (om e (oV (zf e) (oV (zw e GLex.f0 zaG) (za h λy30 hy30 h=>oT (tC (zaM hy30) hT (s2 e e) k1 (za h λy31 hy31 h=>oT (tC (zg6 hy31) hT (s1 e) k0 (rn (zd h e (λ_ h=>?_) (λ_ h=>xn (eL6 _ _ (zu (zp (zE (zcZ 0 .here e (λo33 hn34=>zG (.v 0 (.v 1 (.v 2 (.v 3 (.v 4 (.v 5 (.v 6 (.v 7 (.v 8 (.v 9 (.v 10 (.v 11 (.v 12 (.v 13 (.v 14 (.v 15 (.v 16 (.v 17 (.v 18 (.v 19 (.v 20 (.v 21 .nil)))))))))))))))))))))) moOrd (by kernel_rfl) (rm e e (zl e (zar e) (zl e (zdI e GLex.f0 zaG) ?_)))))))))))))))))))))))))))))
  ·exact wk (zn (zj (om e (oV (zf e) (oV (zw e GLex.f0 zaG) (oV (zw e GLrd.f1 za0) (oT (tL ty3 e p0 y30.2.reader.at_ (zy h λq32 h=>oV (zY e e q32) (oV (zf e) (oV (zw e GLex.f0 zaG) (oV (zw e GLrd.f1 za0) (oT (tS ty3 e e p0 ({ y30.2 with reader:={ y30.2.reader with at_:=(y30.2.reader.at_ + 1) } }) (rb (hL6 h () 14))))))))))))))))
  refine zl e (zdI e GLrd.f0 zgk) (zl e (vP ty9 e m0 y30.2.reader.s) (rm e e (rm e e (zl e (zar e) (zl e (zdI e GLex.f0 zaG) (zl e (zdI e GLrd.f1 za0) (zl e (vP ty3 e m0 y30.2.reader.at_) (zah h λq35 h=>zl e (zgD st9 e (.inr ⟨_,e,e⟩) (.inr ⟨_,e,e⟩) q35.1 q35.2.1 q35.2.2) (rm e e (zl e (zar e) (zl e (zdI e GLex.f0 zaG) (zl e (zdI e GLrd.f0 zgk) (zl e (vP ty9 e m0 y30.2.reader.s) (rm e e (za h λy36 hy36 h=>zl e (zcj y36 st9 e e hy36) (zl e (zaT eq5 e e) (zl e (zaA e) (zl e (zaA e) (zaj (zaJ 0 hn34 e (zp (ss (om e (za h λy37 hy37 h=>oT (tC (zhG hy37) hT (s3 e e e) k0 (om e (oV (zr e e) ?_)))))))))))))))))))))))))))
  refine oV (zr e e) (oa e (an e (ws (om e (oV (zum if149 e) (om e (jO 17 92 h (λq38 h=>?_) λJ39 h hJ39=>oI h (λg40 h=>?_) λg40 h=>oG g40 (zm e) (oG g40 (zm e) (jO 14 91 h (λq41 h=>?_) λJ42 h hJ42=>oI h (λg43 h=>?_) λg43 h=>oN g43 (oN g43 (oN g43 (oN g43 (oN g43 (oN g43 (oN g43 (oN g43 (oN g43 (oU (oU (oU (oN g43 (oG g40 (zg e g43 e) (hJ42 h 14)))))))))))))))))))))))
  ·refine om e (jo 6 h Unit (λq48 g48=>[(99,isv q48.1)]) (λq48 g48=>[boxE zdb (q48.2:GLex)]) k1 (λq48 g48 h=>?_) λJ49 h hJ49=>oI h (λg50 h=>?_) λg50 h=>oG g50 (zm e) (oG g50 (zf e) (oG g50 (zw e GLex.f0 zaG) (za h λy51 hy51 h=>oH g50 (tC (zaM hy51) hT (s2 e e) k1 (za h λy52 hy52 h=>oH g50 (tC (zjc hy52) hT (s1 e) k0 (oV (zg e g50 e) (hJ49 h () 6)))))))))
   ·refine rn (zd h e (λ_ h=>?_) (λ_ h=>wk (ws (om e (oa e (ar e (ze (r2 e e) k1 (iS h ▸ ⟨e,e⟩))))))))
    exact ws (oa e (ar e (zF (ze (r2 e e) k1 (iS h ▸ ⟨e,e⟩)))))
   exact oN g50 (oN g50 (oN g50 (oN g50 (oN g50 (oV (zh e g50 e) (hJ49 h () 6))))))
  ·exact oN g40 (oN g40 (oU (oU (oU (oU (oU (oU (oU (oU (oU (oU (oU (oU (oU (oN g40 (oV (zh e g40 e) (hJ39 h 17)))))))))))))))))
  ·exact oV (zg e g40 e) (hJ39 h 4)
  refine oG g43 (zm e) (oG g43 (zf e) (oG g43 (zw e GLex.f0 zaG) (oG g43 (zw e GLrd.f1 za0) (oH g43 (tL ty3 e p0 y30.2.reader.at_ (oG g43 (zm e) (zy h λq44 h=>oG g43 (zhd e e q44) (oG g43 (zcl e e) (oG g43 (zm e) (jO 4 90 h (λq45 h=>?_) λJ46 h hJ46=>oI h (λg47 h=>?_) λg47 h=>oG g47 (zm e) (oG g47 (zm e) (oG g47 (zcl e e) (oG g43 (zg e g47 e) (hJ46 h 4))))))))))))))
  ·exact oG g40 (zh e g43 e) (hJ42 h 11)
  exact oN g47 (oN g47 (oN g47 (oG g43 (zh e g47 e) (hJ46 h 4))))
 exact zj (om e (oV (zf e) (oV (zw e GLex.f0 zaG) (oV (zw e GLrd.f1 za0) (oT (tL ty3 e p0 y1.2.reader.at_ (zy h λq4 h=>oV (zY e e q4) (oV (zf e) (oV (zw e GLex.f0 zaG) (oV (zw e GLrd.f1 za0) (oT (tS ty3 e e p0 ({ y1.2 with reader:={ y1.2.reader with at_:=(y1.2.reader.at_ + 1) } }) (zO (hJ3 h () 9))))))))))))))


theorem zmU {a_l zdb r} (h:zfF a_l=some r):Ctr Tryz.prog 123 [ptrv zdb (Fld.id GLex)] [boxE zdb (a_l:GLex)] (Pt [isv r.1,isv r.2.1] [boxE zdb (r.2.2)]):=by
 unfold zfF at h
 refine zi Tryz.func123 e λw0 S0 hT=>ws (oa e (an e (ws (om e (oV (zf e) (oV (zw e GLex.f0 zaG) (oV (zw e GLrd.f1 za0) (oT (tL ty3 e p0 a_l.reader.at_ (zy h λq1 h=>oV (zY e e q1) (oV (zf e) (oV (zw e GLex.f0 zaG) (oV (zw e GLrd.f1 za0) (oT (tS ty3 e e p0 ({ a_l with reader:={ a_l.reader with at_:=(a_l.reader.at_ + 1) } }) (rn (ws (om e (oV (zf e) (oV (zw e GLex.f0 zaG) (oV (zw e GLrd.f1 za0) (oT (tL ty3 e p0 (a_l.reader.at_ + 1) (an e (ss (om e (oV (zf e) (oV (zw e GLex.f0 zaG) (za h λy2 hy2 h=>oT (tC (zaM hy2) hT (s2 e e) k1 ?_))))))))))))))))))))))))))))))
 refine an e (zn (lP h Unit () (λq3 g3=>[(5,isv q3.1)]) (λq3 g3=>[boxE zdb (q3.2:GLex)]) (zA (j:=5) e hI zat) k1 λL4 q3 g3 Q41 h hL4 eL4 rL4=>ss (om e (za h λy23 hy23 h=>oT (tC (zg6 hy23) hT (s1 e) k0 (om e (jO 7 34 h (λq24 h=>?_) λJ25 h hJ25=>oI h (λg26 h=>?_) λg26 h=>oG g26 (zm e) (oG g26 (ziv e e) (oG g26 (zm e) (jO 3 33 h (λq27 h=>?_) λJ28 h hJ28=>oI h (λg29 h=>?_) λg29 h=>oN g29 (oN g29 (oG g26 (zg e g29 e) (hJ28 h 3)))))))))))))
 ·refine rn (zd h e (λ_ h=>?_) (λ_ h=>xn (eL4 _ _ (zu (zp (zE (zcZ 0 .here e (λo32 hn33=>zG (.v 0 (.v 1 (.v 2 (.v 3 (.v 4 (.v 5 (.v 6 (.v 7 (.v 8 (.v 9 (.v 10 (.v 11 (.v 12 .nil))))))))))))) moOrd (by kernel_rfl) (rm e e (zl e (zar e) (zl e (zdI e GLex.f0 zaG) (zl e (zdI e GLrd.f0 zgk) (zl e (vP ty9 e m0 q3.2.reader.s) (rm e e (rm e e (zl e (zar e) (zl e (zdI e GLex.f0 zaG) (zl e (zdI e GLrd.f1 za0) (zl e (vP ty3 e m0 q3.2.reader.at_) (zah h λq34 h=>zl e (zgD st9 e (.inr ⟨_,e,e⟩) (.inr ⟨_,e,e⟩) q34.1 q34.2.1 q34.2.2) (zl e (zaA e) (zaj (zaJ 0 hn33 e (zp (ss (om e (oV (zcf st9 e) (zap h λq35 h=>?_))))))))))))))))))))))))))))
  ·exact wk (zE (zn (zj (om e (oV (zf e) (oV (zw e GLex.f0 zaG) (oV (zw e GLrd.f1 za0) (oT (tL ty3 e p0 q3.2.reader.at_ (zy h λq30 h=>oV (zY e e q30) (oV (zf e) (oV (zw e GLex.f0 zaG) (oV (zw e GLrd.f1 za0) (oT (tS ty3 e e p0 ({ q3.2 with reader:={ q3.2.reader with at_:=(q3.2.reader.at_ + 1) } }) (rb (zp (zj (om e (oV (zf e) (oV (zw e GLex.f0 zaG) (za h λy31 hy31 h=>oT (tC (zaM hy31) hT (s2 e e) k1 (oa e (zO (hL4 h () 19))))))))))))))))))))))))))
  refine oV (zs9 e e q35) (oV (zbt e e) (om e (jo 6 h Unit (λq36 g36=>[(70,isv q36.1)]) (λq36 g36=>[boxE zdb (q36.2:GLex)]) k1 (λq36 g36 h=>?_) λJ37 h hJ37=>oI h (λg38 h=>?_) λg38 h=>oG g38 (zm e) (oG g38 (zf e) (oG g38 (zw e GLex.f0 zaG) (za h λy39 hy39 h=>oH g38 (tC (zdd hy39) hT (s2 e e) k1 (oG g38 (zaX e) (oV (zg e g38 e) (hJ37 h () 6))))))))))
  ·refine rn (zd h e (λ_ h=>?_) (λ_ h=>wk (ws (om e (oV (zf e) (oV (zw e GLex.f0 zaG) (oV (zw e GLrd.f1 za0) (oT (tL ty3 e p0 q36.2.reader.at_ (zy h λq40 h=>oV (zY e e q40) (oV (zf e) (oV (zw e GLex.f0 zaG) (oV (zw e GLrd.f1 za0) (oT (tS ty3 e e p0 ({ q36.2 with reader:={ q36.2.reader with at_:=(q36.2.reader.at_ + 2) } }) (rn (ws (om e (oa e (ar e (ze (r2 e e) k1 (iS h ▸ ⟨e,e⟩))))))))))))))))))))))
   exact ws (oa e (ar e (zF (ze (r2 e e) k1 (iS h ▸ ⟨e,e⟩)))))
  exact oN g38 (oN g38 (oN g38 (oN g38 (oN g38 (oV (zh e g38 e) (hJ37 h () 6))))))
 ·exact oN g26 (oN g26 (oN g26 (oU (oU (oN g26 (oV (zh e g26 e) (hJ25 h 7)))))))
 ·exact oV (zg e g26 e) (hJ25 h 5)
 exact oG g29 (zm e) (oG g29 (zgs e e) (oG g26 (zh e g29 e) (hJ28 h 3)))


theorem zms {a_l zdb r} (h:zfk a_l=some r):Ctr Tryz.prog 124 [ptrv zdb (Fld.id GLex)] [boxE zdb (a_l:GLex)] (Pt [isv r.1,isv r.2.1] [boxE zdb (r.2.2)]):=by
 unfold zfk at h
 refine zi Tryz.func124 e λw0 S0 hT=>ws (oa e (an e (ws (an e (ss (om e (oV (zf e) (oV (zw e GLex.f0 zaG) (oV (zw e GLrd.f1 za0) (oT (tL ty3 e p0 a_l.reader.at_ (zy h λq1 h=>oV (zY e e q1) (oV (zf e) (oV (zw e GLex.f0 zaG) (oV (zw e GLrd.f1 za0) (oT (tS ty3 e e p0 ({ a_l with reader:={ a_l.reader with at_:=(a_l.reader.at_ + 1) } }) (rn (zn (zg5 (zbx) (lP h Tok none (λq2 g2=>[(0,ptrv zdb (Fld.id GLex)),(4,appv g2 q2.1)]) (λq2 g2=>[tokE g2,boxE zdb (q2.2:GLex)]) (zA (j:=0) e hI (zA (j:=4) e zcn zat)) k2 λL3 q2 g2 Q31 h hL3 eL3 rL3=>zE (zE (zcZ 0 (.there .here) e (λo17 hn18=>zG (.v 0 (.v 1 (.v 2 (.v 3 (.v 4 (.v 5 (.v 6 (.v 7 (.v 8 (.v 9 (.v 10 (.v 11 .nil)))))))))))) moOrd (by kernel_rfl) (rm e e (zl e (zar e) (zl e (zdI e GLex.f0 zaG) (zl e (zdI e GLrd.f1 za0) ?_))))))))))))))))))))))))))))
 refine zl e (vP ty3 e m0 q2.2.reader.at_) (rm e e (zl e (zar e) (zl e (zdI e GLex.f0 zaG) (zl e (zdI e GLrd.f0 zgk) (zl e (vP ty9 e m0 q2.2.reader.s) (zl e (zcf st9 e) (zl e (zas e e) (zaj (zaJ 0 hn18 e (zp (zd h e (λ_ h=>?_) (λ_ h=>xn (eL3 _ _ (zu (zp (ws (oa e (ar e (ze (r2 e e) k1 (iS h ▸ ⟨e,e⟩))))))))))))))))))))
 refine wk (zE (zn (ss (om e (oV (zf e) (oV (zw e GLex.f0 zaG) (za h λy19 hy19 h=>oT (tC (zaM hy19) hT (s2 e e) k1 (oV (zaT eq5 e e) (rn (jw h Unit (λq20 g20=>[]) (λq20 g20=>[boxE zdb (q20:GLex)]) k1 (λq20 g20 h=>?_) λJ21 h hJ21=>zd h e (λ_ h=>?_) (λ_ h=>zC (hJ21 h () 0)))))))))))))
 ·exact zj (om e (om e (oV (zf e) (oV (zw e GLex.f0 zaG) (za h λy25 hy25 h=>oT (tC (zaM hy25) hT (s2 e e) k1 (oT (zB (l:=([y25.1]:(List UInt8))) el22 (.cons e hI .nil) e e (zap h λq28 h=>oT (zcg (l:=q2.1) (m:=([y25.1]:(List UInt8))) zkJ e hI e zx (.there .here) q28 λt27=>oa e (rb (zp (zj (om e (oV (zf e) (oV (zw e GLex.f0 zaG) (oV (zw e GLrd.f1 za0) (oT (tL ty3 e p1 y25.2.reader.at_ (zy h λq29 h=>oV (zY e e q29) (oV (zf e) (oV (zw e GLex.f0 zaG) (oV (zw e GLrd.f1 za0) (oT (tS ty3 e e p1 ({ y25.2 with reader:={ y25.2.reader with at_:=(y25.2.reader.at_ + 1) } }) (zO (hL3 h t27 38)))))))))))))))))))))))))))
 refine ws (om e (oV (zf e) (oV (zw e GLex.f0 zaG) (oV (zw e GLrd.f1 za0) (oT (tL ty3 e p0 y19.2.reader.at_ (zy h λq22 h=>oV (zY e e q22) (oV (zf e) (oV (zw e GLex.f0 zaG) (oV (zw e GLrd.f1 za0) (oT (tS ty3 e e p0 ({ y19.2 with reader:={ y19.2.reader with at_:=(y19.2.reader.at_ + 1) } }) (rn (ws (om e (oV (zf e) (oV (zw e GLex.f0 zaG) (za h λy23 hy23 h=>oT (tC (zaM hy23) hT (s2 e e) k1 (oV (zi0 eq5 e e) (rn (zd h e (λ_ h=>?_) (λ_ h=>zC (hJ21 h () 14))))))))))))))))))))))))
 refine ss (om e (za h λy24 hy24 h=>oT (tC (zjD hy24) hT (.cons e zx .nil) k0 (oV (zaX e) (rn (zd h e (λ_ h=>?_) (λ_ h=>wk (zE (zG (.v 0 (.v 1 (.v 2 (.v 3 .nil)))) moOrd (by kernel_rfl) (rm e e (zl e (zor (l:=q2.1) Tryz.underlying22 Tryz.underlying5 Tryz.underlying9 e zx) (zl e (zaA e) (zl e (zaA e) (zaj (zp (zbM (zF (bn (rL3 _ (bn (ze (r2 e e) k1 (iS h ▸ ⟨e,e⟩))))))))))))))))))))))
 exact ws (oa e (ar e (zF (zF (bn (rL3 _ (bn (ze (r2 e e) k1 (iS h ▸ ⟨e,e⟩)))))))))


theorem zmq {a_l zdb r} (h:zfn a_l=some r):Ctr Tryz.prog 125 [ptrv zdb (Fld.id GLex)] [boxE zdb (a_l:GLex)] (Pt [isv r.1,isv r.2.1] [boxE zdb (r.2.2)]):=by
 unfold zfn at h
 refine zi Tryz.func125 e λw0 S0 hT=>ws (oa e (an e (ss (oT (zB (l:=([(Str.mk [58,58,61]),(Str.mk [46,46,46]),(Str.mk [46,46]),(Str.mk [91,91]),(Str.mk [93,93]),(Str.mk [123]),(Str.mk [125]),(Str.mk [91]),(Str.mk [93]),(Str.mk [40]),(Str.mk [41]),(Str.mk [44]),(Str.mk [58])]:(List Str))) el27 (.cons e hI (.cons e hI (.cons e hI (.cons e hI (.cons e hI (.cons e hI (.cons e hI (.cons e hI (.cons e hI (.cons e hI (.cons e hI (.cons e hI (.cons e hI .nil))))))))))))) e e (oV (zlM (l:=([(Str.mk [58,58,61]),(Str.mk [46,46,46]),(Str.mk [46,46]),(Str.mk [91,91]),(Str.mk [93,93]),(Str.mk [123]),(Str.mk [125]),(Str.mk [91]),(Str.mk [93]),(Str.mk [40]),(Str.mk [41]),(Str.mk [44]),(Str.mk [58])]:(List Str))) e zx sl27) (om e (rn (zn (lP h Unit () (λq2 g2=>[(8,isv q2.1)]) (λq2 g2=>[boxE zdb (q2.2:GLex)]) (zA (j:=8) e hI zat) k1 λL3 q2 g2 Q12 h hL3 eL3 rL3=>ws (oV (zas e e) (rn (zE (zd h e (λ_ h=>?_) (λ_ h=>xn (eL3 _ _ (zu (zp (ws (oa e (ar e (ze (r2 e e) k1 (iS h ▸ ⟨e,e⟩)))))))))))))))))))))))
 refine wk (zE (zn (ws (za h λy8 hy8 h=>oV (zlm (l:=([(Str.mk [58,58,61]),(Str.mk [46,46,46]),(Str.mk [46,46]),(Str.mk [91,91]),(Str.mk [93,93]),(Str.mk [123]),(Str.mk [125]),(Str.mk [91]),(Str.mk [93]),(Str.mk [40]),(Str.mk [41]),(Str.mk [44]),(Str.mk [58])]:(List Str))) e zx e sl27 hy8) (oV (zb ty9 e) (an e (ws (om e (oV (zf e) (oV (zw e GLex.f0 zaG) (om e (za h λy9 hy9 h=>oT (tC (zdd hy9) hT (s2 e e) k1 (rn (zd h e (λ_ h=>?_) (λ_ h=>zC (zs (zp (zj (zy h λq11 h=>oV (zY e e q11) (om e (zO (hL3 h () 12)))))))))))))))))))))))
 exact ws (om e (oV (zf e) (oV (zw e GLex.f0 zaG) (oV (zw e GLrd.f1 za0) (oT (tL ty3 e p0 y9.2.reader.at_ (om e (oV (zcf st9 e) (zy h λq10 h=>oV (zY e e q10) (oV (zf e) (oV (zw e GLex.f0 zaG) (oV (zw e GLrd.f1 za0) (oT (tS ty3 e e p0 ({ y9.2 with reader:={ y9.2.reader with at_:=(y9.2.reader.at_ + (y8.b.length:Int)) } }) (rn (ws (om e (oa e (ar e (bn (rL3 _ (bn (ze (r2 e e) k1 (iS h ▸ ⟨e,e⟩))))))))))))))))))))))))


theorem zl0 {a_l zdb r} (h:zeV a_l=some r):Ctr Tryz.prog 66 [ptrv zdb (Fld.id GLex)] [boxE zdb (a_l:GLex)] (Pt [isv r.1,isv r.2.1] [boxE zdb (r.2.2)]):=by
 unfold zeV at h
 refine zi Tryz.func66 e λw0 S0 hT=>ws (oa e (an e (ss (om e (oV (zf e) (oV (zw e GLex.f0 zaG) (za h λy1 hy1 h=>oT (tC (zaM hy1) hT (s2 e e) k1 (an e (zn (ws (om e (za h λy2 hy2 h=>oT (tC (zjc hy2) hT (s1 e) k0 (an e (zd h e (λ_ h=>?_) (λ_ h=>ws (om e (za h λy4 hy4 h=>oT (tC (zg6 hy4) hT (s1 e) k0 (om e (jo 10 h Unit (λq5 g5=>[(29,isv q5.1)]) (λq5 g5=>[boxE zdb (q5.2:GLex)]) k1 (λq5 g5 h=>?_) λJ6 h hJ6=>oI h (λg7 h=>?_) λg7 h=>oG g7 (zm e) (oG g7 (zaT eq5 e e) (oG g7 (zm e) (jo 6 h Unit (λq8 g8=>[(28,isv q8.1)]) (λq8 g8=>[boxE zdb (q8.2:GLex)]) k1 (λq8 g8 h=>?_) λJ9 h hJ9=>oI h (λg10 h=>?_) λg10 h=>?_)))))))))))))))))))))))))
 ·exact ws (om e (za h λy3 hy3 h=>oT (tC (zmo hy3) hT (s1 e) k1 (oV (zr e e) (oV (zr e e) (oa e (ar e (bn (ze (r2 e e) k1 (iS h ▸ ⟨e,e⟩))))))))))
 ·refine an e (zd h e (λ_ h=>?_) (λ_ h=>ws (om e (oV (zaT eq5 e e) (an e (zd h e (λ_ h=>?_) (λ_ h=>ws (om e (oV (zaT eq5 e e) (an e (zd h e (λ_ h=>?_) (λ_ h=>zC (zs (zp (ws (om e (za h λy16 hy16 h=>oT (tC (zmq hy16) hT (s1 e) k1 (oV (zr e e) (oV (zr e e) (oa e (ar e (ze (r2 e e) k1 (iS h ▸ ⟨e,e⟩))))))))))))))))))))))))
  ·exact ws (om e (za h λy13 hy13 h=>oT (tC (zld hy13) hT (s1 e) k1 (oV (zr e e) (oV (zr e e) (oa e (ar e (bn (ze (r2 e e) k1 (iS h ▸ ⟨e,e⟩))))))))))
  ·exact ws (om e (za h λy14 hy14 h=>oT (tC (zmU hy14) hT (s1 e) k1 (oV (zr e e) (oV (zr e e) (oa e (ar e (bn (ze (r2 e e) k1 (iS h ▸ ⟨e,e⟩))))))))))
  exact ws (om e (za h λy15 hy15 h=>oT (tC (zms hy15) hT (s1 e) k1 (oV (zr e e) (oV (zr e e) (oa e (ar e (bn (ze (r2 e e) k1 (iS h ▸ ⟨e,e⟩))))))))))
 ·exact oN g7 (oN g7 (oN g7 (oU (oU (oU (oU (oU (oN g7 (oV (zh e g7 e) (hJ6 h () 10))))))))))
 ·exact oV (zg e g7 e) (hJ6 h () 5)
 ·exact oG g10 (zm e) (oG g10 (zf e) (oG g10 (zw e GLex.f0 zaG) (za h λy11 hy11 h=>oH g10 (tC (zaM hy11) hT (s2 e e) k1 (za h λy12 hy12 h=>oH g10 (tC (zg6 hy12) hT (s1 e) k0 (oG g7 (zh e g10 e) (hJ9 h () 6))))))))
 exact oN g10 (oN g10 (oN g10 (oN g10 (oN g10 (oG g7 (zg e g10 e) (hJ9 h () 6))))))


theorem zpj {zaQ r} (h:zhH zaQ=some r):Ctr Tryz.prog 29 [isv zaQ] [] (Pt [isv r.1,isv r.2.1,isv r.2.2] []):=by
 unfold zhH at h
 refine zi Tryz.func29 e λw0 S0 hT=>ws (oa e (oa e (an e (ss (om e (oV (zcf st9 e) (oV (zcl e e) (rn (zd h e (λ_ h=>?_) (λ_ h=>wk (ws (om e (oV (zam (z:=(GLrd.mk zaQ (0:Int))) e bu141 ze141 (.cons GLrd.f0 zgk e hI .nil)) (oV (zam (z:=(GLex.mk (GLrd.mk zaQ (0:Int)))) e bu143 ze143 (.cons GLex.f0 zaG e hI .nil)) (oT (zki (y:=(GLex.mk (GLrd.mk zaQ (0:Int)))) e hI λb1=>an e (ws (an e (ss (om e (oV (zf e) (oV (zw e GLex.f0 zaG) (za h λy2 hy2 h=>oT (tC (zia hy2) hT (s1 e) k1 (rn (zn (zg5 (zbx) (lP h Tok none (λq3 g3=>[(6,appv g3 q3.1)]) (λq3 g3=>[tokE g3,boxE b1 (q3.2:GLex)]) (zA (j:=6) e zcn zat) k2 λL4 q3 g3 Q22 h hL4 eL4 rL4=>?_))))))))))))))))))))))))))))
 ·exact ws (oa e (oa e (ar e (zF (ze (.as e (zeR (α:=GTok)) (.tmp e (.tmp e .nil))) k0 (iS h ▸ ⟨e,e⟩))))))
 refine ss (om e (oV (zf e) (oV (zw e GLex.f0 zaG) (oV (zw e GLrd.f1 za0) (oT (tL ty3 e p1 q3.2.reader.at_ (om e (oV (zcf st9 e) (oV (zas e e) (rn (zd h e (λ_ h=>?_) (λ_ h=>xn (eL4 _ _ (zu (zp (ws (om e (om e (oV (zcf st9 e) (oV (zam (z:=(GTok.mk (0:Int) (Str.mk []) (zaQ.b.length:Int))) e bu80 ze80 (.cons GTok.f2 zmE e hI .nil)) (oT (zB (l:=([(GTok.mk (0:Int) (Str.mk []) (zaQ.b.length:Int))]:(List GTok))) el69 (.cons e hI .nil) e e (zap h λq20 h=>oT (zcg (l:=q3.1) (m:=([(GTok.mk (0:Int) (Str.mk []) (zaQ.b.length:Int))]:(List GTok))) zna e hI e zx .here q20 λt19=>oa e (oa e (ar e (ze (.as e zx (.tmp e (.tmp e .nil))) k0 (iS h ▸ ⟨e,e⟩))))))))))))))))))))))))))))
 refine wk (zE (zn (ws (om e (oV (zf e) (oV (zw e GLex.f0 zaG) (oV (zw e GLrd.f1 za0) (oT (tL ty3 e p1 q3.2.reader.at_ (an e (ws (om e (za h λy13 hy13 h=>oT (tC (zl0 hy13) hT (s1 e) (a1 k0) (om e (oV (zr e e) (oV (zr e e) (oa e (an e (ss (om e (oV (zM e e) (rn (zd h e (λ_ h=>?_) (λ_ h=>wk (zj (om e (om e (om e (om e ?_))))))))))))))))))))))))))))))
 ·exact ws (om e (oa e (oa e (ar e (zF (bn (rL4 _ (bn (ze (.as e (zeR (α:=GTok)) (.tmp e (.tmp e .nil))) k0 (iS h ▸ ⟨e,e⟩))))))))))
 exact oV (zam (z:=(GTok.mk y13.1 y13.2.1 q3.2.reader.at_)) e bu80 ze80 (.cons GTok.f0 zdq e hI (.cons GTok.f1 zeJ e hI (.cons GTok.f2 zmE e hI .nil)))) (oT (zB (l:=([(GTok.mk y13.1 y13.2.1 q3.2.reader.at_)]:(List GTok))) el69 (.cons e hI .nil) e e (zap h λq16 h=>oT (zcg (l:=q3.1) (m:=([(GTok.mk y13.1 y13.2.1 q3.2.reader.at_)]:(List GTok))) zna e hI e zx (.there .here) q16 λt15=>oa e (rb (zp (zj (om e (oV (zf e) (oV (zw e GLex.f0 zaG) (za h λy17 hy17 h=>oT (tC (zia hy17) hT (s1 e) (a1 k0) (zO (hL4 h t15 36))))))))))))))

end Go.Proofs.Q


namespace Go.Proofs.Q
open Go.Sy
set_option maxRecDepth 4000
theorem za9 {a_p zly zaW zfc r} (h:zaE a_p zly=some r):Ctr Tryz.prog 56 [ptrv zaW (Fld.id GNprOT),isv zly] [boxE zaW (GNprO a_p zfc),vecE zfc a_p.b] (Pt1 (λ_=>[]) λu1=>[boxE zaW (GNprO r u1),vecE u1 r.b]):=by
 unfold zaE at h
 refine zi Tryz.func56 e λw0 S0 hT=>ws (om e (oV (vN e sl27) (om e (rn (zn (lP h Vt zfc (λq2 g2=>[(8,isv q2.1)]) (λq2 g2=>[boxE zaW (GNprO q2.2 g2),vecE g2 q2.2.b]) (zA (j:=8) e hI zat) k2 λL3 q2 g2 Q12 h hL3 eL3 rL3=>ws (oV (zas e e) (rn (zE (zd h e (λ_ h=>?_) (λ_ h=>xn (eL3 _ _ (zu (zaL .nil k2 (iS h ▸ ⟨g2,e,e⟩)))))))))))))))
 exact wk (zE (zn (ws (za h λy8 hy8 h=>oV (vX e e sl27 hy8) (oV (zb ty9 e) (an e (zj (om e (om e (oV (zf e) (oV (zw e zfI ziw) (oT (zaP (R:=vecv g2 (q2.2.b.length)) ty22 e p0 isvV1 (om e (zap h λq10 h=>oT (zuE zwa e e (.there .here) (by first | rfl | simp) q10 λv9=>oV (zf e) (oV (zw e zfI ziw) (oT (tR ty22 e e isvV2 p1 (GNprO {q2.2 with b:=(q2.2.b ++ y8.b)} v9) e (rb (zp (zj (zy h λq11 h=>oV (zY e e q11) (om e (zO (hL3 h v9 16))))))))))))))))))))))))))


theorem zqJ {a_b r} (h:ziC a_b=some r):Ctr Tryz.prog 114 [isv a_b] [] (Pt [isv r] []):=by
 unfold ziC at h
 refine zi Tryz.func114 e λw0 S0 hT=>ws (an e (ws (oT (zB (l:=([(39:UInt8)]:(List UInt8))) el22 (.cons e hI .nil) e e (an e (ss (om e (oV (vN e sl22) (om e (rn (zn (zg5 (zbx) (lP h Tok none (λq2 g2=>[(3,appv g2 q2.1),(9,isv q2.2)]) (λq2 g2=>[tokE g2]) (zA (j:=3) e hI (zA (j:=9) e hI zat)) k1 λL3 q2 g2 Q26 h hL3 eL3 rL3=>ws (oV (zas e e) (rn (zE (zd h e (λ_ h=>?_) (λ_ h=>xn (eL3 _ _ (zu (zp (ws (om e (oT (zB (l:=([(39:UInt8),(72:UInt8)]:(List UInt8))) el22 (.cons e hI (.cons e hI .nil)) e e (zap h λq25 h=>oT (zcg (l:=q2.1) (m:=([(39:UInt8),(72:UInt8)]:(List UInt8))) zkJ e hI e zx .here q25 λt24=>oV (zor (l:=(q2.1 ++ ([(39:UInt8),(72:UInt8)]:(List UInt8)))) Tryz.underlying22 Tryz.underlying5 Tryz.underlying9 e zx) (ar e ?_))))))))))))))))))))))))))))
 ·refine wk (zE (zn (ws (za h λy15 hy15 h=>oV (vX e e sl22 hy15) (oV (zb ty5 e) (an e (zG (.v 0 (.v 1 (.v 2 (.v 3 (.v 4 (.v 5 (.v 6 (.t 7 (.t 8 (.v 9 .nil)))))))))) moOrd (by kernel_rfl) (rm e e (rm e e (zap h λq16 h=>zl e (zqR e e q16) (za h λy17 hy17 h=>zl e (zrD y17 st9 e e hy17) (rm e e (zl e (znr e e) (za h λy18 hy18 h=>zl e (zrD y18 st9 e e hy18) (rT e (zB (l:=([y17,y18]:(List UInt8))) el22 (.cons e hI (.cons e hI .nil)) e e (zap h λq21 h=>rT e (zcg (l:=q2.1) (m:=([y17,y18]:(List UInt8))) zkJ e hI e zx .here q21 λt20=>zl e (zaA e) (zaj (zs (zp (zj (zy h λq22 h=>oV (zY e e q22) (om e ?_))))))))))))))))))))))))
  exact zO (hL3 h t20 18)
 exact ze (r1 e) k0 (iS h ▸ ⟨e,e⟩)


theorem zoe {a_v r} (h:zf7 a_v=some r):Ctr Tryz.prog 62 [isv a_v] [] (Pt [isv r] []):=by
 unfold zf7 at h
 refine zi Tryz.func62 e λw0 S0 hT=>ws (oT (tB e (an e (ss (oV (vI e Val.f0 zdg a_v.kind) (oV (zb ty3 e) (rn (zn (ws (oV (zM e e) (an e (zd h e (λ_ h=>?_) (λ_ h=>ws (oV (zM e e) (an e (zd h e (λ_ h=>?_) (λ_ h=>ws (oV (zM e e) (an e (zd h e (λ_ h=>?_) (λ_ h=>ws (oV (zM e e) (an e (zd h e (λ_ h=>?_) (λ_ h=>ws (oV (zM e e) (an e (zd h e (λ_ h=>?_) (λ_ h=>ws ?_)))))))))))))))))))))))))))))
 ·refine ss (oV (vI e Val.f1 zcy a_v.n) (oV (zb ty2 e) (oV (zbt e e) (rn (zd h e (λ_ h=>?_) (λ_ h=>wk (ws (ar e (bn (ze (r1 e) k0 (iS h ▸ ⟨e,e⟩)))))))))))
  exact ws (ar e (zF (bn (ze (r1 e) k0 (iS h ▸ ⟨e,e⟩)))))
 ·exact ws (ar e (bn (ze (r1 e) k0 (iS h ▸ ⟨e,e⟩))))
 ·exact ws (oV (vI e Val.f1 zcy a_v.n) (oV (zb ty2 e) (za h λy1 hy1 h=>oT (tC (zkW hy1) hT (s2 e e) k0 (ar e (bn (ze (r1 e) k0 (iS h ▸ ⟨e,e⟩))))))))
 ·exact ws (oV (vI e Val.f2 zdp a_v.b) (oV (zb ty22 e) (oV (zor (l:=a_v.b) Tryz.underlying22 Tryz.underlying5 Tryz.underlying9 e hI) (ar e (bn (ze (r1 e) k0 (iS h ▸ ⟨e,e⟩)))))))
 ·exact ws (oV (vI e Val.f2 zdp a_v.b) (oV (zb ty22 e) (za h λy2 hy2 h=>oT (tC (zqJ hy2) hT (s1 e) k0 (ar e (bn (ze (r1 e) k0 (iS h ▸ ⟨e,e⟩))))))))
 refine oV (zM e e) (an e (zd h e (λ_ h=>?_) (λ_ h=>zC (zs (zp (ws (ar e (ze (r1 e) k0 (iS h ▸ ⟨e,e⟩)))))))))
 exact ws (oV (vI e Val.f2 zdp a_v.b) (oV (zb ty22 e) (oV (zor (l:=a_v.b) Tryz.underlying22 Tryz.underlying5 Tryz.underlying9 e hI) (za h λy3 hy3 h=>oT (tC (zke hy3) hT (s3 e e e) k0 (zap h λq4 h=>oV (zrA e e q4) (zap h λq5 h=>oV (zrA e e q5) (ar e (bn (ze (r1 e) k0 (iS h ▸ ⟨e,e⟩)))))))))))


def zbL (f':Int->GNpr->GTyp->Val->Option (Bool × GNpr)):Prop :=
 ∀ {a_k a_a1 a_a2 a_a3 zfj zpx r},f' a_k a_a1 a_a2 a_a3=some r->Ctr Tryz.prog 59 [isv a_k,immv (PtrB.mk zfj),immv (a_a2),immv (a_a3)] [boxE zfj (GNprO a_a1 zpx),vecE zpx a_a1.b] (Pt1 (λ_=>[isv r.1]) λu1=>[boxE zfj (GNprO r.2 u1),vecE u1 r.2.b])
def zbR (f':GNpr->Int->Val->Option (GNpr)):Prop :=
 ∀ {a_p a_i a_v zaW zfc r},f' a_p a_i a_v=some r->Ctr Tryz.prog 27 [ptrv zaW (Fld.id GNprOT),isv a_i,isv a_v] [boxE zaW (GNprO a_p zfc),vecE zfc a_p.b] (Pt1 (λ_=>[]) λu1=>[boxE zaW (GNprO r u1),vecE u1 r.b])
def zb8 (f':GNpr->Int->GTyp->Val->Option (GNpr)):Prop :=
 ∀ {a_p a_n_ zed zcC zaW zfc r},f' a_p a_n_ zed zcC=some r->Ctr Tryz.prog 58 [ptrv zaW (Fld.id GNprOT),isv a_n_,clov 59 [immv (PtrB.mk zaW),immv (zed),immv (zcC)]] [boxE zaW (GNprO a_p zfc),vecE zfc a_p.b] (Pt1 (λ_=>[]) λu1=>[boxE zaW (GNprO r u1),vecE u1 r.b])
def zbJ (f':GNpr->Int->Val->GTyp->Option (GNpr)):Prop :=
 ∀ {a_p a_n_ zlP zcC zaW zfc r},f' a_p a_n_ zlP zcC=some r->Ctr Tryz.prog 58 [ptrv zaW (Fld.id GNprOT),isv a_n_,clov 60 [immv (zlP),immv (PtrB.mk zaW),immv (zcC)]] [boxE zaW (GNprO a_p zfc),vecE zfc a_p.b] (Pt1 (λ_=>[]) λu1=>[boxE zaW (GNprO r u1),vecE u1 r.b])
def zbH (f':Int->Val->GNpr->GTyp->Option (Bool × GNpr)):Prop :=
 ∀ {a_k a_a1 a_a2 a_a3 zjr zm6 r},f' a_k a_a1 a_a2 a_a3=some r->Ctr Tryz.prog 60 [isv a_k,immv (a_a1),immv (PtrB.mk zjr),immv (a_a3)] [boxE zjr (GNprO a_a2 zm6),vecE zm6 a_a2.b] (Pt1 (λ_=>[isv r.1]) λu1=>[boxE zjr (GNprO r.2 u1),vecE u1 r.2.b])
theorem zit {zae zag zai zad zac} (zcH:zbL zae) (zci:zbR zag) (zda:zb8 zai) (zcP:zbJ zad) (zcO:zbH zac):zbL (zcM zae zag zai zad zac):=by
 intro a_k a_a1 a_a2 a_a3 zfj zpx r h
 unfold zcM at h
 exact zi Tryz.func59 e λw0 S0 hT=>ws (an e (zE (zG (.v 0 (.v 1 (.v 2 (.v 3 (.v 4 (.v 5 (.v 6 (.v 7 (.t 8 .nil))))))))) moOrd (by kernel_rfl) (zl e (za4 (α:=GNprOT) ty64 e) (zl e (vI e GTyp.f7 zm8 a_a2.of) (zl e (zb ty3 e) (zl e (vI e Val.f3 zcS a_a3.l) (zl e (zb ty23 e) (rm e e (za h λy2 hy2 h=>zl e (vX e e sl23 hy2) (zl e (zb ty26 e) (za h λy3 hy3 h=>rT e (tC1 (zci hy3) hT (s3 e e e) k2 (λv4=>zaj (zp (ws (ar e (ze (r1 e) k2 (iS h ▸ ⟨v4,e,e⟩)))))))))))))))))))

theorem zjK {zae zag zai zad zac} (zcH:zbL zae) (zci:zbR zag) (zda:zb8 zai) (zcP:zbJ zad) (zcO:zbH zac):zbR (zdw zae zag zai zad zac):=by
 intro a_p a_i a_v zaW zfc r h
 unfold zdw at h
 refine zi Tryz.func27 e λw0 S0 hT=>ws (oT (zi8 (y:=PtrB.mk zaW) e zkv (oT (tB e (rn (ws (oV (za4 (α:=GNprOT) ty64 e) (oV (zf e) (oV (zw e zqq ztB) (oV (zw e GTab.f3 zfD) (oT (tL ty29 e p0 a_p.t.types (om e (za h λy2 hy2 h=>oV (vX e e sl29 hy2) (oV (zb ty129 e) (oT (zV _ ze129 λb3=>oT (tS ty129 e e p0 y2 (zaf (zaF 6 .here e) (rn (ws (oV (vI e GTyp.f0 zdB y2.kind) (oV (zb ty3 e) (rn (zn (ws (oV (zM e e) (an e (zd h e (λ_ h=>?_) (λ_ h=>ws (oV (zM e e) ?_)))))))))))))))))))))))))))))))
 ·exact zG (.v 0 (.v 1 (.v 2 (.v 3 (.v 4 (.v 5 (.t 6 (.v 7 (.v 8 (.v 9 (.t 10 (.t 11 .nil)))))))))))) moOrd (by kernel_rfl) (zl e (za4 (α:=GNprOT) ty64 e) (zl e (vI e GTyp.f3 zh2 y2.items) (zl e (zb ty126 e) (zl e (zb ty129 e) (zl e (vI e Val.f1 zcy a_v.n) (zl e (zb ty2 e) (za h λy4 hy4 h=>rT e (tC (zjE hy4) hT (s2 e e) k0 (za h λy5 hy5 h=>zl e (vX e e sl126 hy5) (zl e (vI e GItem.f0 zkA y5.name) (zl e (zb ty9 e) (rT e (zB (l:=([y5.name]:(List Str))) el27 (.cons e hI .nil) e e (za h λy7 hy7 h=>rT e (tC1 (za9 hy7) hT (.same e (.cons e zx .nil)) k2 (λv8=>zaj (zs (zaL .nil k2 (iS h ▸ ⟨v8,e,e⟩)))))))))))))))))))
 refine an e (zd h e (λ_ h=>?_) (λ_ h=>ws (oV (zM e e) (an e (zd h e (λ_ h=>?_) (λ_ h=>ss (oV (zM e e) (an e (jW 66 h (λq19 h=>?_) λJ20 h hJ20=>zd h e (λ_ h=>?_) (λ_ h=>zj (oV (zM e e) (oa e (zO (hJ20 h 2))))))))))))))
 ·exact zj (oV (za4 (α:=GNprOT) ty64 e) (oV (vI e Val.f3 zcS a_v.l) (oV (zb ty23 e) (oV (vN e sl23) (oV (zfg (.same e (.same e (.same e .nil)))) (za h λy9 hy9 h=>oT (tC1 (zda hy9) hT (s3 e e e) k2 (λv10=>rb (zaL .nil k2 (iS h ▸ ⟨v10,e,e⟩))))))))))
 ·refine ws (oV (vI e GTyp.f4 zbd y2.fields) (oV (zb ty127 e) (oV (vI e Val.f1 zcy a_v.n) (oV (zb ty2 e) (za h λy11 hy11 h=>oV (vX e e sl127 hy11) (oV (zb ty137 e) (oT (zV _ ze137 λb12=>oT (tS ty137 e e p0 y11 (zaf (zaF 7 .here e) (rn (ws (oV (za4 (α:=GNprOT) ty64 e) (oV (vI e GFld.f0 zkr y11.name) (oV (zb ty9 e) (oT (zB (l:=([y11.name,(Str.mk [32,58,32])]:(List Str))) el27 (.cons e hI (.cons e hI .nil)) e e (za h λy14 hy14 h=>oT (tC1 (za9 hy14) hT (.same e (.cons e zx .nil)) k2 (λv15=>rn (zG (.v 0 (.v 1 (.v 2 (.v 3 (.v 4 (.v 5 (.v 6 (.t 7 .nil)))))))) moOrd (by kernel_rfl) (zl e (za4 (α:=GNprOT) ty64 e) (zl e (vI e GFld.f1 zdy y11.ty) (zl e (zb ty3 e) (zl e (vI e Val.f3 zcS a_v.l) (zl e (zb ty23 e) (za h λy16 hy16 h=>zl e (vX e e sl23 hy16) (zl e (zb ty26 e) (za h λy17 hy17 h=>?_)))))))))))))))))))))))))))))
  exact rT e (tC1 (zci hy17) hT (s3 e e e) k2 (λv18=>zaj (zs (zaL .nil k2 (iS h ▸ ⟨v18,e,e⟩)))))
 ·refine zd h e (λ_ h=>?_) (λ_ h=>zG (.v 0 (.v 1 (.t 2 (.t 3 (.t 4 .nil))))) moOrd (by kernel_rfl) (zl e (za4 (α:=GNprOT) ty64 e) (zl e (zb ty26 e) (za h λy23 hy23 h=>rT e (tC (zoe hy23) hT (s1 e) k0 (rT e (zB (l:=([y23]:(List Str))) el27 (.cons e hI .nil) e e (za h λy25 hy25 h=>rT e (tC1 (za9 hy25) hT (.same e (.cons e zx .nil)) k2 (λv26=>zaj (zs (zaL .nil k2 (iS h ▸ ⟨v26,e,e⟩)))))))))))))
  exact zj (oV (za4 (α:=GNprOT) ty64 e) (oV (vI e Val.f3 zcS a_v.l) (oV (zb ty23 e) (oV (vN e sl23) (oV (zfg (.same e (.same e (.same e .nil)))) (za h λy21 hy21 h=>oT (tC1 (zcP hy21) hT (s3 e e e) k2 (λv22=>rb (zaL .nil k2 (iS h ▸ ⟨v22,e,e⟩))))))))))
 exact zC (hJ20 h 0)

theorem zjq {zae zag zai zad zac} (zcH:zbL zae) (zci:zbR zag) (zda:zb8 zai) (zcP:zbJ zad) (zcO:zbH zac):zb8 (zdc zae zag zai zad zac):=by
 intro a_p a_n_ zed zcC zaW zfc r h
 unfold zdc at h
 refine zi Tryz.func58 e λw0 S0 hT=>ws (an e (ss (om e (om e (rn (zn (lP h Vt zfc (λq2 g2=>[(6,isv q2.1),(10,isv q2.2.1)]) (λq2 g2=>[boxE zaW (GNprO q2.2.2 g2),vecE g2 q2.2.2.b]) (zA (j:=6) e hI (zA (j:=10) e hI zat)) k2 λL3 q2 g2 Q38 h hL3 eL3 rL3=>ws (oV (zas e e) (rn (zE (zd h e (λ_ h=>?_) (λ_ h=>xn (eL3 _ _ (zu (zp (ss (om e (rn (zd h e (λ_ h=>?_) (λ_ h=>wk (zj (om e (oT (zB (l:=([(Str.mk [32,125])]:(List Str))) el27 (.cons e hI .nil) e e (za h λy36 hy36 h=>oT (tC1 (za9 hy36) hT (.same e (.cons e zx .nil)) k2 (λv37=>zO (zaL .nil k2 (iS h ▸ ⟨v37,e,e⟩)))))))))))))))))))))))))))))
 ·refine wk (zE (jw h Vt (λq18 g18=>[(6,isv q18.1)]) (λq18 g18=>[boxE zaW (GNprO q18.2 g18),vecE g18 q18.2.b]) k2 (λq18 g18 h=>?_) λJ19 h hJ19=>zn (ws (om e (an e (ws (om e (oV (zf e) (oV (zw e zfI ziw) (oT (zaP (R:=vecv g2 (q2.2.2.b.length)) ty22 e p0 isvV1 (oV (zhM sl22 e) (an e (ss (om e (rn (jw h Vt (λq20 g20=>[]) (λq20 g20=>[boxE zaW (GNprO q20 g20),vecE g20 q20.b]) k2 (λq20 g20 h=>?_) λJ21 h hJ21=>zd h e (λ_ h=>?_) (λ_ h=>zj (om e (oT (zB (l:=([(Str.mk [44,32])]:(List Str))) el27 (.cons e hI .nil) e e (za h λy26 hy26 h=>oT (tC1 (za9 hy26) hT (.same e (.cons e zx .nil)) k2 (λv27=>zO (hJ21 h v27 3)))))))))))))))))))))))))
  ·exact zj (zy h λq31 h=>oV (zY e e q31) (om e (zO (hL3 h g18 6))))
  ·refine ws (om e (om e (za h λy28 hy28 h=>oT (zfr e (.same e .nil) (zcH hy28) hT (.cons .here (.cons .here .nil)) (λR H' hR=>?_)))))
   obtain ⟨v29,rfl,rfl⟩:=hR
   refine rn (zd h e (λ_ h=>?_) (λ_ h=>zj (om e (om e (oV (zf e) (oV (zw e zfI ziw) (oT (zaP (R:=vecv v29 (y28.2.b.length)) ty22 e p0 isvV1 (om e (zah h λq30 h=>oV (zui e sl22 (.there .here) (by first | rfl | simp) e q30.1 q30.2) (zaf (zqN (((q2.2.2.b.length:Nat):Int)).toNat (.there .here)) (oV (zf e) (oV (zw e zfI ziw) (oT (tR ty22 e e isvV2 p1 (GNprO {y28.2 with b:=(y28.2.b.take (((q2.2.2.b.length:Nat):Int)).toNat)} v29) e (rb (hJ19 h v29 21)))))))))))))))))
   exact zj (oa e (rb (hJ19 h v29 13)))
  exact zj (om e (oT (zB (l:=([(Str.mk [123,32])]:(List Str))) el27 (.cons e hI .nil) e e (za h λy23 hy23 h=>oT (tC1 (za9 hy23) hT (.same e (.cons e zx .nil)) k2 (λv24=>zO (hJ21 h v24 3)))))))
 exact ws (om e (oT (zB (l:=([(Str.mk [123,125])]:(List Str))) el27 (.cons e hI .nil) e e (za h λy33 hy33 h=>oT (tC1 (za9 hy33) hT (.same e (.cons e zx .nil)) k2 (λv34=>rn (zbM (zF (ze .nil k2 (iS h ▸ ⟨v34,e,e⟩))))))))))

theorem zij {zae zag zai zad zac} (zcH:zbL zae) (zci:zbR zag) (zda:zb8 zai) (zcP:zbJ zad) (zcO:zbH zac):zbJ (zcJ zae zag zai zad zac):=by
 intro a_p a_n_ zlP zcC zaW zfc r h
 unfold zcJ at h
 refine zi Tryz.func58 e λw0 S0 hT=>ws (an e (ss (om e (om e (rn (zn (lP h Vt zfc (λq2 g2=>[(6,isv q2.1),(10,isv q2.2.1)]) (λq2 g2=>[boxE zaW (GNprO q2.2.2 g2),vecE g2 q2.2.2.b]) (zA (j:=6) e hI (zA (j:=10) e hI zat)) k2 λL3 q2 g2 Q38 h hL3 eL3 rL3=>ws (oV (zas e e) (rn (zE (zd h e (λ_ h=>?_) (λ_ h=>xn (eL3 _ _ (zu (zp (ss (om e (rn (zd h e (λ_ h=>?_) (λ_ h=>wk (zj (om e (oT (zB (l:=([(Str.mk [32,125])]:(List Str))) el27 (.cons e hI .nil) e e (za h λy36 hy36 h=>oT (tC1 (za9 hy36) hT (.same e (.cons e zx .nil)) k2 (λv37=>zO (zaL .nil k2 (iS h ▸ ⟨v37,e,e⟩)))))))))))))))))))))))))))))
 ·refine wk (zE (jw h Vt (λq18 g18=>[(6,isv q18.1)]) (λq18 g18=>[boxE zaW (GNprO q18.2 g18),vecE g18 q18.2.b]) k2 (λq18 g18 h=>?_) λJ19 h hJ19=>zn (ws (om e (an e (ws (om e (oV (zf e) (oV (zw e zfI ziw) (oT (zaP (R:=vecv g2 (q2.2.2.b.length)) ty22 e p0 isvV1 (oV (zhM sl22 e) (an e (ss (om e (rn (jw h Vt (λq20 g20=>[]) (λq20 g20=>[boxE zaW (GNprO q20 g20),vecE g20 q20.b]) k2 (λq20 g20 h=>?_) λJ21 h hJ21=>zd h e (λ_ h=>?_) (λ_ h=>zj (om e (oT (zB (l:=([(Str.mk [44,32])]:(List Str))) el27 (.cons e hI .nil) e e (za h λy26 hy26 h=>oT (tC1 (za9 hy26) hT (.same e (.cons e zx .nil)) k2 (λv27=>zO (hJ21 h v27 3)))))))))))))))))))))))))
  ·exact zj (zy h λq31 h=>oV (zY e e q31) (om e (zO (hL3 h g18 6))))
  ·refine ws (om e (om e (za h λy28 hy28 h=>oT (zfr e (.same e .nil) (zcO hy28) hT (.cons .here (.cons .here .nil)) (λR H' hR=>?_)))))
   obtain ⟨v29,rfl,rfl⟩:=hR
   refine rn (zd h e (λ_ h=>?_) (λ_ h=>zj (om e (om e (oV (zf e) (oV (zw e zfI ziw) (oT (zaP (R:=vecv v29 (y28.2.b.length)) ty22 e p0 isvV1 (om e (zah h λq30 h=>oV (zui e sl22 (.there .here) (by first | rfl | simp) e q30.1 q30.2) (zaf (zqN (((q2.2.2.b.length:Nat):Int)).toNat (.there .here)) (oV (zf e) (oV (zw e zfI ziw) (oT (tR ty22 e e isvV2 p1 (GNprO {y28.2 with b:=(y28.2.b.take (((q2.2.2.b.length:Nat):Int)).toNat)} v29) e (rb (hJ19 h v29 21)))))))))))))))))
   exact zj (oa e (rb (hJ19 h v29 13)))
  exact zj (om e (oT (zB (l:=([(Str.mk [123,32])]:(List Str))) el27 (.cons e hI .nil) e e (za h λy23 hy23 h=>oT (tC1 (za9 hy23) hT (.same e (.cons e zx .nil)) k2 (λv24=>zO (hJ21 h v24 3)))))))
 exact ws (om e (oT (zB (l:=([(Str.mk [123,125])]:(List Str))) el27 (.cons e hI .nil) e e (za h λy33 hy33 h=>oT (tC1 (za9 hy33) hT (.same e (.cons e zx .nil)) k2 (λv34=>rn (zbM (zF (ze .nil k2 (iS h ▸ ⟨v34,e,e⟩))))))))))

theorem zio {zae zag zai zad zac} (zcH:zbL zae) (zci:zbR zag) (zda:zb8 zai) (zcP:zbJ zad) (zcO:zbH zac):zbH (zcc zae zag zai zad zac):=by
 intro a_k a_a1 a_a2 a_a3 zjr zm6 r h
 unfold zcc at h
 refine zi Tryz.func60 e λw0 S0 hT=>ws (an e (ss (oV (vI e Val.f3 zcS a_a1.l) (oV (zb ty23 e) (om e (za h λy2 hy2 h=>oV (vX e e sl23 hy2) (oV (zb ty26 e) (za h λy3 hy3 h=>oT (tC (zh0 hy3) hT (s1 e) k0 (rn (zd h e (λ_ h=>?_) (λ_ h=>wk (zE (zG (.v 0 (.v 1 (.v 2 (.v 3 (.v 4 (.v 5 (.v 6 (.t 7 (.t 8 .nil))))))))) moOrd (by kernel_rfl) (zl e (za4 (α:=GNprOT) ty64 e) (zl e (vI e GTyp.f4 zbd a_a3.fields) (zl e (zb ty127 e) (rm e e (za h λy4 hy4 h=>zl e (vX e e sl127 hy4) (zl e (vI e GFld.f0 zkr y4.name) (zl e (zb ty9 e) (rT e (zB (l:=([y4.name,(Str.mk [32])]:(List Str))) el27 (.cons e hI (.cons e hI .nil)) e e (za h λy6 hy6 h=>rT e (tC1 (za9 hy6) hT (.same e (.cons e zx .nil)) k2 (λv7=>zaj (zp ?_)))))))))))))))))))))))))))
 ·exact ws (ar e (zF (ze (r1 e) k2 (iS h ▸ ⟨zm6,e,e⟩))))
 exact zE (zG (.v 0 (.v 1 (.v 2 (.v 3 (.v 4 (.v 5 (.v 6 (.v 7 (.v 8 (.v 9 (.v 10 (.v 11 (.t 12 .nil))))))))))))) moOrd (by kernel_rfl) (zl e (za4 (α:=GNprOT) ty64 e) (zl e (vI e GTyp.f4 zbd a_a3.fields) (zl e (zb ty127 e) (rm e e (za h λy8 hy8 h=>zl e (vX e e sl127 hy8) (zl e (vI e GFld.f1 zdy y8.ty) (zl e (zb ty3 e) (zl e (vI e Val.f3 zcS a_a1.l) (zl e (zb ty23 e) (rm e e (za h λy9 hy9 h=>zl e (vX e e sl23 hy9) (zl e (zb ty26 e) (za h λy10 hy10 h=>rT e (tC1 (zci hy10) hT (s3 e e e) k2 (λv11=>zaj (zp (ws (ar e (ze (r1 e) k2 (iS h ▸ ⟨v11,e,e⟩)))))))))))))))))))))

theorem ze8:∀ n,zbL (zb6 n)/\zbR (zbw n)/\zb8 (zcs n)/\zbJ (zbB n)/\zbH (zb7 n)
  | 0=>⟨λh=>(by cases h),λh=>(by cases h),λh=>(by cases h),λh=>(by cases h),λh=>(by cases h)⟩
  | n + 1=>by
    obtain ⟨h0,h1,h2,h3,h4⟩:=ze8 n
    exact ⟨zit h0 h1 h2 h3 h4,zjK h0 h1 h2 h3 h4,zjq h0 h1 h2 h3 h4,zij h0 h1 h2 h3 h4,zio h0 h1 h2 h3 h4⟩
theorem zjZ (n:Nat):zbR (zbw n):=(ze8 n).2.1
theorem zl2 {a_t a_i a_v r} (h:zgT a_t a_i a_v=some r):Ctr Tryz.prog 13 [isv a_t,isv a_i,isv a_v] [] (Pt [isv r.1,isv r.2] []):=by
 unfold zgT at h
 refine zi Tryz.func13 e λw0 S0 hT=>ws (oT (tB e (oT (tB e (oa e (an e (zE (zn (ws (oV (zb ty31 e) (om e (oV (zb ty26 e) (za h λy1 hy1 h=>oT (tC (zlO hy1) hT (s3 e e e) k0 (oV (zaX e) (an e (zd h e (λ_ h=>?_) (λ_ h=>ws (oV (zb ty26 e) (za h λy2 hy2 h=>oT (tC (zpc fuel hy2) hT (s1 e) k0 (oV (zaX e) (an e (zd h e (λ_ h=>?_) (λ_ h=>zC (zs (zp (ws (oV (zb ty31 e) (oV (zam (z:=((a_t,(Vh.mk none 0)):GNprOT)) e bu66 zwb (.cons zqq ztB e hI .nil)) ?_))))))))))))))))))))))))))))))
 ·exact ws (oa e (ar e (bn (ze (r2 e e) k0 (iS h ▸ ⟨e,e⟩)))))
 ·exact ws (oa e (ar e (bn (ze (r2 e e) k0 (iS h ▸ ⟨e,e⟩)))))
 refine oT (zki (y:=((a_t,(Vh.mk none 0)):GNprOT)) e hI λb3=>zaf (zg4 (α:=UInt8)) (an e (ss (om e (om e (oV (zb ty26 e) (za h λy5 hy5 h=>oT (tC1 (zjZ fuel hy5) hT (s3 e e e) (a1 k1) (λv6=>rn (ws (om e (oV (zf e) (oV (zw e zfI ziw) (oT (zaP (R:=vecv v6 (y5.b.length)) ty22 e p0 isvV1 (oV (zhM sl22 e) (oV (zcl e e) (rn (zd h e (λ_ h=>?_) (λ_ h=>wk (ws (om e (oV (zf e) (oV (zw e zfI ziw) (oT (zaP (R:=vecv v6 (y5.b.length)) ty22 e p0 isvV1 (zaf (zlF 35 (.there .here) e (by first | rfl | simp)) (oV (zor (l:=y5.b) Tryz.underlying22 Tryz.underlying5 Tryz.underlying9 e hI) (oa e (ar e (ze (r2 e e) k0 (iS h ▸ ⟨e,e⟩))))))))))))))))))))))))))))))))
 exact ws (oa e (ar e (zF (ze (r2 e e) k0 (iS h ▸ ⟨e,e⟩)))))


end Go.Proofs.Q


namespace Go.Proofs.Q
open Go.Sy
set_option maxRecDepth 4000
theorem zk1:∀  {r:Bool},zf3 =some r->Ctr Tryz.prog 12 [] [] (λR H=>R=oneOf [isv (r)]/\H=[]):=by
 intro  r h
 unfold zf3 at h
 refine zi Tryz.func12 e λw0 S0 hT=>ws (an e (ws (za h λy1 hy1 h=>oT (tC (zib hy1) hT (s1 e) k0 (om e (oV (zr e e) (oV (zr e e) (oT (zV _ ze31 λb2=>oT (tS ty31 e e p0 y1.1 (zaf (zaF 1 .here e) (an e (ws (oV (zb ty31 e) (oV (zam (z:=(Val.mk (2:Int) (5:Int) ([]:(List UInt8)) ([]:(List Val)) (0:Int) ([]:(List Raw)))) e bu26 ze26 (.cons Val.f0 zdg e hI (.cons Val.f1 zcy e hI .nil))) (oV (zam (z:=(Val.mk (1:Int) (1:Int) ([]:(List UInt8)) ([]:(List Val)) (0:Int) ([]:(List Raw)))) e bu26 ze26 (.cons Val.f0 zdg e hI (.cons Val.f1 zcy e hI .nil))) (oT (zB (l:=([(Val.mk (2:Int) (5:Int) ([]:(List UInt8)) ([]:(List Val)) (0:Int) ([]:(List Raw))),(Val.mk (1:Int) (1:Int) ([]:(List UInt8)) ([]:(List Val)) (0:Int) ([]:(List Raw)))]:(List Val))) el23 (.cons e hI (.cons e hI .nil)) e e (oV (zam (z:=(Val.mk (7:Int) (0:Int) ([]:(List UInt8)) ([(Val.mk (2:Int) (5:Int) ([]:(List UInt8)) ([]:(List Val)) (0:Int) ([]:(List Raw))),(Val.mk (1:Int) (1:Int) ([]:(List UInt8)) ([]:(List Val)) (0:Int) ([]:(List Raw)))]:(List Val)) (0:Int) ([]:(List Raw)))) e bu26 ze26 (.cons Val.f0 zdg e hI (.cons Val.f3 zcS e zx .nil))) (za h λy4 hy4 h=>oT (tC (zl2 hy4) hT (s3 e e e) k0 (om e (oV (zr e e) (oV (zr e e) (oa e (an e (ws (om e (om e (jO 3 22 h (λq5 h=>?_) λJ6 h hJ6=>?_))))))))))))))))))))))))))))))
 ·refine om e (jO 3 26 h (λq8 h=>?_) λJ9 h hJ9=>oI h (λg10 h=>?_) λg10 h=>oN g10 (oN g10 (oV (zg e g10 e) (hJ9 h 3))))
  ·exact ar e (ze (r1 e) k0 (iS h ▸ ⟨e,e⟩))
  exact oG g10 (zm e) (oG g10 (zaT eq9 e e) (oV (zh e g10 e) (hJ9 h 3)))
 refine oI h (λg7 h=>?_) λg7 h=>oN g7 (oN g7 (oV (zg e g7 e) (hJ6 h 3)))
 exact oG g7 (zm e) (oG g7 (zM e e) (oV (zh e g7 e) (hJ6 h 3)))

end Go.Proofs.Q


namespace Go.Proofs.Q
open Go.Sy
set_option maxRecDepth 4000
theorem zdh {a_s zn8 r} (h:zbK a_s=some r):Ctr Tryz.prog 31 [ptrv zn8 ((Fld.id GNpsOT).comp zcK)] [boxE zn8 (GNpsO a_s)] (Pt [isv r.1] [boxE zn8 (GNpsO r.2)]):=by
 unfold zbK at h
 exact zi Tryz.func31 e λw0 S0 hT=>ws (oT (zV _ ze80 λb1=>rn (zE (zcZ 0 (.there .here) e (λo2 hn3=>zG (.v 0 (.v 1 (.v 2 (.v 3 (.v 4 (.v 5 (.v 6 (.v 7 (.v 8 (.v 9 (.t 10 .nil))))))))))) moOrd (by kernel_rfl) (rm e e (zl e (zar e) (zl e (zdI e GStm.f0 ztY) (zl e (vP ty69 e m0 a_s.stream.l) (rm e e (zl e (zar e) (zl e (zdI e GStm.f1 zjv) (zl e (vP ty3 e m0 a_s.stream.i) (za h λy4 hy4 h=>zl e (vX e e sl69 hy4) (zl e (zb ty80 e) (rT e (tS ty80 e e p0 y4 (zaj (zaJ 0 hn3 e (zp (zbM (ze (.cell e (.there .here) ty80 .nil) k1 (iS h ▸ ⟨e,e⟩)))))))))))))))))))))))


theorem zcF {a_p a_e zaW r} (h:zbI a_p a_e=some r):Ctr Tryz.prog 32 [ptrv zaW (Fld.id GNpsOT),isv a_e] [boxE zaW (GNpsO a_p)] (Pt [isv r.1] [boxE zaW (GNpsO r.2)]):=by
 unfold zbI at h
 refine zi Tryz.func32 e λw0 S0 hT=>ws (an e (ss (om e (oV (zf e) (oV (zw e zlA zpN) (oT (tL ty38 e p0 a_p.e (oV (zM e e) (rn (jw h Unit (λq1 g1=>[]) (λq1 g1=>[boxE zaW (GNpsO q1)]) k1 (λq1 g1 h=>?_) λJ2 h hJ2=>zd h e (λ_ h=>?_) (λ_ h=>zC (hJ2 h () 0))))))))))))
 ·exact ws (ar e (ze (r1 e) k1 (iS h ▸ ⟨e,e⟩)))
 exact zj (om e (om e (om e (oV (zf e) (oV (zw e zcK ze1) (za h λy3 hy3 h=>oT (tC (zdh hy3) hT (s1 e) k1 (oV (zh3 GTok.f2 e zmE e) (om e (oV (zf e) (oV (zw e zp8 zti) (oT (tS ty3 e e p0 (GNpsO {y3.2 with at_:=y3.1.at_}) (oV (zf e) (oV (zw e zlA zpN) (oT (tS ty38 e e p0 (GNpsO {y3.2 with at_:=y3.1.at_,e:=a_e}) (zO (hJ2 h () 12)))))))))))))))))))


theorem zdU {a_s zaQ zn8 r} (h:zcz a_s zaQ=some r):Ctr Tryz.prog 67 [ptrv zn8 ((Fld.id GNpsOT).comp zcK),isv zaQ] [boxE zn8 (GNpsO a_s)] (Pt [isv r.1] [boxE zn8 (GNpsO r.2)]):=by
 unfold zcz at h
 refine zi Tryz.func67 e λw0 S0 hT=>ws (an e (ws (om e (za h λy1 hy1 h=>oT (tC (zdh hy1) hT (s1 e) k1 (oT (zV _ ze80 λb2=>oT (tS ty80 e e p0 y1.1 (zaf (zaF 5 .here e) (rn (ss (oV (vI e GTok.f0 zdq y1.1.kind) (oV (zb ty3 e) (oV (zbt e e) (om e (jO 4 15 h (λq3 h=>?_) λJ4 h hJ4=>oI h (λg5 h=>?_) λg5 h=>oN g5 (oN g5 (oN g5 (oV (zg e g5 e) (hJ4 h 4))))))))))))))))))))
 ·refine om e (jO 5 21 h (λq6 h=>?_) λJ7 h hJ7=>oI h (λg8 h=>?_) λg8 h=>oG g8 (vI e GTok.f1 zeJ y1.1.text) (oG g8 (zb ty9 e) (oG g8 (zm e) (oG g8 (zi0 eq9 e e) (oV (zg e g8 e) (hJ7 h 5))))))
  ·refine rn (zd h e (λ_ h=>?_) (λ_ h=>wk (ws (om e (oV (zf e) (oV (zw e GStm.f1 zjv) (oT (tL ty3 e p0 y1.2.stream.i (zy h λq9 h=>oV (zY e e q9) (oV (zf e) (oV (zw e GStm.f1 zjv) (oT (tS ty3 e e p0 (GNpsO {y1.2 with stream:={ y1.2.stream with i:=(y1.2.stream.i + 1) }}) (rn (ws (ar e (ze (r1 e) k1 (iS h ▸ ⟨e,e⟩))))))))))))))))))
   exact ws (ar e (zF (ze (r1 e) k1 (iS h ▸ ⟨e,e⟩))))
  exact oN g8 (oN g8 (oN g8 (oN g8 (oV (zh e g8 e) (hJ7 h 5)))))
 exact oG g5 (vI e GTok.f0 zdq y1.1.kind) (oG g5 (zb ty3 e) (oG g5 (zbt e e) (oV (zh e g5 e) (hJ4 h 4))))


theorem zcE {a_p zaQ zaW r} (h:zbG a_p zaQ=some r):Ctr Tryz.prog 68 [ptrv zaW (Fld.id GNpsOT),isv zaQ] [boxE zaW (GNpsO a_p)] (Pt [isv r.1] [boxE zaW (GNpsO r.2)]):=by
 unfold zbG at h
 refine zi Tryz.func68 e λw0 S0 hT=>ws (an e (ws (om e (oV (zf e) (oV (zw e zcK ze1) (om e (za h λy1 hy1 h=>oT (tC (zdU hy1) hT (s2 e e) k1 (om e (jo 3 h Unit (λq2 g2=>[(13,isv q2.1)]) (λq2 g2=>[boxE zaW (GNpsO q2.2)]) k1 (λq2 g2 h=>?_) λJ3 h hJ3=>oI h (λg4 h=>?_) λg4 h=>oG g4 (zm e) (za h λy5 hy5 h=>oH g4 (tC (zcF hy5) hT (s2 e e) k1 (oV (zg e g4 e) (hJ3 h () 3))))))))))))))
 ·exact ar e (ze (r1 e) k1 (iS h ▸ ⟨e,e⟩))
 exact oN g4 (oN g4 (oV (zh e g4 e) (hJ3 h () 3)))


theorem zgR {a_p ze0 zaW r} (h:zd2 a_p ze0=some r):Ctr Tryz.prog 69 [ptrv zaW (Fld.id GNpsOT),isv ze0] [boxE zaW (GNpsO a_p)] (Pt [isv r.1,isv r.2.1] [boxE zaW (GNpsO r.2.2)]):=by
 unfold zd2 at h
 refine zi Tryz.func69 e λw0 S0 hT=>ws (oa e (an e (ws (om e (oV (zf e) (oV (zw e zcK ze1) (za h λy1 hy1 h=>oT (tC (zdh hy1) hT (s1 e) k1 (oT (zV _ ze80 λb2=>oT (tS ty80 e e p0 y1.1 (zaf (zaF 6 .here e) (rn (ss (oV (vI e GTok.f0 zdq y1.1.kind) (oV (zb ty3 e) (om e (oV (zbt e e) (rn (zd h e (λ_ h=>?_) (λ_ h=>wk (ws (om e (oV (zf e) (oV (zw e zcK ze1) (oV (zw e GStm.f1 zjv) (oT (tL ty3 e p0 y1.2.stream.i (zy h λq4 h=>oV (zY e e q4) ?_)))))))))))))))))))))))))))))
 ·exact ws (om e (za h λy3 hy3 h=>oT (tC (zcF hy3) hT (s2 e e) k1 (oa e (ar e (zF (ze (r2 e e) k1 (iS h ▸ ⟨e,e⟩))))))))
 exact oV (zf e) (oV (zw e zcK ze1) (oV (zw e GStm.f1 zjv) (oT (tS ty3 e e p0 (GNpsO {y1.2 with stream:={ y1.2.stream with i:=(y1.2.stream.i + 1) }}) (rn (ws (oV (vI e GTok.f1 zeJ y1.1.text) (oV (zb ty9 e) (oa e (ar e (ze (r2 e e) k1 (iS h ▸ ⟨e,e⟩))))))))))))


theorem zlp {a_p a_x zaW r} (h:zer a_p a_x=some r):Ctr Tryz.prog 71 [ptrv zaW (Fld.id GNpsOT),isv a_x] [boxE zaW (GNpsO a_p)] (Pt [isv r.1,isv r.2.1] [boxE zaW (GNpsO r.2.2)]):=by
 unfold zer at h
 refine zi Tryz.func71 e λw0 S0 hT=>ws (oT (tB e (oa e (an e (ws (om e (oV (zf e) (oV (zw e zcK ze1) (za h λy1 hy1 h=>oT (tC (zdh hy1) hT (s1 e) k1 (oT (zV _ ze80 λb2=>oT (tS ty80 e e p0 y1.1 (zaf (zaF 6 .here e) (rn (ss (oV (vI e GTyp.f3 zh2 a_x.items) (oV (zb ty126 e) (oV (vN e sl126) (om e (rn (zn (lO 16 h e λL4 q3 Q21 h hL4 eL4 rL4=>ws (oV (zas e e) (rn (zE (zd h e (λ_ h=>?_) (λ_ h=>xn (eL4 _ _ ?_)))))))))))))))))))))))))))))
 ·refine wk (zE (zn (ws (za h λy13 hy13 h=>oV (vX e e sl126 hy13) (oV (zb ty132 e) (oT (zV _ ze132 λb14=>oT (tS ty132 e e p0 y13 (zaf (zaF 8 .here e) (rn (ws (oV (vI e GTok.f0 zdq y1.1.kind) (oV (zb ty3 e) (oV (zM e e) (om e (jO 6 29 h (λq15 h=>?_) λJ16 h hJ16=>oI h (λg17 h=>?_) λg17 h=>oN g17 (oN g17 (oN g17 (oN g17 (oN g17 (oV (zg e g17 e) (hJ16 h 6))))))))))))))))))))))
  ·refine rn (zd h e (λ_ h=>?_) (λ_ h=>zC (zs (zp (zj (zy h λq19 h=>oV (zY e e q19) (om e (zO (hL4 h 13)))))))))
   exact ws (om e (oV (zf e) (oV (zw e zcK ze1) (oV (zw e GStm.f1 zjv) (oT (tL ty3 e p0 y1.2.stream.i (zy h λq18 h=>oV (zY e e q18) (oV (zf e) (oV (zw e zcK ze1) (oV (zw e GStm.f1 zjv) (oT (tS ty3 e e p0 (GNpsO {y1.2 with stream:={ y1.2.stream with i:=(y1.2.stream.i + 1) }}) (rn (ws (oV (vI e GItem.f1 zen y13.number) (oV (zb ty2 e) (oa e (ar e (bn (rL4 _ (bn (ze (r2 e e) k1 (iS h ▸ ⟨e,e⟩)))))))))))))))))))))))
  exact oG g17 (vI e GItem.f0 zkA y13.name) (oG g17 (zb ty9 e) (oG g17 (vI e GTok.f1 zeJ y1.1.text) (oG g17 (zb ty9 e) (oG g17 (zaT eq9 e e) (oV (zh e g17 e) (hJ16 h 6))))))
 exact zu (zp (ws (om e (za h λy20 hy20 h=>oT (tC (zcF hy20) hT (s2 e e) k1 (oa e (ar e (ze (r2 e e) k1 (iS h ▸ ⟨e,e⟩)))))))))


theorem zb2 {a_c r} (h:zbr a_c=some r):Ctr Tryz.prog 204 [isv a_c] [] (Pt [isv r] []):=by
 unfold zbr at h
 exact zi Tryz.func204 e λw0 S0 hT=>ws (an e (ws (om e (oV (zvK e e) (ar e (ze (r1 e) k0 (iS h ▸ ⟨e,e⟩)))))))


theorem zhl {a_s zeE zdf r} (h:zd0 a_s zeE zdf=some r):Ctr Tryz.prog 165 [isv a_s,isv zeE,isv zdf] [] (Pt [isv r.1,isv r.2] []):=by
 unfold zd0 at h
 refine zi Tryz.func165 e λw0 S0 hT=>ws (oa e (oV (zkC) (rn (ss (om e (oV (zaT eq9 e e) (rn (zd h e (λ_ h=>?_) (λ_ h=>wk (ws (om e (oV (zM e e) (an e (ws (om e (an e (zE (jw h Unit (λq1 g1=>[(0,isv q1.1),(1,isv q1.2)]) (λq1 g1=>[]) k0 (λq1 g1 h=>?_) λJ2 h hJ2=>zn (ws (om e (oV (zk5 e e) (om e (jO 3 31 h (λq3 h=>?_) λJ4 h hJ4=>oI h (λg5 h=>?_) λg5 h=>oN g5 (oN g5 (oV (zg e g5 e) ?_)))))))))))))))))))))))))
 ·refine ws ?_
  cases h
 ·refine ss (om e (oV (zM e e) (rn (jW 2 h (λq26 h=>?_) λJ27 h hJ27=>zd h e (λ_ h=>?_) (λ_ h=>ws (om e (oV (zas e e) (om e (jO 3 83 h (λq28 h=>?_) λJ29 h hJ29=>oI h (λg30 h=>?_) λg30 h=>oG g30 (zm e) (oG g30 (zcl e e) (oV (zg e g30 e) (hJ29 h 3))))))))))))
  ·refine ws (an e (ss (om e (rn (jW 10 h (λq31 h=>?_) λJ32 h hJ32=>zn (ws (oV (zM e e) (an e (zd h e (λ_ h=>?_) (λ_ h=>ws (oV (zM e e) (an e (zd h e (λ_ h=>?_) (λ_ h=>zj (om e (oV (zt5 Tryz.underlying3 Tryz.underlying102 e) (zap h λq33 h=>oV (zvx e e q33) (oV (zmW e e) (oa e (rb (hJ32 h 9)))))))))))))))))))))
   ·refine ws (om e (oV (zt5 Tryz.underlying3 Tryz.underlying51 e) (zap h λq34 h=>oV (zg0 e e q34) (oV (zsd e e) (an e (ws (an e (ws (an e (ss (om e (zap h λq35 h=>oT (ztU Tryz.underlying9 Tryz.underlying22 Tryz.underlying5 e q35 (oV (vN e sl22) (om e (rn (zn (lP h Unit () (λq36 g36=>[(12,isv q36.1),(13,isv q36.2.1),(101,isv q36.2.2)]) (λq36 g36=>[]) (zA (j:=12) e hI (zA (j:=13) e hI (zA (j:=101) e hI zat))) k0 λL37 q36 g36 Q83 h hL37 eL37 rL37=>ws (oV (zas e e) (rn (zE (zd h e (λ_ h=>?_) (λ_ h=>xn (eL37 _ _ (zu (zp (ss ?_)))))))))))))))))))))))))))
    ·refine wk (zE (jw h Unit (λq59 g59=>[(12,isv q59.1),(13,isv q59.2)]) (λq59 g59=>[]) k0 (λq59 g59 h=>?_) λJ60 h hJ60=>zn (ws (za h λy61 hy61 h=>oV (vX e e sl22 hy61) (oV (zb ty5 e) (an e (ws (an e (zE (jW 16 h (λq62 h=>?_) λJ63 h hJ63=>zn (ws (om e (oV (zaT eq5 e e) (om e (jO 2 111 h (λq64 h=>?_) λJ65 h hJ65=>oI h (λg66 h=>?_) λg66 h=>oN g66 (oV (zg e g66 e) (hJ65 h 2)))))))))))))))))
     ·exact zj (zy h λq79 h=>oV (zY e e q79) (om e (zO (hL37 h () 8))))
     ·refine ss (om e (om e (oV (zu1 Tryz.underlying3 Tryz.underlying5 e) (oV (ziv e e) (rn (zd h e (λ_ h=>?_) (λ_ h=>wk (ss (om e (om e (oV (zvf e e) (rn (zd h e (λ_ h=>?_) (λ_ h=>wk (ws (om e (om e (oV (zt5 Tryz.underlying3 Tryz.underlying102 e) (oV (zo8 e e) (an e (ws (om e (om e (oV (zft Tryz.underlying5 Tryz.underlying102 e) (oV (zmW e e) (an e (ss (om e (om e ?_)))))))))))))))))))))))))))))
      ·refine ws ?_
       cases h
      ·refine ws (om e ?_)
       cases h
      refine oV (zpe e e) (om e (jO 4 159 h (λq76 h=>?_) λJ77 h hJ77=>oI h (λg78 h=>?_) λg78 h=>oG g78 (zm e) (oG g78 (zm e) (oG g78 (znh e e) (oV (zg e g78 e) (hJ77 h 4))))))
      ·refine rn (zd h e (λ_ h=>?_) (λ_ h=>wk (zj (om e (oa e (rb (hJ60 h () 29)))))))
       refine ws (om e ?_)
       cases h
      exact oN g78 (oN g78 (oN g78 (oV (zh e g78 e) (hJ77 h 4))))
     ·refine an e (zd h e (λ_ h=>?_) (λ_ h=>ws (om e (oV (zgs e e) (om e (jO 3 118 h (λq67 h=>?_) λJ68 h hJ68=>oI h (λg69 h=>?_) λg69 h=>oN g69 (oN g69 (oV (zg e g69 e) (hJ68 h 3)))))))))
      ·exact ws (an e (zmr (ziX e (zpi (zu (hJ60 h () 10))))))
      ·refine an e (zd h e (λ_ h=>?_) (λ_ h=>ws (om e (za h λy70 hy70 h=>oT (tC (zb2 hy70) hT (s1 e) k0 (oV (zgs e e) (om e (jO 4 129 h (λq71 h=>?_) λJ72 h hJ72=>oI h (λg73 h=>?_) λg73 h=>oN g73 (oN g73 (oN g73 (oV (zg e g73 e) (hJ72 h 4))))))))))))
       ·exact zj (om e (oV (zmw e e) (oa e (rb (hJ63 h 13)))))
       ·refine an e (zd h e (λ_ h=>?_) (λ_ h=>ws ?_))
        ·exact zj (om e (za h λy75 hy75 h=>oT (tC (zb2 hy75) hT (s1 e) k0 (oV (zmw e e) (oV (zuq e e) (oa e (rb (hJ63 h 21))))))))
        cases h
       exact oG g73 (zm e) (za h λy74 hy74 h=>oH g73 (tC (zb2 hy74) hT (s1 e) k0 (oG g73 (zgs e e) (oV (zh e g73 e) (hJ72 h 4)))))
      exact oG g69 (zm e) (oG g69 (zgs e e) (oV (zh e g69 e) (hJ68 h 3)))
     exact oG g66 (zm e) (oV (zh e g66 e) (hJ65 h 2))
    refine om e (om e (jO 4 169 h (λq80 h=>?_) λJ81 h hJ81=>oI h (λg82 h=>?_) λg82 h=>oN g82 (oN g82 (oN g82 (oV (zg e g82 e) (hJ81 h 4))))))
    ·refine rn (zd h e (λ_ h=>?_) (λ_ h=>wk (ws (om e (oa e (oV (zkC) (rn (zbM (ze (r2 e e) k0 (iS h ▸ ⟨e,e⟩))))))))))
     refine ws ?_
     cases h
    refine oG g82 (zm e) ?_
    cases h
   ·exact zj (oa e (rb (hJ32 h 3)))
   exact zj (oa e (rb (hJ32 h 5)))
  ·exact zj (oa e (zO (hJ27 h 1)))
  ·refine rn (zd h e (λ_ h=>?_) (λ_ h=>zC (hJ27 h 4)))
   refine ws ?_
   cases h
  exact oN g30 (oN g30 (oV (zh e g30 e) (hJ29 h 3)))
 ·refine an e (zd h e (λ_ h=>?_) (λ_ h=>ws (om e (oV (zM e e) (an e (zd h e (λ_ h=>?_) (λ_ h=>ws ?_)))))))
  ·exact zC (zs (hJ2 h () 5))
  ·refine ws (an e (ws (om e (za h λy6 hy6 h=>oV (zcj y6 st9 e e hy6) (oV (zaT eq5 e e) (rn (zd h e (λ_ h=>?_) (λ_ h=>zC (zs (hJ2 h () 12))))))))))
   refine zn (ws (om e (oV (zcf st9 e) (oV (zdP e e) (om e (jO 5 49 h (λq7 h=>?_) λJ8 h hJ8=>oI h (λg9 h=>?_) λg9 h=>oN g9 (oN g9 (oN g9 (oN g9 (oV (zg e g9 e) (hJ8 h 5)))))))))))
   ·refine an e (zd h e (λ_ h=>?_) (λ_ h=>ws (om e (oV (zcf st9 e) (oV (zdP e e) (om e (jO 5 61 h (λq13 h=>?_) λJ14 h hJ14=>oI h (λg15 h=>?_) λg15 h=>oN g15 (oN g15 (oN g15 (oN g15 (oV (zg e g15 e) (hJ14 h 5))))))))))))
    ·exact ws (an e (zj (om e (zah h λq12 h=>oV (zgD st9 e (.inr ⟨_,e,e⟩) (.inl ⟨e,e⟩) q12.1 q12.2.1 q12.2.2) (oa e (rb (zs (hJ2 h () 22))))))))
    ·refine an e (zd h e (λ_ h=>?_) (λ_ h=>ws (om e (oV (zcf st9 e) (oV (zdP e e) (om e (jO 5 73 h (λq19 h=>?_) λJ20 h hJ20=>oI h (λg21 h=>?_) λg21 h=>oN g21 (oN g21 (oN g21 (oN g21 (oV (zg e g21 e) (hJ20 h 5))))))))))))
     ·exact ws (an e (zj (om e (zah h λq18 h=>oV (zgD st9 e (.inr ⟨_,e,e⟩) (.inl ⟨e,e⟩) q18.1 q18.2.1 q18.2.2) (oa e (rb (zs (hJ2 h () 28))))))))
     ·refine an e (zd h e (λ_ h=>?_) (λ_ h=>ws (an e (zj (om e (zah h λq25 h=>oV (zgD st9 e (.inr ⟨_,e,e⟩) (.inl ⟨e,e⟩) q25.1 q25.2.1 q25.2.2) (oa e (rb (zs (hJ2 h () 34))))))))))
      exact ws (an e (zj (om e (zah h λq24 h=>oV (zgD st9 e (.inr ⟨_,e,e⟩) (.inl ⟨e,e⟩) q24.1 q24.2.1 q24.2.2) (oa e (rb (zs (hJ2 h () 34))))))))
     exact oG g21 (zm e) (za h λy22 hy22 h=>oG g21 (zcj y22 st9 e e hy22) (za h λy23 hy23 h=>oH g21 (tC (zb2 hy23) hT (s1 e) k0 (oG g21 (zaT eq5 e e) (oV (zh e g21 e) (hJ20 h 5))))))
    exact oG g15 (zm e) (za h λy16 hy16 h=>oG g15 (zcj y16 st9 e e hy16) (za h λy17 hy17 h=>oH g15 (tC (zb2 hy17) hT (s1 e) k0 (oG g15 (zaT eq5 e e) (oV (zh e g15 e) (hJ14 h 5))))))
   exact oG g9 (zm e) (za h λy10 hy10 h=>oG g9 (zcj y10 st9 e e hy10) (za h λy11 hy11 h=>oH g9 (tC (zb2 hy11) hT (s1 e) k0 (oG g9 (zaT eq5 e e) (oV (zh e g9 e) (hJ8 h 5))))))
  cases h
 ·exact oG g5 (zm e) (oG g5 (zk5 e e) (oV (zh e g5 e) (hJ4 h 3)))
 exact hJ4 h 3


theorem zkR {a_s zeE zdf r} (h:zdz a_s zeE zdf=some r):Ctr Tryz.prog 128 [isv a_s,isv zeE,isv zdf] [] (Pt [isv r.1,isv r.2] []):=by
 unfold zdz at h
 refine zi Tryz.func128 e λw0 S0 hT=>ws (oa e (oV (zkC) (rn (ws (om e (om e (om e (za h λy1 hy1 h=>oT (tC (zhl hy1) hT (s3 e e e) k0 (om e (oV (zr e e) (oV (zr e e) (oa e (an e (ss (om e (oV (zum if149 e) (rn (zd h e (λ_ h=>?_) (λ_ h=>wk (ws (om e (oa e (oV (zkC) (rn (zbM (ze (r2 e e) k0 (iS h ▸ ⟨e,e⟩))))))))))))))))))))))))))))
 refine ws (om e (om e (om e (om e (om e ?_)))))
 cases h


theorem zoh {a_s r} (h:zdQ a_s=some r):Ctr Tryz.prog 72 [isv a_s] [] (Pt [isv r] []):=by
 unfold zdQ at h
 refine zi Tryz.func72 e λw0 S0 hT=>ws (an e (ws (an e (ss (an e (zn (zg5 (zbx) (lP h Tok none (λq1 g1=>[(3,appv g1 q1.1),(4,isv q1.2)]) (λq1 g1=>[tokE g1]) (zA (j:=3) e zcn (zA (j:=4) e hI zat)) k1 λL2 q1 g1 Q20 h hL2 eL2 rL2=>ss (om e (zy h λq11 h=>oV (zY e e q11) (om e (oV (zcf st9 e) (oV (zas e e) (rn (zd h e (λ_ h=>?_) (λ_ h=>xn (eL2 _ _ (zu (zp (ws (om e (ar e (ze (.as e zx .nil) k0 (iS h ▸ ⟨e,e⟩))))))))))))))))))))))))
 refine wk (zE (zn (ws (om e (om e (om e (zy h λq12 h=>oV (zY e e q12) (zah h λq13 h=>oV (zgD st9 e (.inr ⟨_,e,e⟩) (.inr ⟨_,e,e⟩) q13.1 q13.2.1 q13.2.2) (za h λy14 hy14 h=>oT (tC (zkR hy14) hT (s3 e e e) k0 (om e (oV (zr e e) (oV (zr e e) (oa e (an e (zj (om e (om e (oV (zvb Tryz.underlying102 Tryz.underlying5 e) (oT (zB (l:=([y14.1.toUInt8]:(List UInt8))) el22 (.cons e hI .nil) e e (zap h λq17 h=>oT (zcg (l:=q1.1) (m:=([y14.1.toUInt8]:(List UInt8))) zkJ e hI e zx .here q17 λt16=>oa e (rb (zp (zj (om e ?_)))))))))))))))))))))))))))
 exact zy h λq18 h=>oV (zY e e q18) (oa e (zO (hL2 h t16 27)))


theorem zhn {a_p a_l ze5 zaW r} (h:zdC a_p a_l ze5=some r):Ctr Tryz.prog 75 [ptrv zaW (Fld.id GNpsOT),isv a_l,isv ze5] [boxE zaW (GNpsO a_p)] (Pt [isv r.1,isv r.2.1] [boxE zaW (GNpsO r.2.2)]):=by
 unfold zdC at h
 refine zi Tryz.func75 e λw0 S0 hT=>ws (oa e (an e (ws (om e (oV (zf e) (oV (zw e zcK ze1) (za h λy1 hy1 h=>oT (tC (zdh hy1) hT (s1 e) k1 (oT (zV _ ze80 λb2=>oT (tS ty80 e e p0 y1.1 (zaf (zaF 8 .here e) (rn (ss (om e (an e (zn (lO 9 h e λL4 q3 Q19 h hL4 eL4 rL4=>ss (om e (om e (oV (vN e sl127) (oV (zas e e) (om e (jO 4 23 h (λq12 h=>?_) λJ13 h hJ13=>oI h (λg14 h=>?_) λg14 h=>oN g14 (oN g14 (oN g14 ?_))))))))))))))))))))))))))
 ·refine rn (zd h e (λ_ h=>?_) (λ_ h=>xn (eL4 _ _ (zu (zp (ws (om e (za h λy18 hy18 h=>oT (tC (zcF hy18) hT (s2 e e) k1 (oa e (ar e (ze (r2 e e) k1 (iS h ▸ ⟨e,e⟩)))))))))))))
  refine wk (zE (zn (zE (zG (.v 0 (.v 1 (.v 2 (.v 3 (.v 4 (.v 5 (.v 6 (.v 7 .nil)))))))) moOrd (by kernel_rfl) (rm e e (rm e e (za h λy15 hy15 h=>zl e (vX e e sl127 hy15) (zl e (vI e GFld.f0 zkr y15.name) (zl e (zb ty9 e) (zl e (vI e GTok.f1 zeJ y1.1.text) (zl e (zb ty9 e) (zl e (zaT eq9 e e) (zaj (zp (zd h e (λ_ h=>?_) (λ_ h=>zC (zs (zp (zj (om e (zy h λq17 h=>oV (zY e e q17) (oa e (zO (hL4 h 18))))))))))))))))))))))))
  exact ws (om e (oV (zf e) (oV (zw e zcK ze1) (oV (zw e GStm.f1 zjv) (oT (tL ty3 e p0 y1.2.stream.i (zy h λq16 h=>oV (zY e e q16) (oV (zf e) (oV (zw e zcK ze1) (oV (zw e GStm.f1 zjv) (oT (tS ty3 e e p0 (GNpsO {y1.2 with stream:={ y1.2.stream with i:=(y1.2.stream.i + 1) }}) (rn (ws (om e (oa e (ar e (bn (rL4 _ (bn (ze (r2 e e) k1 (iS h ▸ ⟨e,e⟩))))))))))))))))))))))
 ·exact oG g14 (vI e GTok.f0 zdq y1.1.kind) (oG g14 (zb ty3 e) (oG g14 (zM e e) (oV (zh e g14 e) (hJ13 h 4))))
 exact oV (zg e g14 e) (hJ13 h 4)


def zbp (f':GNps->GTyp->Int->Val->Option (Bool × GNps × Val)):Prop :=
 ∀ {a_a0 a_a1 a_a2 a_a3 zip znY zlT r},f' a_a0 a_a1 a_a2 a_a3=some r->Ctr Tryz.prog 74 [immv (PtrB.mk zip),immv (a_a1),immv (a_a2),ptrv znY (Fld.id ValOT)] [boxE zip (GNpsO a_a0),boxE znY (ValO a_a3 zlT),vecE zlT a_a3.l] (Pt1 (λ_=>[isv r.1]) λu1=>[boxE zip (GNpsO r.2.1),boxE znY (ValO r.2.2 u1),vecE u1 r.2.2.l])
def zbD (f':GNps->Int->Int->Option (Val × Bool × GNps)):Prop :=
 ∀ {a_p a_i zH zaW r},f' a_p a_i zH=some r->Ctr Tryz.prog 30 [ptrv zaW (Fld.id GNpsOT),isv a_i,isv zH] [boxE zaW (GNpsO a_p)] (Pt [isv r.1,isv r.2.1] [boxE zaW (GNpsO r.2.2)])
def zbO (f':GNps->GTyp->Int->Val->Option (Bool × GNps × Val)):Prop :=
 ∀ {a_p zed zcC zfa zaW zi5 zgI r},f' a_p zed zcC zfa=some r->Ctr Tryz.prog 73 [ptrv zaW (Fld.id GNpsOT),clov 74 [immv (PtrB.mk zaW),immv (zed),immv (zcC),ptrv zi5 (Fld.id ValOT)]] [boxE zaW (GNpsO a_p),boxE zi5 (ValO zfa zgI),vecE zgI zfa.l] (Pt1 (λ_=>[isv r.1]) λu1=>[boxE zaW (GNpsO r.2.1),boxE zi5 (ValO r.2.2 u1),vecE u1 r.2.2.l])
def zbQ (f':GNps->GTyp->Val->Int->Option (Bool × GNps × Val)):Prop :=
 ∀ {a_p a_x a_v zH zaW zpX zrb r},f' a_p a_x a_v zH=some r->Ctr Tryz.prog 76 [ptrv zaW (Fld.id GNpsOT),isv a_x,ptrv zpX (Fld.id ValOT),isv zH] [boxE zaW (GNpsO a_p),boxE zpX (ValO a_v zrb),vecE zrb a_v.l] (Pt1 (λ_=>[isv r.1]) λu1=>[boxE zaW (GNpsO r.2.1),boxE zpX (ValO r.2.2 u1),vecE u1 r.2.2.l])
def zbs (f':GNps->GTyp->Int->Int->Val->Option (Bool × GNps × Int × Val)):Prop :=
 ∀ {a_p zed zcC zfa zh6 zaW zi3 ziS zgY r},f' a_p zed zcC zfa zh6=some r->Ctr Tryz.prog 73 [ptrv zaW (Fld.id GNpsOT),clov 129 [immv (PtrB.mk zaW),immv (zed),ptrv zi3 (Fld.id Int),immv (zfa),immv (PtrB.mk ziS)]] [boxE zaW (GNpsO a_p),boxE zi3 (zcC:Int),boxE ziS (ValO zh6 zgY),vecE zgY zh6.l] (Pt1 (λ_=>[isv r.1]) λu1=>[boxE zaW (GNpsO r.2.1),boxE zi3 (r.2.2.1),boxE ziS (ValO r.2.2.2 u1),vecE u1 r.2.2.2.l])
def zbl (f':GNps->GTyp->Int->Int->Val->Option (Bool × GNps × Int × Val)):Prop :=
 ∀ {a_a0 a_a1 a_a2 a_a3 a_a4 zip zjr znP zhx r},f' a_a0 a_a1 a_a2 a_a3 a_a4=some r->Ctr Tryz.prog 129 [immv (PtrB.mk zip),immv (a_a1),ptrv zjr (Fld.id Int),immv (a_a3),immv (PtrB.mk znP)] [boxE zip (GNpsO a_a0),boxE zjr (a_a2:Int),boxE znP (ValO a_a4 zhx),vecE zhx a_a4.l] (Pt1 (λ_=>[isv r.1]) λu1=>[boxE zip (GNpsO r.2.1),boxE zjr (r.2.2.1),boxE znP (ValO r.2.2.2 u1),vecE u1 r.2.2.2.l])
theorem ziW {zQ zX zaa zab zR zL} (zcq:zbp zQ) (zbC:zbD zX) (zcR:zbO zaa) (zcG:zbQ zab) (zcr:zbs zR) (zcd:zbl zL):zbp (zcW zQ zX zaa zab zR zL):=by
 intro a_a0 a_a1 a_a2 a_a3 zip znY zlT r h
 unfold zcW at h
 refine zi Tryz.func74 e λw0 S0 hT=>ws (an e (ws (oV (za4 (α:=GNpsOT) ty72 e) (oV (vI e GTyp.f7 zm8 a_a1.of) (oV (zb ty3 e) (oV (zb ty3 e) (zy h λq2 h=>oV (zY e e q2) (za h λy3 hy3 h=>oT (tC (zbC hy3) hT (s3 e e e) k1 (om e (oV (zr e e) (oV (zr e e) (oT (zV _ ze26 λb4=>oT (tS ty26 e e p0 y3.1 (zaf (zaF 5 .here e) (an e (zE (jw h Vt (λq5 g5=>[]) (λq5 g5=>[boxE znY (ValO q5 g5),vecE g5 q5.l]) (a1 (a1 k0)) (λq5 g5 h=>?_) λJ6 h hJ6=>zG (.v 0 (.v 2 (.alt 1 (.v 3 (.t 4 (.t 5 (.v 6 (.v 8 (.alt 7 (.t 9 .nil) (.t 9 (.t 7 .nil)))))))) (.t 4 (.t 1 (.v 3 (.t 5 (.v 6 (.v 8 (.alt 7 (.t 9 .nil) (.t 9 (.t 7 .nil)))))))))))) moOrd (by kernel_rfl) (zl e (zw e zhZ zcS) (zl e (zb ty26 e) (zap h λq9 h=>zah h λq10 h=>za h λy11 hy11 h=>zfB ?_ (rT e (zB (l:=([(Val.mk (0:Int) (0:Int) ([]:(List UInt8)) ([]:(List Val)) (0:Int) ([]:(List Raw)))]:(List Val))) el23 (.cons e (zqj (x:=(Val.mk (0:Int) (0:Int) ([]:(List UInt8)) ([]:(List Val)) (0:Int) ([]:(List Raw)))) (cs:=[.int .i64 0,.int .i64 0,.slice none 0 0,.slice none 0 0,.int .i64 0,.slice none 0 0]) e zo5) .nil) e e (rT e (zaP (R:=vecv zlT (a_a3.l.length)) ty23 e p1 isvV1 ?_))))))))))))))))))))))))))
 ·exact ws (om e (ar e (ze (r1 e) (a2 k2) (iS h ▸ ⟨g5,e,e⟩))))
 ·refine rT e (zaP (R:=vecv zlT (a_a3.l.length)) ty23 e p1 isvV1 (zl e (zhM sl23 e) (rT e (zB (l:=([(Val.mk (0:Int) (0:Int) ([]:(List UInt8)) ([]:(List Val)) (0:Int) ([]:(List Raw)))]:(List Val))) el23 (.cons e (zqj (x:=(Val.mk (0:Int) (0:Int) ([]:(List UInt8)) ([]:(List Val)) (0:Int) ([]:(List Raw)))) (cs:=[.int .i64 0,.int .i64 0,.slice none 0 0,.slice none 0 0,.int .i64 0,.slice none 0 0]) e zo5) .nil) e e (rT e (zi9 (m:=([(Val.mk (0:Int) (0:Int) ([]:(List UInt8)) ([]:(List Val)) (0:Int) ([]:(List Raw)))]:(List Val))) zrL e e zx (.there (.there .here)) (by first | rfl | simp) q9 λv8=>zl e (zdH (α:=Val) sl23 e e q10.1 q10.2) (zl e (zw e zhZ zcS) (zfB ?_ (rT e (tR ty23 e e isvV2 p2 (ValO ⟨a_a3.kind,a_a3.n,a_a3.b,(a_a3.l ++ ([⟨0,0,[],[],0,[]⟩]:(List Val))),a_a3.rule,a_a3.more⟩ v8) e (rT e (zeS ty26 e e (.there .here) hy11 (zeW (zgm (y:=(ValO (Val.mk a_a3.kind a_a3.n a_a3.b ((a_a3.l ++ ([⟨0,0,[],[],0,[]⟩]:(List Val))).set (((a_a3.l.length:Nat):Int).toNat) y3.1) a_a3.rule a_a3.more) v8)) (.there .here) (λS=>(Cv.pair Cv.id (Cv.pair Cv.id (Cv.pair Cv.id (Cv.pair (Cv.vhe (by first | rfl | simp)) (Cv.pair Cv.id Cv.id))))))) (zaj (hJ6 h v8 8)))))))))))))))
  exact rT e (zeS ty26 e e .here hy11 (rT e (tR ty23 e e isvV2 p2 (ValO ⟨a_a3.kind,a_a3.n,a_a3.b,(a_a3.l ++ ([⟨0,0,[],[],0,[]⟩]:(List Val))),a_a3.rule,a_a3.more⟩ v8) e (zeW (zgm (y:=(ValO (Val.mk a_a3.kind a_a3.n a_a3.b ((a_a3.l ++ ([⟨0,0,[],[],0,[]⟩]:(List Val))).set (((a_a3.l.length:Nat):Int).toNat) y3.1) a_a3.rule a_a3.more) v8)) .here (λS=>(Cv.pair Cv.id (Cv.pair Cv.id (Cv.pair Cv.id (Cv.pair (Cv.vhe (by first | rfl | simp)) (Cv.pair Cv.id Cv.id))))))) (zaj (hJ6 h v8 8))))))
 refine zl e (zhM sl23 e) (rT e (zi9 (m:=([(Val.mk (0:Int) (0:Int) ([]:(List UInt8)) ([]:(List Val)) (0:Int) ([]:(List Raw)))]:(List Val))) zrL e e zx (.there (.there .here)) (by first | rfl | simp) q9 λv13=>zl e (zdH (α:=Val) sl23 e e q10.1 q10.2) (zl e (zw e zhZ zcS) (zfB ?_ (rT e (tR ty23 e e isvV2 p2 (ValO ⟨a_a3.kind,a_a3.n,a_a3.b,(a_a3.l ++ ([⟨0,0,[],[],0,[]⟩]:(List Val))),a_a3.rule,a_a3.more⟩ v13) e (rT e (zeS ty26 e e (.there .here) hy11 (zeW (zgm (y:=(ValO (Val.mk a_a3.kind a_a3.n a_a3.b ((a_a3.l ++ ([⟨0,0,[],[],0,[]⟩]:(List Val))).set (((a_a3.l.length:Nat):Int).toNat) y3.1) a_a3.rule a_a3.more) v13)) (.there .here) (λS=>(Cv.pair Cv.id (Cv.pair Cv.id (Cv.pair Cv.id (Cv.pair (Cv.vhe (by first | rfl | simp)) (Cv.pair Cv.id Cv.id))))))) (zaj (hJ6 h v13 8)))))))))))
 exact rT e (zeS ty26 e e .here hy11 (rT e (tR ty23 e e isvV2 p2 (ValO ⟨a_a3.kind,a_a3.n,a_a3.b,(a_a3.l ++ ([⟨0,0,[],[],0,[]⟩]:(List Val))),a_a3.rule,a_a3.more⟩ v13) e (zeW (zgm (y:=(ValO (Val.mk a_a3.kind a_a3.n a_a3.b ((a_a3.l ++ ([⟨0,0,[],[],0,[]⟩]:(List Val))).set (((a_a3.l.length:Nat):Int).toNat) y3.1) a_a3.rule a_a3.more) v13)) .here (λS=>(Cv.pair Cv.id (Cv.pair Cv.id (Cv.pair Cv.id (Cv.pair (Cv.vhe (by first | rfl | simp)) (Cv.pair Cv.id Cv.id))))))) (zaj (hJ6 h v13 8))))))

theorem zjQ {zQ zX zaa zab zR zL} (zcq:zbp zQ) (zbC:zbD zX) (zcR:zbO zaa) (zcG:zbQ zab) (zcr:zbs zR) (zcd:zbl zL):zbD (zc2 zQ zX zaa zab zR zL):=by
 intro a_p a_i zH zaW r h
 unfold zc2 at h
 refine zi Tryz.func30 e λw0 S0 hT=>ws (oT (zi8 (y:=PtrB.mk zaW) e zkv (oT (tB e (oT (zV _ ze26 λb1=>an e (ss (oV (zb ty3 e) (oV (zcl e e) (rn (zd h e (λ_ h=>?_) (λ_ h=>wk (ss (om e (oV (zas e e) (om e (jO 9 30 h (λq3 h=>?_) λJ4 h hJ4=>oI h (λg5 h=>?_) λg5 h=>oG g5 (zm e) (oG g5 (za4 (α:=GNpsOT) ty72 e) (oG g5 (zf e) (oG g5 (zw e zno zri) (oG g5 (zw e GTab.f3 zfD) (oH g5 (tL ty29 e p1 a_p.t.types (oG g5 (vN e sl29) (oG g5 (zdP e e) (oV (zg e g5 e) (hJ4 h 9)))))))))))))))))))))))))))
 ·exact ws (oV (zam (z:=(Val.mk (0:Int) (0:Int) ([]:(List UInt8)) ([]:(List Val)) (0:Int) ([]:(List Raw)))) e bu26 ze26 .nil) (oV (za4 (α:=GNpsOT) ty72 e) (za h λy2 hy2 h=>oT (tC (zcF hy2) hT (s2 e e) (a1 k0) (oT (tS ty26 e e p1 ⟨0,0,[],[],0,[]⟩ (ar e (zF (ze (.cell e .here ty26 (.tmp e .nil)) (a1 k0) (iS h ▸ ⟨e,e⟩))))))))))
 ·refine rn (zd h e (λ_ h=>?_) (λ_ h=>wk (ws (oV (za4 (α:=GNpsOT) ty72 e) (oV (zf e) (oV (zw e zno zri) (oV (zw e GTab.f3 zfD) (oT (tL ty29 e p1 a_p.t.types (om e (za h λy7 hy7 h=>oV (vX e e sl29 hy7) (oV (zb ty129 e) (oT (zV _ ze129 λb8=>oT (tS ty129 e e p0 y7 (zaf (zaF 8 .here e) (rn (ws (oV (vI e GTyp.f0 zdB y7.kind) (oV (zb ty3 e) (oV (zam (z:=((y7.kind,(0:Int),([]:(List UInt8)),(Vh.mk none 0),(0:Int),([]:(List Raw))):ValOT)) e bu26 zta (.cons zub zdg e hI .nil)) (oT (zV _ zta λb9=>zaf (zg4 (α:=Val)) (zaf (zg4 (α:=Val)) (oT (tS ty26 e e p2 (y7.kind,0,[],⟨none,0⟩,0,[]) (an e (ws (an e (ss (oV (vI e GTyp.f0 zdB y7.kind) ?_)))))))))))))))))))))))))))))))
  ·exact ws (oV (zam (z:=(Val.mk (0:Int) (0:Int) ([]:(List UInt8)) ([]:(List Val)) (0:Int) ([]:(List Raw)))) e bu26 ze26 .nil) (oV (za4 (α:=GNpsOT) ty72 e) (za h λy6 hy6 h=>oT (tC (zcF hy6) hT (s2 e e) (a1 k0) (oT (tS ty26 e e p1 ⟨0,0,[],[],0,[]⟩ (ar e (zF (ze (.cell e .here ty26 (.tmp e .nil)) (a1 k0) (iS h ▸ ⟨e,e⟩))))))))))
  refine oV (zb ty3 e) (rn (jw h Vt (λq12 g12=>[(10,isv q12.1),(11,anyv)]) (λq12 g12=>[boxE b9 (ValO q12.2.1 g12),vecE g12 q12.2.1.l,boxE zaW (GNpsO q12.2.2)]) (a0 (a3 k1)) (λq12 g12 h=>?_) λJ13 h hJ13=>zn (ws (oV (zM e e) (an e (zd h e (λ_ h=>?_) (λ_ h=>ws (oV (zM e e) (an e (zd h e (λ_ h=>?_) (λ_ h=>ws (oV (zM e e) (an e (zd h e (λ_ h=>?_) (λ_ h=>ws (oV (zM e e) (an e (zd h e (λ_ h=>?_) (λ_ h=>ws (oV (zM e e) (an e (zd h e (λ_ h=>?_) (λ_ h=>ws (oV (zM e e) (an e (zd h e (λ_ h=>?_) (λ_ h=>ws (oV (zM e e) ?_))))))))))))))))))))))))))))
  ·refine zE (zg5 (zqG (y:=((q12.2.1.kind,q12.2.1.n,q12.2.1.b,q12.2.1.l,q12.2.1.rule,q12.2.1.more):(Int × Int × (List UInt8) × (List Val) × Int × (List Raw)))) (.there .here) .here (λS hv=>(Cv.pair Cv.id (Cv.pair Cv.id (Cv.pair Cv.id (Cv.pair (Cv.vh hv (by first | rfl | simp)) (Cv.pair Cv.id Cv.id))))))) (zg5 (zcB (R':=ptrv b9 (Fld.id ((Int × Int × (List UInt8) × (List Val) × Int × (List Raw))))) 9 e hI) (zcZ 9 .here e (λo41 hn42=>zcZ 0 .here e (λo43 hn44=>zG (.v 0 (.v 1 (.v 2 (.v 3 (.v 4 (.v 5 (.v 6 (.v 7 (.v 8 (.t 9 (.v 10 .nil))))))))))) moOrd (by kernel_rfl) (zl e (vP ty26 e m1 (q12.2.1.kind,q12.2.1.n,q12.2.1.b,q12.2.1.l,q12.2.1.rule,q12.2.1.more)) (zeW (zcB (R':=isv q12.2.1) 147 e (Cv.isv e λS=>(λcs h=>Cv.val cs (((Cv.pair Cv.id (Cv.pair Cv.id (Cv.pair Cv.id (Cv.pair Cv.id (Cv.pair Cv.id Cv.id))))):Cv S ((q12.2.1.kind,q12.2.1.n,q12.2.1.b,q12.2.1.l,q12.2.1.rule,q12.2.1.more):(Int × Int × (List UInt8) × (List Val) × Int × (List Raw))) (Val.to q12.2.1)) cs h)))) (rm e e (rm e e (jD 6 155 h (λq45 h=>?_) λJ46 h hJ46=>rJ h (λg47 h=>?_) λg47 h=>rP e g47 (rP e g47 (rP e g47 (rP e g47 (rP e g47 (zl e (zg e g47 e) (hJ46 h 6))))))))))))))))
   ·exact rT e (tS ty26 e e p1 q12.2.1 (zl e (zaA e) (zaj (zaJ 0 hn44 e (zaJ 9 hn42 e (zp (zbM (ze (.cell e (.there (.there .here)) ty26 (.tmp e .nil)) (a1 k0) (iS h ▸ ⟨e,e⟩)))))))))
   exact rG e g47 (zsg ty72 e (i:=0) e) (rG e g47 (zar e) (rG e g47 (zdI e zlA zpN) (rG e g47 (vP ty38 e m0 q12.2.2.e) (rG e g47 (zM e e) (zl e (zh e g47 e) (hJ46 h 6))))))
  ·refine ws (oV (za4 (α:=GNpsOT) ty72 e) (oV (zf e) (oV (zw e zcK ze1) (za h λy14 hy14 h=>oT (tC (zdU hy14) hT (s2 e e) (a4 k0) (an e (ws (om e (rn (zd h e (λ_ h=>?_) (λ_ h=>zj (oV (za4 (α:=GNpsOT) ty72 e) (za h λy15 hy15 h=>oT (tC (zcE hy15) hT (s2 e e) k1 (oa e (rb (hJ13 h none 11)))))))))))))))))
   exact zj (oV (zw e zmb zcy) (oT (tS ty2 e e p1 (y7.kind,1,[],⟨none,0⟩,0,[]) (rb (hJ13 h none 9)))))
  ·exact zj (oV (za4 (α:=GNpsOT) ty72 e) (za h λy16 hy16 h=>oT (tC (zcE hy16) hT (s2 e e) (a4 k0) (oa e (rb (hJ13 h none 7))))))
  ·exact ws (oV (za4 (α:=GNpsOT) ty72 e) (za h λy17 hy17 h=>oT (tC (zgR hy17) hT (s2 e e) (a4 k0) (om e (oV (zr e e) (oV (zr e e) (oa e (an e (zj (om e (za h λy18 hy18 h=>oT (tC (zhG hy18) hT (s3 e e e) k0 (om e (oV (zr e e) (oV (zr e e) (oV (zw e zmb zcy) (oT (tS ty2 e e p1 (y7.kind,y18.1,[],⟨none,0⟩,0,[]) (rb (hJ13 h none 19))))))))))))))))))))
  ·exact zj (oV (za4 (α:=GNpsOT) ty72 e) (oV (zb ty129 e) (za h λy19 hy19 h=>oT (tC (zlp hy19) hT (s2 e e) (a4 k0) (om e (oV (zr e e) (oV (zr e e) (oV (zw e zmb zcy) (oT (tS ty2 e e p1 (y7.kind,y19.1,[],⟨none,0⟩,0,[]) (oa e (rb (hJ13 h none 16)))))))))))))
  ·exact ws (oV (za4 (α:=GNpsOT) ty72 e) (za h λy20 hy20 h=>oT (tC (zgR hy20) hT (s2 e e) (a4 k0) (om e (oV (zr e e) (oV (zr e e) (oa e (an e (zj (om e (za h λy21 hy21 h=>oT (tC (zoh hy21) hT (s1 e) k0 (oV (zw e zpW zdp) (oT (tS ty22 e e p1 (y7.kind,0,y21,⟨none,0⟩,0,[]) (rb (hJ13 h none 20)))))))))))))))))
  ·exact ws (oV (za4 (α:=GNpsOT) ty72 e) (za h λy22 hy22 h=>oT (tC (zgR hy22) hT (s2 e e) (a4 k0) (om e (oV (zr e e) (oV (zr e e) (oa e (an e (zj (om e (zap h λq23 h=>oT (ztU Tryz.underlying9 Tryz.underlying22 Tryz.underlying5 e q23 (oV (zw e zpW zdp) (oT (tS ty22 e e p1 (y7.kind,0,y22.1.b,⟨none,0⟩,0,[]) (rb (hJ13 h none 22)))))))))))))))))
  refine an e (zd h e (λ_ h=>?_) (λ_ h=>ws (oV (zM e e) (an e (zd h e (λ_ h=>?_) (λ_ h=>ss (oV (zM e e) (an e (jW 140 h (λq37 h=>?_) λJ38 h hJ38=>zd h e (λ_ h=>?_) (λ_ h=>zj (oV (zM e e) (oa e (zO (hJ38 h 2))))))))))))))
  ·exact zj (oV (za4 (α:=GNpsOT) ty72 e) (oV (zfg (.same e (.same e (.same e (.same e .nil))))) (za h λy24 hy24 h=>oT (tC1 (zcR hy24) hT (s2 e e) (a4 k2) (λv25=>oa e (rb (hJ13 h v25 18)))))))
  ·refine ws (an e (ws (oV (za4 (α:=GNpsOT) ty72 e) (oV (vI e GTyp.f4 zbd y7.fields) (oV (zb ty127 e) (za h λy26 hy26 h=>oT (tC (zhn hy26) hT (s3 e e e) (a4 k0) (om e (oV (zr e e) (oV (zr e e) (oa e (an e (ws (om e (om e (jo 3 h Unit (λq27 g27=>[(121,isv q27.1)]) (λq27 g27=>[boxE zaW (GNpsO q27.2)]) k1 (λq27 g27 h=>?_) λJ28 h hJ28=>oI h (λg29 h=>?_) λg29 h=>oN g29 (oN g29 (oV (zg e g29 e) (hJ28 h () 3)))))))))))))))))))
   ·refine rn (zd h e (λ_ h=>?_) (λ_ h=>zC (zs (hJ13 h none 29))))
    refine ws (oT (zV _ ze26 λb31=>rn (zE (zG (.v 0 (.v 1 (.v 2 (.v 3 (.v 4 (.v 5 (.v 6 (.v 7 (.v 8 (.t 9 (.v 10 (.v 11 (.v 12 (.t 13 (.v 14 .nil))))))))))))))) moOrd (by kernel_rfl) (zl e (za4 (α:=GNpsOT) ty72 e) (zl e (vI e GTyp.f4 zbd y7.fields) (zl e (zb ty127 e) (rm e e (za h λy32 hy32 h=>zl e (vX e e sl127 hy32) (zl e (vI e GFld.f1 zdy y32.ty) (zl e (zb ty3 e) (zl e (zb ty3 e) (zy h λq33 h=>zl e (zY e e q33) (za h λy34 hy34 h=>rT e (tC (zbC hy34) hT (s3 e e e) (a1 k0) (rm e e (zl e (zr e e) (zl e (zr e e) (rT e (tS ty26 e e p1 y34.1 (zeW (zaF 13 .here e) (zl e (zaA e) (zaj (zp (zG (.v 0 (.v 1 (.v 3 (.alt 2 (.t 4 (.v 5 (.t 6 .nil))) (.t 4 (.t 2 (.v 5 (.t 6 .nil)))))))) moOrd (by kernel_rfl) (rm e e (zl e (zb ty26 e) (zl e (zw e zmb zcy) ?_))))))))))))))))))))))))))))
    refine zfB ?_ (rT e (tS ty2 e e p1 (y7.kind,y26.1,[],⟨none,0⟩,0,[]) (rT e (zn9 (l:=([y34.1]:(List Val))) el23 (.cons e hI .nil) e e λv36=>zl e (zw e zhZ zcS) (rT e (tR ty23 e e isvV2 p1 (y7.kind,y26.1,[],⟨v36,([y34.1]:(List Val)).length⟩,0,[]) e (zaj (zs (hJ13 h v36 50)))))))))
    exact rT e (zn9 (l:=([y34.1]:(List Val))) el23 (.cons e hI .nil) e e λv35=>rT e (tS ty2 e e p2 (y7.kind,y26.1,[],⟨none,0⟩,0,[]) (zl e (zw e zhZ zcS) (rT e (tR ty23 e e isvV2 p0 (y7.kind,y26.1,[],⟨v35,([y34.1]:(List Val)).length⟩,0,[]) e (zaj (zs (hJ13 h v35 50))))))))
   exact oG g29 (za4 (α:=GNpsOT) ty72 e) (za h λy30 hy30 h=>oH g29 (tC (zcE hy30) hT (s2 e e) k1 (oV (zh e g29 e) (hJ28 h () 3))))
  ·refine zd h e (λ_ h=>?_) (λ_ h=>zC (zs (hJ13 h none 19)))
   exact zj (oV (za4 (α:=GNpsOT) ty72 e) (oV (zb ty129 e) (oV (zb ty3 e) (za h λy39 hy39 h=>oT (tC1 (zcG hy39) hT (s4 e e e e) (a4 k2) (λv40=>oa e (rb (hJ13 h v40 24))))))))
  exact zC (hJ38 h 0)
 exact oN g5 (oN g5 (oN g5 (oN g5 (oN g5 (oN g5 (oN g5 (oN g5 (oV (zh e g5 e) (hJ4 h 9)))))))))

theorem zjM {zQ zX zaa zab zR zL} (zcq:zbp zQ) (zbC:zbD zX) (zcR:zbO zaa) (zcG:zbQ zab) (zcr:zbs zR) (zcd:zbl zL):zbO (zdr zQ zX zaa zab zR zL):=by
 intro a_p zed zcC zfa zaW zi5 zgI r h
 unfold zdr at h
 refine zi Tryz.func73 e λw0 S0 hT=>ws (an e (ss (om e (za h λy2 hy2 h=>oT (tC (zcE hy2) hT (s2 e e) k1 (oV (zaX e) (rn (zd h e (λ_ h=>?_) (λ_ h=>wk (ss (om e (oV (zf e) (oV (zw e zcK ze1) (za h λy3 hy3 h=>oT (tC (zdU hy3) hT (s2 e e) k1 (rn (zd h e (λ_ h=>?_) (λ_ h=>wk (zn (lP h Vt zgI (λq4 g4=>[]) (λq4 g4=>[boxE zaW (GNpsO q4.1),boxE zi5 (ValO q4.2 g4),vecE g4 q4.2.l]) zat k3 λL5 q4 g4 Q14 h hL5 eL5 rL5=>zn (ss (om e (za h λy10 hy10 h=>oT (zfr e .nil (zcq hy10) hT (.cons .here (.cons .here (.cons .here .nil))) (λR H' hR=>?_)))))))))))))))))))))))))
 ·exact ws (ar e (zF (ze (r1 e) k3 (iS h ▸ ⟨zgI,e,e⟩))))
 ·exact ws (ar e (zF (ze (r1 e) k3 (iS h ▸ ⟨zgI,e,e⟩))))
 obtain ⟨v11,rfl,rfl⟩:=hR
 refine oV (zaX e) (rn (zd h e (λ_ h=>?_) (λ_ h=>wk (ws (om e (oV (zf e) (oV (zw e zcK ze1) (za h λy12 hy12 h=>oT (tC (zdU hy12) hT (s2 e e) k1 (oV (zaX e) (rn (zd h e (λ_ h=>?_) (λ_ h=>zC (zs (hL5 h v11 8)))))))))))))))
 ·exact ws (ar e (zF (za2 (rL5 _ (za2 (ze (r1 e) k3 (iS h ▸ ⟨v11,e,e⟩)))))))
 exact ws (om e (za h λy13 hy13 h=>oT (tC (zcE hy13) hT (s2 e e) k1 (ar e (za2 (rL5 _ (za2 (ze (r1 e) k3 (iS h ▸ ⟨v11,e,e⟩)))))))))

theorem zjL {zQ zX zaa zab zR zL} (zcq:zbp zQ) (zbC:zbD zX) (zcR:zbO zaa) (zcG:zbQ zab) (zcr:zbs zR) (zcd:zbl zL):zbQ (zdx zQ zX zaa zab zR zL):=by
 intro a_p a_x a_v zH zaW zpX zrb r h
 unfold zdx at h
 refine zi Tryz.func76 e λw0 S0 hT=>ws (oT (zi8 (y:=PtrB.mk zaW) e zkv (oT (tB e (oT (zi8 (y:=PtrB.mk zpX) e zkv (oT (tB e (an e (zE (zG (.v 0 (.v 1 (.v 2 (.v 3 (.t 4 (.v 5 (.v 6 (.t 7 .nil)))))))) moOrd (by kernel_rfl) (zl e (za4 (α:=ValOT) ty158 e) (zl e (vI e GTyp.f4 zbd a_x.fields) (zl e (zb ty127 e) (zl e (vN e sl127) (zah h λq2 h=>rT e (zsY el23 ze26 Tryz.underlying23 e e q2.1 e q2.2 λv3=>zl e (zf e) (zl e (zw e zhZ zcS) (rT e (tR ty23 e e isvV2 p2 (ValO ⟨a_v.kind,a_v.n,a_v.b,(List.replicate ((a_x.fields.length:Int)).toNat ⟨0,0,[],[],0,[]⟩),a_v.rule,a_v.more⟩ v3) e (zaj (zp (ws (oT (zV _ ze3 λb4=>oT (tS ty3 e e p0 0 (rn (ws (oV (za4 (α:=GNpsOT) ty72 e) (oV (zfg (.same e (.same e (.same e (.same e (.same e .nil)))))) (za h λy5 hy5 h=>oT (tC1 (zcr hy5) hT (s2 e e) (a3 k3) (λv6=>ar e ?_)))))))))))))))))))))))))))))))))
 exact ze (r1 e) (a0 (a1 (a1 k0))) (iS h ▸ ⟨v6,e,e⟩)

theorem ziV {zQ zX zaa zab zR zL} (zcq:zbp zQ) (zbC:zbD zX) (zcR:zbO zaa) (zcG:zbQ zab) (zcr:zbs zR) (zcd:zbl zL):zbs (zc1 zQ zX zaa zab zR zL):=by
 intro a_p zed zcC zfa zh6 zaW zi3 ziS zgY r h
 unfold zc1 at h
 refine zi Tryz.func73 e λw0 S0 hT=>ws (an e (ss (om e (za h λy2 hy2 h=>oT (tC (zcE hy2) hT (s2 e e) k1 (oV (zaX e) (rn (zd h e (λ_ h=>?_) (λ_ h=>wk (ss (om e (oV (zf e) (oV (zw e zcK ze1) (za h λy3 hy3 h=>oT (tC (zdU hy3) hT (s2 e e) k1 (rn (zd h e (λ_ h=>?_) (λ_ h=>wk (zn (lP h Vt zgY (λq4 g4=>[]) (λq4 g4=>[boxE zaW (GNpsO q4.1),boxE zi3 (q4.2.1:Int),boxE ziS (ValO q4.2.2 g4),vecE g4 q4.2.2.l]) zat k4 λL5 q4 g4 Q14 h hL5 eL5 rL5=>zn (ss (om e (za h λy10 hy10 h=>oT (zfr e .nil (zcd hy10) hT (.cons .here (.cons .here (.cons .here (.cons .here .nil)))) (λR H' hR=>?_)))))))))))))))))))))))))
 ·exact ws (ar e (zF (ze (r1 e) k4 (iS h ▸ ⟨zgY,e,e⟩))))
 ·exact ws (ar e (zF (ze (r1 e) k4 (iS h ▸ ⟨zgY,e,e⟩))))
 obtain ⟨v11,rfl,rfl⟩:=hR
 refine oV (zaX e) (rn (zd h e (λ_ h=>?_) (λ_ h=>wk (ws (om e (oV (zf e) (oV (zw e zcK ze1) (za h λy12 hy12 h=>oT (tC (zdU hy12) hT (s2 e e) k1 (oV (zaX e) (rn (zd h e (λ_ h=>?_) (λ_ h=>zC (zs (hL5 h v11 8)))))))))))))))
 ·exact ws (ar e (zF (za2 (rL5 _ (za2 (ze (r1 e) k4 (iS h ▸ ⟨v11,e,e⟩)))))))
 exact ws (om e (za h λy13 hy13 h=>oT (tC (zcE hy13) hT (s2 e e) k1 (ar e (za2 (rL5 _ (za2 (ze (r1 e) k4 (iS h ▸ ⟨v11,e,e⟩)))))))))

theorem zik {zQ zX zaa zab zR zL} (zcq:zbp zQ) (zbC:zbD zX) (zcR:zbO zaa) (zcG:zbQ zab) (zcr:zbs zR) (zcd:zbl zL):zbl (zcQ zQ zX zaa zab zR zL):=by
 intro a_a0 a_a1 a_a2 a_a3 a_a4 zip zjr znP zhx r h
 unfold zcQ at h
 refine zi Tryz.func129 e λw0 S0 hT=>ws (an e (ws (oV (za4 (α:=GNpsOT) ty72 e) (oV (vI e GTyp.f4 zbd a_a1.fields) (oV (zb ty127 e) (oT (tL ty3 e p1 a_a2 (za h λy2 hy2 h=>oT (tC (zhn hy2) hT (s3 e e e) k1 (om e (oV (zr e e) (oV (zr e e) (oa e (an e (ss (om e (oV (zaX e) (rn (zd h e (λ_ h=>?_) (λ_ h=>wk (zE (jw h Unit (λq3 g3=>[(7,isv q3.1),(8,immv (q3.2.1))]) (λq3 g3=>[boxE zip (GNpsO q3.2.2)]) k1 (λq3 g3 h=>?_) λJ4 h hJ4=>zG (.v 0 (.v 1 (.v 2 (.v 3 (.v 4 (.v 5 (.v 6 (.v 7 (.v 8 (.alt 9 (.v 10 (.v 11 (.v 12 (.t 13 (.t 14 (.v 15 .nil)))))) (.t 13 (.t 9 (.v 10 (.v 11 (.v 12 (.t 14 (.v 15 .nil))))))))))))))))) moOrd (by kernel_rfl) (zl e (za4 (α:=GNpsOT) ty72 e) (zl e (vI e GTyp.f4 zbd a_a1.fields) (zl e (zb ty127 e) (rm e e (za h λy5 hy5 h=>zl e (vX e e sl127 hy5) ?_)))))))))))))))))))))))))))
 ·exact ws (ar e (zF (ze (r1 e) k4 (iS h ▸ ⟨zhx,e,e⟩))))
 ·refine ss (oV (vI e GTyp.f4 zbd a_a1.fields) (oV (zb ty127 e) (om e (za h λy10 hy10 h=>oV (vX e e sl127 hy10) (oV (zb ty137 e) (oT (zV _ ze137 λb11=>oT (tS ty137 e e p0 y10 (zaf (zaF 9 .here e) (rn (ws (oV (vI e GFld.f3 zjh y10.has) (oV (zb ty4 e) (oV (zaX e) (om e (jO 6 47 h (λq12 h=>?_) λJ13 h hJ13=>oI h (λg14 h=>?_) λg14 h=>oG g14 (zb ty26 e) (oG g14 (vI e GFld.f4 zlH y10.dflt) (oG g14 (zb ty26 e) (za h λy15 hy15 h=>oH g14 (tC (zlY fuel hy15) hT (s2 e e) k0 (oG g14 (zaX e) (oV (zg e g14 e) (hJ13 h 6)))))))))))))))))))))))
  ·refine rn (jw h Unit (λq16 g16=>[]) (λq16 g16=>[boxE znP (ValO q16 zhx),vecE zhx q16.l]) (a2 (a2 k0)) (λq16 g16 h=>?_) λJ17 h hJ17=>zd h e (λ_ h=>?_) (λ_ h=>zC (hJ17 h () 0)))
   ·exact ws (om e (zy h λq20 h=>oV (zY e e q20) (oT (tS ty3 e e p3 (y2.1 + 1) (rn (ws (om e (ar e (ze (r1 e) (a3 k3) (iS h ▸ ⟨zhx,e,e⟩))))))))))
   exact zG (.v 0 (.v 1 (.v 2 (.v 4 (.v 5 (.t 3 (.v 6 (.t 7 .nil)))))))) moOrd (by kernel_rfl) (zl e (za4 (α:=ValOT) ty158 e) (zl e (zf e) (zl e (zw e zhZ zcS) (rm e e (zl e (zb ty26 e) (rT e (zaP (R:=vecv zhx (a_a4.l.length)) ty23 e p2 isvV1 (zah h λq18 h=>zl e (zdH (α:=Val) sl23 e e q18.1 q18.2) (za h λy19 hy19 h=>rT e (zeS ty26 e e (.there (.there (.there .here))) hy19 (zeW (zgm (y:=(ValO (Val.mk a_a4.kind a_a4.n a_a4.b (a_a4.l.set y2.1.toNat q3.2.1) a_a4.rule a_a4.more) zhx)) (.there (.there (.there .here))) (λS=>(Cv.pair Cv.id (Cv.pair Cv.id (Cv.pair Cv.id (Cv.pair (Cv.vhe (by first | rfl | simp)) (Cv.pair Cv.id Cv.id))))))) (zaj (hJ17 h () 7)))))))))))))
  exact oN g14 (oN g14 (oN g14 (oN g14 (oN g14 (oV (zh e g14 e) (hJ13 h 6))))))
 refine zl e (vI e GFld.f1 zdy y5.ty) (zl e (zb ty3 e) (zl e (zb ty3 e) (zy h λq6 h=>zl e (zY e e q6) (za h λy7 hy7 h=>zfB ?_ (rT e (zV _ ze26 λb9=>rT e (tC (zbC hy7) hT (s3 e e e) (a1 k0) (rm e e (zl e (zr e e) (zl e (zr e e) (rT e (tS ty26 e e p1 y7.1 (zeW (zaF 8 .here e) (zl e (zaA e) (zaj (hJ4 h () 16))))))))))))))))
 exact rT e (tC (zbC hy7) hT (s3 e e e) k1 (rm e e (zl e (zr e e) (zl e (zr e e) (rT e (zV _ ze26 λb8=>rT e (tS ty26 e e p0 y7.1 (zeW (zaF 8 .here e) (zl e (zaA e) (zaj (hJ4 h () 16)))))))))))

theorem zff:∀ n,zbp (zbT n)/\zbD (za7 n)/\zbO (zbY n)/\zbQ (zbX n)/\zbs (zbN n)/\zbl (zbA n)
  | 0=>⟨λh=>(by cases h),λh=>(by cases h),λh=>(by cases h),λh=>(by cases h),λh=>(by cases h),λh=>(by cases h)⟩
  | n + 1=>by
    obtain ⟨h0,h1,h2,h3,h4,h5⟩:=zff n
    exact ⟨ziW h0 h1 h2 h3 h4 h5,zjQ h0 h1 h2 h3 h4 h5,zjM h0 h1 h2 h3 h4 h5,zjL h0 h1 h2 h3 h4 h5,ziV h0 h1 h2 h3 h4 h5,zik h0 h1 h2 h3 h4 h5⟩
theorem zkV (n:Nat):zbD (za7 n):=(zff n).2.1
theorem zpK {a_t a_i zaQ r} (h:zgW a_t a_i zaQ=some r):Ctr Tryz.prog 15 [isv a_t,isv a_i,isv zaQ] [] (Pt [isv r.1,isv r.2.1,isv r.2.2] []):=by
 unfold zgW at h
 refine zi Tryz.func15 e λw0 S0 hT=>ws (oT (tB e (oT (zV _ ze26 λb1=>oa e (an e (ws (om e (za h λy2 hy2 h=>oT (tC (zpj hy2) hT (s1 e) k0 (om e (oV (zr e e) (oV (zr e e) (oV (zr e e) (oa e (oa e (an e (ss (om e (oV (zbt e e) (rn (zd h e (λ_ h=>?_) (λ_ h=>wk (ss (om e (oV (zas e e) (om e (jO 6 34 h (λq3 h=>?_) λJ4 h hJ4=>oI h (λg5 h=>?_) λg5 h=>oG g5 (zm e) ?_)))))))))))))))))))))))))))
 ·exact ws (oV (zam (z:=(Val.mk (0:Int) (0:Int) ([]:(List UInt8)) ([]:(List Val)) (0:Int) ([]:(List Raw)))) e bu26 ze26 .nil) (om e (om e (oT (tS ty26 e e p0 ⟨0,0,[],[],0,[]⟩ (oa e (ar e (zF (ze (.cell e .here ty26 (.tmp e (.tmp e .nil))) k0 (iS h ▸ ⟨e,e⟩))))))))))
 ·refine rn (zd h e (λ_ h=>?_) (λ_ h=>wk (ws (om e (oV (zam (z:=(GStm.mk y2.1 (0:Int))) e bu74 ze74 (.cons GStm.f0 ztY e hI .nil)) (oV (zb ty31 e) (oV (zam (z:=(((GStm.mk y2.1 (0:Int)),a_t,(0:Int),(0:Int)):GNpsOT)) e bu76 zv1 (.cons zcK ze1 e hI (.cons zno zri e hI .nil))) (oT (zki (y:=(((GStm.mk y2.1 (0:Int)),a_t,(0:Int),(0:Int)):GNpsOT)) e hI λb6=>an e (ws (om e (om e (za h λy7 hy7 h=>oT (tC (zkV fuel hy7) hT (s3 e e e) k1 (om e (oV (zr e e) (oV (zr e e) (oT (zV _ ze26 λb8=>oT (tS ty26 e e p0 y7.1 (zaf (zaF 13 .here e) (an e (ss (om e (om e (jo 7 h Unit (λq9 g9=>[(55,isv q9.1)]) (λq9 g9=>[boxE b6 (GNpsO q9.2)]) k1 (λq9 g9 h=>?_) λJ10 h hJ10=>oI h (λg11 h=>?_) λg11 h=>oN g11 (oN g11 (oN g11 ?_))))))))))))))))))))))))))))
  ·exact ws (oV (zam (z:=(Val.mk (0:Int) (0:Int) ([]:(List UInt8)) ([]:(List Val)) (0:Int) ([]:(List Raw)))) e bu26 ze26 .nil) (oT (tS ty26 e e p0 ⟨0,0,[],[],0,[]⟩ (oa e (ar e (zF (ze (.cell e .here ty26 (.tmp e (.tmp e .nil))) k0 (iS h ▸ ⟨e,e⟩))))))))
  ·refine rn (jw h Unit (λq13 g13=>[(14,isv q13.1)]) (λq13 g13=>[boxE b6 (GNpsO q13.2)]) k1 (λq13 g13 h=>?_) λJ14 h hJ14=>zd h e (λ_ h=>?_) (λ_ h=>zC (hJ14 h () 0)))
   ·refine ss (om e (oV (zaX e) (rn (zd h e (λ_ h=>?_) (λ_ h=>wk (ss (oV (zb ty31 e) (om e (oV (zb ty26 e) (za h λy18 hy18 h=>oT (tC (zlO hy18) hT (s3 e e e) k0 (oV (zaX e) (rn (zd h e (λ_ h=>?_) (λ_ h=>wk (ws (oV (zb ty26 e) (oT (tS ty26 e e p1 y7.1 (oa e (ar e (ze (.cell e .here ty26 (.tmp e (.tmp e .nil))) k0 (iS h ▸ ⟨e,e⟩)))))))))))))))))))))))
    ·exact zE (zcZ 12 .here e (λo16 hn17=>zG (.v 0 (.v 1 (.v 2 (.v 3 (.v 4 (.v 5 (.v 6 (.v 7 (.v 8 (.t 9 (.v 10 (.v 11 .nil)))))))))))) moOrd (by kernel_rfl) (zl e (zam (z:=(Val.mk (0:Int) (0:Int) ([]:(List UInt8)) ([]:(List Val)) (0:Int) ([]:(List Raw)))) e bu26 ze26 .nil) (rm e e (zl e (zar e) (zl e (zdI e zp8 zti) (zl e (vP ty3 e m0 q13.2.at_) (rm e e (zl e (zar e) (zl e (zdI e zlA zpN) (zl e (vP ty38 e m0 q13.2.e) (rT e (tS ty26 e e p0 ⟨0,0,[],[],0,[]⟩ (zl e (zaA e) (zl e (zaA e) (zaj (zaJ 12 hn17 e (zp (zbM (zF (ze (.cell e (.there .here) ty26 (.tmp e (.tmp e .nil))) k0 (iS h ▸ ⟨e,e⟩))))))))))))))))))))))
    exact ws (oV (zam (z:=(Val.mk (0:Int) (0:Int) ([]:(List UInt8)) ([]:(List Val)) (0:Int) ([]:(List Raw)))) e bu26 ze26 .nil) (oT (tS ty26 e e p1 ⟨0,0,[],[],0,[]⟩ (oa e (ar e (zF (ze (.cell e .here ty26 (.tmp e (.tmp e .nil))) k0 (iS h ▸ ⟨e,e⟩))))))))
   exact zj (om e (za h λy15 hy15 h=>oT (tC (zcF hy15) hT (s2 e e) k1 (oa e (zO (hJ14 h () 3))))))
  ·exact oG g11 (zm e) (oG g11 (zf e) (oG g11 (zw e zcK ze1) (za h λy12 hy12 h=>oH g11 (tC (zdh hy12) hT (s1 e) k1 (oG g11 (zh3 GTok.f0 e zdq e) (oG g11 (zbt e e) (oV (zh e g11 e) (hJ10 h () 7))))))))
  exact oN g11 (oN g11 (oN g11 (oV (zg e g11 e) (hJ10 h () 7))))
 ·exact oN g5 (oN g5 (oN g5 (oN g5 (oN g5 (oV (zh e g5 e) (hJ4 h 6))))))
 exact oG g5 (vI e GTab.f3 zfD a_t.types) (oG g5 (zb ty29 e) (oG g5 (vN e sl29) (oG g5 (zdP e e) (oV (zg e g5 e) (hJ4 h 6)))))

end Go.Proofs.Q


namespace Go.Proofs.Q
open Go.Sy
set_option maxRecDepth 4000
theorem zlu {a_n_ a_s a_b r} (h:zfq a_n_ a_s a_b=some r):Ctr Tryz.prog 6 [isv a_n_,isv a_s,isv a_b] [] (Pt [isv r] []):=by
 unfold zfq at h
 refine zi Tryz.func6 e λw0 S0 hT=>ws (an e (ss (om e (oV (zcf st9 e) (oV (zcl e e) (om e (jO 4 22 h (λq1 h=>?_) λJ2 h hJ2=>oI h (λg3 h=>?_) λg3 h=>oG g3 (zm e) (oG g3 (vN e sl22) (oG g3 (zcl e e) (oV (zg e g3 e) (hJ2 h 4)))))))))))
 ·refine om e (jO 4 27 h (λq4 h=>?_) λJ5 h hJ5=>oI h (λg6 h=>?_) λg6 h=>oG g6 (zm e) (za h λy7 hy7 h=>oH g6 (tC (zhN hy7) hT (s1 e) k0 (oG g6 (zaX e) (oV (zg e g6 e) (hJ5 h 4))))))
  ·refine rn (zd h e (λ_ h=>?_) (λ_ h=>wk (ws (za h λy9 hy9 h=>oT (tC (zib hy9) hT (s1 e) k0 (om e (oV (zr e e) (oV (zr e e) (oT (zV _ ze31 λb10=>oT (tS ty31 e e p0 y9.1 (zaf (zaF 7 .here e) (an e (ws (om e (oV (zam (z:=(Val.mk (2:Int) a_n_ ([]:(List UInt8)) ([]:(List Val)) (0:Int) ([]:(List Raw)))) e bu26 ze26 (.cons Val.f0 zdg e hI (.cons Val.f1 zcy e hI .nil))) (om e (zap h λq11 h=>oT (ztU Tryz.underlying9 Tryz.underlying22 Tryz.underlying5 e q11 (oV (zam (z:=(Val.mk (6:Int) (0:Int) a_s.b ([]:(List Val)) (0:Int) ([]:(List Raw)))) e bu26 ze26 (.cons Val.f0 zdg e hI (.cons Val.f2 zdp e hI .nil))) (om e (oV (zam (z:=(Val.mk (5:Int) (0:Int) a_b ([]:(List Val)) (0:Int) ([]:(List Raw)))) e bu26 ze26 (.cons Val.f0 zdg e hI (.cons Val.f2 zdp e hI .nil))) (oT (zB (l:=([(Val.mk (2:Int) a_n_ ([]:(List UInt8)) ([]:(List Val)) (0:Int) ([]:(List Raw))),(Val.mk (6:Int) (0:Int) a_s.b ([]:(List Val)) (0:Int) ([]:(List Raw))),(Val.mk (5:Int) (0:Int) a_b ([]:(List Val)) (0:Int) ([]:(List Raw)))]:(List Val))) el23 (.cons e hI (.cons e hI (.cons e hI .nil))) e e (oV (zam (z:=(Val.mk (7:Int) (0:Int) ([]:(List UInt8)) ([(Val.mk (2:Int) a_n_ ([]:(List UInt8)) ([]:(List Val)) (0:Int) ([]:(List Raw))),(Val.mk (6:Int) (0:Int) a_s.b ([]:(List Val)) (0:Int) ([]:(List Raw))),(Val.mk (5:Int) (0:Int) a_b ([]:(List Val)) (0:Int) ([]:(List Raw)))]:(List Val)) (0:Int) ([]:(List Raw)))) e bu26 ze26 (.cons Val.f0 zdg e hI (.cons Val.f3 zcS e zx .nil))) (oT (zV _ ze26 λb13=>oT (tS ty26 e e p0 ⟨7,0,[],([⟨2,a_n_,[],[],0,[]⟩,⟨6,0,a_s.b,[],0,[]⟩,⟨5,0,a_b,[],0,[]⟩]:(List Val)),0,[]⟩ (zaf (zaF 9 .here e) (rn (ws (oV (zb ty31 e) ?_))))))))))))))))))))))))))))))))
   ·exact ws (za h λy8 hy8 h=>oT (tC (zk1 hy8) hT .nil k0 (ar e (zF (ze (r1 e) k0 (iS h ▸ ⟨e,e⟩))))))
   refine oV (zb ty26 e) (za h λy14 hy14 h=>oT (tC (zl2 hy14) hT (s3 e e e) k0 (om e (oV (zr e e) (oV (zr e e) (oa e (an e (ws (oV (zb ty31 e) (om e (za h λy15 hy15 h=>oT (tC (zpK hy15) hT (s3 e e e) k0 (om e (oV (zr e e) (oV (zr e e) (oV (zr e e) (oT (zV _ ze26 λb16=>oT (tS ty26 e e p0 y15.1 (zaf (zaF 12 .here e) (oa e (an e (ws (za h λy17 hy17 h=>oT (tC (zk1 hy17) hT .nil k0 (om e (jO 2 58 h (λq18 h=>?_) λJ19 h hJ19=>oI h (λg20 h=>?_) λg20 h=>oN g20 (oV (zg e g20 e) ?_))))))))))))))))))))))))))))
   ·refine om e (jO 3 62 h (λq21 h=>?_) λJ22 h hJ22=>oI h (λg23 h=>?_) λg23 h=>oN g23 (oN g23 (oV (zg e g23 e) (hJ22 h 3))))
    ·refine om e (jO 3 66 h (λq24 h=>?_) λJ25 h hJ25=>oI h (λg26 h=>?_) λg26 h=>oN g26 (oN g26 (oV (zg e g26 e) (hJ25 h 3))))
     ·refine om e (jO 3 70 h (λq27 h=>?_) λJ28 h hJ28=>oI h (λg29 h=>?_) λg29 h=>oN g29 (oN g29 (oV (zg e g29 e) (hJ28 h 3))))
      ·refine om e (jO 4 75 h (λq30 h=>?_) λJ31 h hJ31=>oI h (λg32 h=>?_) λg32 h=>oN g32 (oN g32 (oN g32 (oV (zg e g32 e) (hJ31 h 4)))))
       ·exact ar e (ze (r1 e) k0 (iS h ▸ ⟨e,e⟩))
       exact oG g32 (zb ty26 e) (oG g32 (zb ty26 e) (za h λy33 hy33 h=>oH g32 (tC (zs3 fuel hy33) hT (s2 e e) k0 (oV (zh e g32 e) (hJ31 h 4)))))
      exact oG g29 (zm e) (oG g29 (zM e e) (oV (zh e g29 e) (hJ28 h 3)))
     exact oG g26 (zm e) (oG g26 (zM e e) (oV (zh e g26 e) (hJ25 h 3)))
    exact oG g23 (zm e) (oG g23 (zM e e) (oV (zh e g23 e) (hJ22 h 3)))
   ·exact oG g20 (zm e) (oV (zh e g20 e) (hJ19 h 2))
   exact hJ19 h 2
  exact oN g6 (oN g6 (oN g6 (oV (zh e g6 e) (hJ5 h 4))))
 exact oN g3 (oN g3 (oN g3 (oV (zh e g3 e) (hJ2 h 4))))

end Go.Proofs.Q

