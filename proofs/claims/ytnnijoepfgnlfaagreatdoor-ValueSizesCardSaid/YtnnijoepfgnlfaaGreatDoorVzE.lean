/- Walks, printed by mill.py. -/
import Derived.Test.YtnnijoepfgnlfaaGreatDoorVzA
import Derived.Test.YtnnijoepfgnlfaaGreatDoorVzB
import Derived.Test.YtnnijoepfgnlfaaGreatDoorVzC
import Derived.Test.YtnnijoepfgnlfaaGreatDoorVzD
set_option linter.unusedVariables false
set_option linter.unusedSimpArgs false

namespace Go.Proofs.Q
open Go.Sy
set_option maxRecDepth 4000
theorem zj0:∀ {zeV:(List (List Tag))} {r:Bool},zgw zeV=some r→Ctr Tryz.prog 194 [isv (zeV)] [] (fun R H=>R=oneOf [isv (r)]∧H=[]):=by
 intro zeV r h
 unfold zgw at h
 refine zr Tryz.func194 e fun w0 S0 hT=>wsr (oA e (rnf (wsr (oA e (rnf (zp (wsr ?_)))))))
 refine oA e (rnf (zB (zgZ (zbh) (zbx (ι:=(List Tag) × Int) (γ:=Tok) (fun q1 g1=>[(3,appv g1 (q1.1)),(4,isv (q1.2))]) (fun q1 g1=>[tokE g1]) h (none) (za (j:=3) e zb4 (za (j:=4) e hI ze)) k1 (fun L2 q1 g1 Q55 h hL2 eL2 rL2=>zp (wsr (oM e (oM e ?_))))))))
 refine oV (zaH (l:=zeV) e hI sl242) (oV (zay e e) (rnf (zg h e (fun _ h=>?_) (fun _ h=>?_))))
 ·refine wkf (zp (zB (wsr (oA e (rnf (zB (zbx (ι:=(List Tag) × Int) (γ:=Tok) (fun q29 g29=>[(3,appv g29 (q29.1)),(5,isv (q29.2))]) (fun q29 g29=>[tokE g29]) h (g1) (za (j:=3) e hI (za (j:=5) e hI ze)) k1 (fun L30 q29 g29 Q53 h hL30 eL30 rL30=>zp ?_))))))))
  refine wsr (oM e (oM e (oM e (zb h fun y42 hy42 h=>oV (zaz (l:=zeV) e hI e sl242 hy42) (oV (zd ty78 e) (oV (zaH (l:=y42) e hI sl78) (oV (zay e e) ?_)))))))
  refine rnf (zg h e (fun _ h=>?_) (fun _ h=>?_))
  ·refine wkf (zp (zB (zp (wsr (oM e (oM e (oM e (zb h fun y43 hy43 h=>?_))))))))
   refine oV (zaz (l:=zeV) e hI e sl242 hy43) (oV (zd ty78 e) (oM e (zb h fun y44 hy44 h=>oV (zaz (l:=y43) e hI e sl78 hy44) (oV (zd ty31 e) (zb h fun y45 hy45 h=>oT (zA (zj1 hy45) hT (.cons e zQ (s1 e)) .nil (rnf ?_)))))))
   refine zg h e (fun _ h=>?_) (fun _ h=>?_)
   ·refine wsr (oA e (rnf (zD (zx (zz (zx (rL30 _ (zz ?_))))))))
    refine zz (zx (rL2 _ (zz (zx ?_))))
    cases h
    exact zh (.tmp e .nil) .nil ⟨e,e⟩
   refine wkf (zt (oM e (oM e (oM e (zb h fun y46 hy46 h=>oV (zaz (l:=zeV) e hI e sl242 hy46) (oV (zd ty78 e) (oM e ?_)))))))
   refine zb h fun y47 hy47 h=>oV (zaz (l:=y46) e hI e sl78 hy47) (oV (zd ty31 e) (oT (zZ (l:=([y47]:(List Tag))) el78 (.cons e hI .nil) e e (zaf h fun q50 h=>oT (zbU (l:=q29.1) (m:=([y47]:(List Tag))) zhl e hI e zQ .here q50 fun t49=>oA e (zF (zq ?_)))))))
   exact zE (zt (oM e (zO h fun q51 h=>oV (zan e e q51) (oA e (zF (hL30 _ (t49) h _ (zf 32 e e (za (j:=3) e hI (za (j:=5) e hI ze)) k1)))))))
  refine zam (z8 (eL30 _ _ (zL (zq (zE (zt (oM e (zO h fun q52 h=>?_))))))))
  exact oV (zan e e q52) (oA e (zF (hL2 _ (g29) h _ (zf 19 e e (za (j:=3) e hI (za (j:=4) e hI ze)) k1))))
 refine zam (z8 (eL2 _ _ (zL (zE (wsr (oA e (rnf (zD ?_))))))))
 cases h
 exact zh (.tmp e .nil) .nil ⟨e,e⟩


theorem zeF:∀ {a_x:GMk} {a_l:(List GFld)} {ziD:Bool} {zJ:Nat} {zad:Vt} {r:Bool × GMk},zdn a_x a_l ziD=some r→Ctr Tryz.prog 186 [ptrv zJ (Fld.id (GMod × Vh × Int)),isv (a_l),isv (ziD)] [boxE zJ ((a_x.m,(Vh.mk zad a_x.l.length),a_x.e):(GMod × Vh × Int)),vecE zad (a_x.l:List GTyp)] (fun R H=>R=oneOf [isv (r.1)]∧H=[boxE zJ ((r.2.m,(Vh.mk zad r.2.l.length),r.2.e)),vecE zad (r.2.l)]):=by
 intro a_x a_l ziD zJ zad r h
 unfold zdn at h
 refine zr Tryz.func186 e fun w0 S0 hT=>wsr (oA e (rnf (wsr (oA e (rnf (zp (wsr ?_)))))))
 refine oA e (rnf (zB (zgZ (zbh) (zbx (ι:=(List (List Tag)) × Int) (γ:=Tok) (fun q2 g2=>[(0,ptrv zJ (Fld.id (GMod × Vh × Int))),(7,appv g2 (q2.1)),(8,isv (q2.2))]) (fun q2 g2=>[tokE g2]) h (none) (za (j:=0) e hI (za (j:=7) e zb4 (za (j:=8) e hI ze))) k1 (fun L3 q2 g2 Q43 h hL3 eL3 rL3=>zp (wsr (oM e (oM e ?_))))))))
 refine oV (zaH (l:=a_l) e hI sl85) (oV (zay e e) (rnf (zg h e (fun _ h=>?_) (fun _ h=>?_))))
 ·refine wkf (zp (zB (zp (zp (zdh 0 tH e (fun o23 hn24=>zae (.v 0 (.v 1 (.v 2 (.v 3 (.v 4 (.v 5 (.v 6 (.v 7 (.v 8 (.t 9 (.v 10 (.v 11 (.v 12 (.v 13 (.v 14 (.v 15 (.v 16 (.v 17 .nil)))))))))))))))))) moOrd (by kernel_rfl) ?_))))))
  refine rvm e e (zC e (zbJ e) (zC e (zf0 e zbY zcI) (zC e (zdx (R:=vecv zad (a_x.l.length)) ty24 e (List.Mem.head _) isvV1) (rvm e e (rvm e e (zb h fun y25 hy25 h=>zC e (zaz (l:=a_l) e hI e sl85 hy25) (zC e (zI e GFld.f1 zdA e (z:=y25.ty)) ?_)))))))
  refine zC e (zd ty3 e) (zb h fun y26 hy26 h=>zaK e e (zA (zmF fuel hy26) hT (.cons e (fun _ _ h=>vecvE (by first | rfl | simp) _ _ h) (s1 e)) (.cons tH .nil) ?_))
  refine rvm e e (zdk (jb 32) je .nil h 7 e (fun q27 g27 h=>?_) (fun J28 h hJ28=>?_))
  ·refine zaA (za7 0 hn24 e (zE (zg h e (fun _ h=>?_) (fun _ h=>?_))))
   ·refine wsr (oA e (rnf (zD (zx (zz (zx (rL3 _ (zz ?_))))))))
    refine zx ?_
    cases h
    exact zh (.tmp e .nil) k2 ⟨e,e⟩
   refine wkf (zdh 0 .here e (fun o33 hn34=>zae (.v 0 (.v 1 (.v 2 (.v 3 (.v 4 (.v 5 (.v 6 (.v 7 (.v 8 (.v 9 (.t 10 (.t 11 (.t 12 (.v 13 .nil)))))))))))))) moOrd (by kernel_rfl) ?_))
   refine rvm e e (rvm e e (zC e (zbJ e) (zC e (zf0 e zbY zcI) (zC e (zdx (R:=vecv zad (a_x.l.length)) ty24 e (List.Mem.head _) isvV1) (rvm e e (rvm e e (zb h fun y35 hy35 h=>zC e (zaz (l:=a_l) e hI e sl85 hy35) ?_)))))))
   refine zC e (zI e GFld.f1 zdA e (z:=y35.ty)) (zC e (zd ty3 e) (zb h fun y36 hy36 h=>zaK e e (zA (zlh fuel hy36) hT (.cons e (fun _ _ h=>vecvE (by first | rfl | simp) _ _ h) (s1 e)) k1 ?_)))
   refine zaK e e (zZ (l:=([y36]:(List (List Tag)))) el242 (.cons e hI .nil) e e (zaf h fun q39 h=>zaK e e (zbU (l:=q2.1) (m:=([y36]:(List (List Tag)))) znA e hI e zQ tH q39 fun t38=>zC e (zaM e) (zaA (za7 0 hn34 e (zq (zE (zt ?_))))))))
   exact oM e (zO h fun q40 h=>oV (zan e e q40) (oA e (zF (hL3 _ (t38) h _ (zf 40 e e (za (j:=0) e hI (za (j:=7) e hI (za (j:=8) e hI ze))) (.cons tH k2))))))
  refine zaJ (j:=25) h e (fun g29 h=>?_) (fun g29 h=>?_)
  ·refine rvt 25 e e e g29 (zs e) (rvt 25 e e e g29 (zs e) (zdk (jb 31) je .nil h 4 e (fun q30 g30 h=>?_) (fun J31 h hJ31=>?_)))
   ·exact zC e (zi e g29 e) (hJ28 _ () h _ (zf 4 e e (za (j:=32) e hI ze) k2))
   refine zaJ (j:=27) h e (fun g32 h=>?_) (fun g32 h=>?_)
   ·exact rpv 27 e e e g32 (rpv 27 e e e g32 (rpv 27 e e e g32 (rvt 25 e e e g29 (zi e g32 e) (hJ31 _ () h _ (zf 4 e e (za (j:=31) e hI ze) k2)))))
   exact rvt 27 e e e g32 (zs e) (rvt 27 e e e g32 (zaH (l:=a_l) e hI sl85) (rvt 27 e e e g32 (zb1 e e) (rvt 25 e e e g29 (zj e g32 e) (hJ31 _ () h _ (zf 4 e e (za (j:=31) e hI ze) k2)))))
  exact rpv 25 e e e g29 (rpv 25 e e e g29 (zbL e e (dj:=27) e (zbL e e (dj:=27) e (zbL e e (dj:=27) e (rpv 25 e e e g29 (zC e (zj e g29 e) (hJ28 _ () h _ (zf 7 e e (za (j:=32) e hI ze) k2))))))))
 refine zam (z8 (eL3 _ _ (zL (zE (wsr (oM e (zb h fun y41 hy41 h=>oT (zA (zj0 hy41) hT (.cons e zQ .nil) .nil ?_))))))))
 refine oA e (rnf (zD ?_))
 cases h
 exact zh (.tmp e .nil) (.cons tH (.cons tH .nil)) ⟨e,e⟩


theorem zi6:∀ {a_t:GTyp} {r:(List Bool)},zhi a_t=some r→Ctr Tryz.prog 183 [isv (a_t)] [] (fun R H=>R=oneOf [isv (r)]∧H=[]):=by
 intro a_t r h
 unfold zhi at h
 refine zr Tryz.func183 e fun w0 S0 hT=>wsr (oT (zaw (y:=a_t) e hI (oA e (rnf (wsr (oA e (rnf (zp ?_))))))))
 refine wsr (oA e (rnf (zB (zgZ (zbh) (zbx (ι:=(List Bool) × Int) (γ:=Tok) (fun q1 g1=>[(3,appv g1 (q1.1)),(4,isv (q1.2))]) (fun q1 g1=>[tokE g1]) h (none) (za (j:=3) e zb4 (za (j:=4) e hI ze)) k1 (fun L2 q1 g1 Q28 h hL2 eL2 rL2=>zp (wsr (oM e ?_))))))))
 refine oV (zI e GTyp.f4 zbR e (z:=a_t.fields)) (oV (zd ty85 e) (oV (zaH (l:=a_t.fields) e hI sl85) (oV (zay e e) (rnf (zg h e (fun _ h=>?_) (fun _ h=>?_))))))
 ·refine wkf (zp (zB (zt (oM e (oV (zI e GTyp.f4 zbR e (z:=a_t.fields)) (oV (zd ty85 e) (oM e (zb h fun y15 hy15 h=>?_))))))))
  refine oV (zaz (l:=a_t.fields) e hI e sl85 hy15) (oV (zI e GFld.f2 zkL e (z:=y15.optional)) (oV (zd ty4 e) (oM e (zab (jb 26) je .nil h 7 e (fun q16 g16 h=>?_) (fun J17 h hJ17=>?_)))))
  ·refine oM e (zab (jb 32) je .nil h 5 e (fun q20 g20 h=>?_) (fun J21 h hJ21=>?_))
   ·refine oT (zZ (l:=([q20]:(List Bool))) el49 (.cons e hI .nil) e e (zaf h fun q25 h=>oT (zbU (l:=q1.1) (m:=([q20]:(List Bool))) zpC e hI e zQ .here q25 fun t24=>oA e (zF (zq (zE (zt (oM e ?_))))))))
    exact zO h fun q26 h=>oV (zan e e q26) (oA e (zF (hL2 _ (t24) h _ (zf 24 e e (za (j:=3) e hI (za (j:=4) e hI ze)) k1))))
   refine zn (j:=27) h e (fun g22 h=>?_) (fun g22 h=>?_)
   ·exact oP 27 e e g22 (oP 27 e e g22 (oP 27 e e g22 (oP 27 e e g22 (oV (zi e g22 e) (hJ21 _ () h _ (jk 5 32 e e e))))))
   exact oK 27 e e e g22 (zs e) (oK 27 e e e g22 (zI e GTyp.f5 zg9 e (z:=a_t.root)) (oK 27 e e e g22 (zd ty3 e) (oK 27 e e e g22 (zcR e e) (oV (zj e g22 e) (hJ21 _ () h _ (jk 5 32 e e e))))))
  refine zn (j:=19) h e (fun g18 h=>?_) (fun g18 h=>?_)
  ·exact oP 19 e e g18 (oP 19 e e g18 (oP 19 e e g18 (oP 19 e e g18 (oP 19 e e g18 (oP 19 e e g18 (oV (zi e g18 e) (hJ17 _ () h _ (jk 7 26 e e e))))))))
  exact oK 19 e e e g18 (zI e GTyp.f4 zbR e (z:=a_t.fields)) (oK 19 e e e g18 (zd ty85 e) (oK 19 e e e g18 (zs e) (zb h fun y19 hy19 h=>oK 19 e e e g18 (zaz (l:=a_t.fields) e hI e sl85 hy19) (oK 19 e e e g18 (zI e GFld.f3 ziM e (z:=y19.has)) (oK 19 e e e g18 (zd ty4 e) (oV (zj e g18 e) (hJ17 _ () h _ (jk 7 26 e e e))))))))
 refine zam (z8 (eL2 _ _ (zL (zE (wsr (oM e (oA e (rnf ?_))))))))
 refine zD ?_
 cases h
 exact zh (.as e zQ .nil) .nil ⟨e,e⟩


theorem zmC:∀ {a_t:GTyp} {r:Int},zjS a_t=some r→Ctr Tryz.prog 165 [isv (a_t)] [] (fun R H=>R=oneOf [isv (r)]∧H=[]):=by
 intro a_t r h
 unfold zjS at h
 refine zr Tryz.func165 e fun w0 S0 hT=>wsr (oT (zaw (y:=a_t) e hI (oA e (rnf (wsr (oV (zd ty87 e) (zb h fun y1 hy1 h=>oT (zA (zi6 hy1) hT (s1 e) .nil ?_))))))))
 refine oA e (rnf (wsr (oV (zI e GTyp.f5 zg9 e (z:=a_t.root)) (oV (zd ty3 e) (oA e (rnf (zp (zB ?_))))))))
 refine zbx (ι:=Int) (γ:=Unit) (fun q2 g2=>[(4,isv (q2))]) (fun q2 g2=>[]) h () (za (j:=4) e hI ze) .nil (fun L3 q2 g2 Q16 h hL3 eL3 rL3=>zp (wsr (oM e (oV (zb1 e e) (oM e (zab (jb 17) je .nil h 6 e (fun q10 g10 h=>?_) (fun J11 h hJ11=>?_)))))))
 ·refine rnf (zg h e (fun _ h=>?_) (fun _ h=>?_))
  ·refine wkf (zB (zt (oM e (zO h fun q15 h=>oV (zfo e e q15) (oA e (zF (zq ?_)))))))
   exact hL3 _ () h _ (ji 8 4 e e e)
  refine zam (z8 (eL3 _ _ (zL (zE (wsr (oM e (oA e (rnf ?_))))))))
  refine zD ?_
  cases h
  exact zh (.tmp e .nil) .nil ⟨e,e⟩
 refine zn (j:=11) h e (fun g12 h=>?_) (fun g12 h=>?_)
 ·exact oK 11 e e e g12 (zs e) (oK 11 e e e g12 (zs e) (zO h fun q13 h=>oK 11 e e e g12 (zfo e e q13) (zb h fun y14 hy14 h=>oK 11 e e e g12 (zaz (l:=y1) e hI e sl49 hy14) (oK 11 e e e g12 (zd ty4 e) (oV (zi e g12 e) (hJ11 _ () h _ (ji 6 17 e e e)))))))
 exact oP 11 e e g12 (oP 11 e e g12 (oP 11 e e g12 (oP 11 e e g12 (oP 11 e e g12 (oV (zj e g12 e) (hJ11 _ () h _ (ji 6 17 e e e)))))))


theorem ziG:∀ {a_x:GMk} {a_t:GTyp} {zJ:Nat} {zad:Vt} {r:Bool × GMk},ze0 a_x a_t=some r→Ctr Tryz.prog 176 [ptrv zJ (Fld.id (GMod × Vh × Int)),isv (a_t)] [boxE zJ ((a_x.m,(Vh.mk zad a_x.l.length),a_x.e):(GMod × Vh × Int)),vecE zad (a_x.l:List GTyp)] (fun R H=>R=oneOf [isv (r.1)]∧H=[boxE zJ ((r.2.m,(Vh.mk zad r.2.l.length),r.2.e)),vecE zad (r.2.l)]):=by
 intro a_x a_t zJ zad r h
 unfold ze0 at h
 refine zr Tryz.func176 e fun w0 S0 hT=>wsr (oT (zaw (y:=a_t) e hI (oA e (rnf (zp (wsr (oV (zI e GTyp.f0 zdf e (z:=a_t.kind)) (oV (zd ty3 e) ?_))))))))
 refine oV (zbo e e) (rnf (zg h e (fun _ h=>?_) (fun _ h=>?_)))
 ·refine wsr (oM e (oV (zI e GTyp.f4 zbR e (z:=a_t.fields)) (oV (zd ty85 e) (oV (zI e GTyp.f6 ziQ e (z:=a_t.more)) (oV (zd ty4 e) (zb h fun y2 hy2 h=>oT (zA (zeF hy2) hT (s3 e e e) k2 (oA e ?_))))))))
  refine rnf (zD (zx ?_))
  cases h
  exact zh (.tmp e .nil) k2 ⟨e,e⟩
 refine wkf (wsr (oV (zd ty87 e) (zb h fun y3 hy3 h=>oT (zA (zi6 hy3) hT (s1 e) .nil (oA e (rnf (zp (wsr ?_))))))))
 refine oA e (rnf (zB (zbx (ι:=Int × GMk) (γ:=Unit) (fun q4 g4=>[(6,isv (q4.1))]) (fun q4 g4=>[boxE zJ ((q4.2.m,(Vh.mk zad q4.2.l.length),q4.2.e):(GMod × Vh × Int)),vecE zad (q4.2.l:List GTyp)]) h () (za (j:=6) e hI ze) k2 (fun L5 q4 g4 Q66 h hL5 eL5 rL5=>zp (wsr (oM e (oV (zI e GTyp.f4 zbR e (z:=a_t.fields)) (oV (zd ty85 e) ?_))))))))
 refine oV (zaH (l:=a_t.fields) e hI sl85) (oV (zay e e) (rnf (zg h e (fun _ h=>?_) (fun _ h=>?_))))
 ·refine wkf (zp (zdF (ι:=GMk) (γ:=Unit) (fun q36 g36=>[]) (fun q36 g36=>[boxE zJ ((q36.m,(Vh.mk zad q36.l.length),q36.e):(GMod × Vh × Int)),vecE zad (q36.l:List GTyp)]) k2 h (fun q36 g36 h=>?_) (fun J37 h hJ37=>?_)))
  ·exact zt (oM e (zO h fun q59 h=>oV (zan e e q59) (oA e (zF (hL5 _ () h _ (zf 9 e e (za (j:=6) e hI ze) k2))))))
  refine zB (zp (wsr (oM e (oM e (zb h fun y38 hy38 h=>oV (zaz (l:=y3) e hI e sl49 hy38) (oV (zd ty4 e) (oV (za2 e) ?_)))))))
  refine rnf (zg h e (fun _ h=>?_) (fun _ h=>?_))
  ·exact zam (z8 (zL (hJ37 _ () h _ (zf 5 e e ze k2))))
  refine wkf (wsr (oM e (zO h fun q39 h=>oV (zan e e q39) (oA e (rnf (zp (zB ?_)))))))
  refine zbx (ι:=Int) (γ:=Unit) (fun q40 g40=>[(7,isv (q40))]) (fun q40 g40=>[]) h () (za (j:=7) e hI ze) .nil (fun L41 q40 g40 Q58 h hL41 eL41 rL41=>zp (wsr (oM e (oV (zI e GTyp.f4 zbR e (z:=a_t.fields)) (oV (zd ty85 e) (oV (zaH (l:=a_t.fields) e hI sl85) (oV (zay e e) (oM e ?_))))))))
  refine zab (jb 43) je .nil h 5 e (fun q50 g50 h=>?_) (fun J51 h hJ51=>?_)
  ·refine rnf (zg h e (fun _ h=>?_) (fun _ h=>?_))
   ·refine wkf (zB (zt (oM e (zO h fun q54 h=>oV (zan e e q54) (oA e (zF (zq ?_)))))))
    exact hL41 _ () h _ (zf 11 e e (za (j:=7) e hI ze) k2)
   refine zam (z8 (eL41 _ _ (zL (zE (wsr (oM e (oV (zI e GTyp.f4 zbR e (z:=a_t.fields)) (oV (zd ty85 e) ?_))))))))
   refine oM e (oM e (zO h fun q55 h=>oV (zan e e q55) (oV (zI e GTyp.f4 zbR e (z:=a_t.fields)) (oV (zd ty85 e) (oV (zaH (l:=a_t.fields) e hI sl85) (oV (zob e e) (zak h fun q56 h=>?_)))))))
   refine oV (zfn (l:=a_t.fields) e hI sl85 (.inr ⟨_,e,e⟩) (.inr ⟨_,e,e⟩) q56.1 q56.2.1 q56.2.2) (zb h fun y57 hy57 h=>oT (zA (zeF hy57) hT (s3 e e e) k2 (oV (za2 e) (rnf (zg h e (fun _ h=>?_) (fun _ h=>?_))))))
   ·refine wsr (oA e (rnf (zD (zz (zx (rL5 _ (zz (zx ?_))))))))
    cases h
    exact zh (.tmp e .nil) k2 ⟨e,e⟩
   exact z6 (zq (hJ37 _ () h _ (zf 29 e e ze k2)))
  refine zn (j:=38) h e (fun g52 h=>?_) (fun g52 h=>?_)
  ·exact oK 38 e e e g52 (zs e) (oK 38 e e e g52 (zs e) (zb h fun y53 hy53 h=>oK 38 e e e g52 (zaz (l:=y3) e hI e sl49 hy53) (oK 38 e e e g52 (zd ty4 e) (oV (zi e g52 e) (hJ51 _ () h _ (zf 5 e e (za (j:=43) e hI ze) k2))))))
  exact oP 38 e e g52 (oP 38 e e g52 (oP 38 e e g52 (oP 38 e e g52 (oV (zj e g52 e) (hJ51 _ () h _ (zf 5 e e (za (j:=43) e hI ze) k2))))))
 refine zam (z8 (eL5 _ _ (zL (zE (zp (zae (.v 0 (.v 1 (.v 2 (.v 3 (.v 4 (.v 5 (.v 6 (.v 7 (.t 8 (.v 9 (.t 10 (.v 11 (.v 12 .nil))))))))))))) moOrd (by kernel_rfl) ?_))))))
 refine zC e (zI e GTyp.f6 ziQ e (z:=a_t.more)) (zC e (zd ty4 e) (zC e (za2 e) (rvm e e (zdk (ι:=Bool × GMk) (γ:=Unit) (fun q60 g60=>[(70,isv (q60.1))]) (fun q60 g60=>[boxE zJ ((q60.2.m,(Vh.mk zad q60.2.l.length),q60.2.e):(GMod × Vh × Int)),vecE zad (q60.2.l:List GTyp)]) k2 h 8 e (fun q60 g60 h=>?_) (fun J61 h hJ61=>?_)))))
 ·refine zC e (zaM e) (zaA (zE (zD ?_)))
  cases h
  exact zh (.tmp e .nil) k2 ⟨e,e⟩
 refine zaJ (j:=62) h e (fun g62 h=>?_) (fun g62 h=>?_)
 ·exact rpv 62 e e e g62 (rpv 62 e e e g62 (rpv 62 e e e g62 (rpv 62 e e e g62 (zcZ e e (dj:=62) e g62 (rpv 62 e e e g62 (zcZ e e (dj:=62) e g62 (zC e (zi e g62 e) (hJ61 _ () h _ (zf 8 e e (za (j:=70) e hI ze) k2)))))))))
 refine rvt 62 e e e g62 (zs e) (rvt 62 e e e g62 (zI e GTyp.f4 zbR e (z:=a_t.fields)) (rvt 62 e e e g62 (zd ty85 e) (rvt 62 e e e g62 (zd ty87 e) (zb h fun y63 hy63 h=>zgI e e e (dj:=62) e g62 (zA (zmC hy63) hT (s1 e) .nil (zak h fun q64 h=>rvt 62 e e e g62 (zfn (l:=a_t.fields) e hI sl85 (.inr ⟨_,e,e⟩) (.inl ⟨e,e⟩) q64.1 q64.2.1 q64.2.2) (zb h fun y65 hy65 h=>?_)))))))
 exact zgI e e e (dj:=62) e g62 (zA (zeF hy65) hT (s3 e e e) k2 (zC e (zj e g62 e) (hJ61 _ () h _ (zf 8 e e (za (j:=70) e hI ze) k2))))


def zcW (f':GMk→Int→GNode→Int→Option (GMk)):Prop :=
 ∀ {a_x:GMk} {a_i:Int} {a_n_:GNode} {zG:Int} {zJ:Nat} {zad:Vt} {r:GMk},f' a_x a_i a_n_ zG=some r→Ctr Tryz.prog 154 [ptrv zJ (Fld.id (GMod × Vh × Int)),isv (a_i),isv (a_n_),isv (zG)] [boxE zJ ((a_x.m,(Vh.mk zad a_x.l.length),a_x.e):(GMod × Vh × Int)),vecE zad (a_x.l:List GTyp)] (fun R H=>∃ u1:Vt,R=oneOf []∧H=[boxE zJ ((r.m,(Vh.mk u1 r.l.length),r.e)),vecE u1 (r.l)])
def zcM (f':GMk→Int→Int→Option (Int × GMk)):Prop :=
 ∀ {a_x:GMk} {a_k:Int} {zG:Int} {zJ:Nat} {zad:Vt} {r:Int × GMk},f' a_x a_k zG=some r→Ctr Tryz.prog 77 [ptrv zJ (Fld.id (GMod × Vh × Int)),isv (a_k),isv (zG)] [boxE zJ ((a_x.m,(Vh.mk zad a_x.l.length),a_x.e):(GMod × Vh × Int)),vecE zad (a_x.l:List GTyp)] (fun R H=>∃ u1:Vt,R=oneOf [isv (r.1)]∧H=[boxE zJ ((r.2.m,(Vh.mk u1 r.2.l.length),r.2.e)),vecE u1 (r.2.l)])
def zdp (f':GMk→GNode→Int→Option (Int × GMk)):Prop :=
 ∀ {a_x:GMk} {a_n_:GNode} {zG:Int} {zJ:Nat} {zad:Vt} {r:Int × GMk},f' a_x a_n_ zG=some r→Ctr Tryz.prog 113 [ptrv zJ (Fld.id (GMod × Vh × Int)),isv (a_n_),isv (zG)] [boxE zJ ((a_x.m,(Vh.mk zad a_x.l.length),a_x.e):(GMod × Vh × Int)),vecE zad (a_x.l:List GTyp)] (fun R H=>∃ u1:Vt,R=oneOf [isv (r.1)]∧H=[boxE zJ ((r.2.m,(Vh.mk u1 r.2.l.length),r.2.e)),vecE u1 (r.2.l)])
theorem zhD {zaR:GMk→Int→GNode→Int→Option (GMk)} {zaS:GMk→Int→Int→Option (Int × GMk)} {za5:GMk→GNode→Int→Option (Int × GMk)} (zdK:zcW zaR) (zb7:zcM zaS) (zeC:zdp za5):∀ {a_x:GMk} {a_i:Int} {a_n_:GNode} {zG:Int} {zJ:Nat} {zad:Vt} {r:GMk},zdQ zaR zaS za5 a_x a_i a_n_ zG=some r→Ctr Tryz.prog 154 [ptrv zJ (Fld.id (GMod × Vh × Int)),isv (a_i),isv (a_n_),isv (zG)] [boxE zJ ((a_x.m,(Vh.mk zad a_x.l.length),a_x.e):(GMod × Vh × Int)),vecE zad (a_x.l:List GTyp)] (fun R H=>∃ u1:Vt,R=oneOf []∧H=[boxE zJ ((r.m,(Vh.mk u1 r.l.length),r.e)),vecE u1 (r.l)]):=by
 intro a_x a_i a_n_ zG zJ zad r h
 unfold zdQ at h
 refine zr Tryz.func154 e fun w0 S0 hT=>wsr (oT (zaw (y:=a_n_) e hI (rnf (wsr (oM e (oV (zw e) (oV (zY e zez zgk) (oV (zY e GMod.f1 zkJ) ?_))))))))
 refine oT (zH (R:=isv (a_x.m.tagging)) ty3 e .here hI (oV (zbo e e) (oA e (rnf (zp (wsr (oA e (rnf (zB ?_)))))))))
 refine zbx (ι:=Bool × Int) (γ:=Unit) (fun q2 g2=>[(0,ptrv zJ (Fld.id (GMod × Vh × Int))),(8,isv (q2.1)),(9,isv (q2.2))]) (fun q2 g2=>[]) h () (za (j:=0) e hI (za (j:=8) e hI (za (j:=9) e hI ze))) .nil (fun L3 q2 g2 Q336 h hL3 eL3 rL3=>zp (wsr (oM e (oV (zI e GNode.f5 zdv e (z:=a_n_.fields)) (oV (zd ty85 e) (oV (zaH (l:=a_n_.fields) e hI sl85) (oV (zay e e) (rnf ?_))))))))
 refine zg h e (fun _ h=>?_) (fun _ h=>?_)
 ·refine wkf (zp (zB (wsr (oV (zI e GNode.f5 zdv e (z:=a_n_.fields)) (oV (zd ty85 e) (oM e (zb h fun y170 hy170 h=>oV (zaz (l:=a_n_.fields) e hI e sl85 hy170) ?_)))))))
  refine oV (zd ty92 e) (oT (zag _ ze92 fun b171=>oT (zo (y':=(y170:GFld)) ty92 e e hI .here e (zaj (zaQ 10 .here e) (rnf (zdh 0 .here e (fun o172 hn173=>zae (.v 0 (.v 1 (.v 2 (.v 3 (.v 4 (.v 5 (.v 6 (.v 7 (.v 8 (.v 9 (.v 10 (.v 11 (.v 12 (.v 13 (.v 14 .nil))))))))))))))) moOrd (by kernel_rfl) ?_)))))))
  refine rvm e e (rvm e e (zdk (jb 46) je .nil h 12 e (fun q174 g174 h=>?_) (fun J175 h hJ175=>?_)))
  ·refine zC e (zaM e) (zaA (za7 0 hn173 e (zq (zE (zt (oM e (zO h fun q178 h=>oV (zan e e q178) ?_)))))))
   exact oA e (zF (hL3 _ () h _ (zf 24 e e (za (j:=0) e hI (za (j:=8) e hI (za (j:=9) e hI ze))) k2)))
  refine zaJ (j:=34) h e (fun g176 h=>?_) (fun g176 h=>?_)
  ·refine rpv 34 e e e g176 (rpv 34 e e e g176 (rpv 34 e e e g176 (rpv 34 e e e g176 (rpv 34 e e e g176 (rpv 34 e e e g176 (rpv 34 e e e g176 (rpv 34 e e e g176 (rpv 34 e e e g176 ?_))))))))
   exact rpv 34 e e e g176 (rpv 34 e e e g176 (zC e (zi e g176 e) (hJ175 _ () h _ (jk 12 46 e e e))))
  refine rvt 34 e e e g176 (zs e) (rvt 34 e e e g176 (zbJ e) (rvt 34 e e e g176 (zf0 e zez zgk) (rvt 34 e e e g176 (zf0 e GMod.f4 zgq) (rvt 34 e e e g176 (zdx (R:=isv (a_x.m.nodes)) ty71 e (List.Mem.head _) hI) (rvt 34 e e e g176 (zI e GFld.f1 zdA e (z:=y170.ty)) (rvt 34 e e e g176 (zd ty3 e) (zb h fun y177 hy177 h=>rvt 34 e e e g176 (zaz (l:=a_x.m.nodes) e hI e sl71 hy177) ?_)))))))
  exact rvt 34 e e e g176 (zI e GNode.f2 zfF e (z:=y177.mark)) (rvt 34 e e e g176 (zI e GMark.f0 zk8 e (z:=y177.mark.has)) (rvt 34 e e e g176 (zd ty4 e) (zC e (zj e g176 e) (hJ175 _ () h _ (jk 12 46 e e e)))))
 refine zam (z8 (eL3 _ _ (zL (zE (zp (wsr (oV (zI e GNode.f0 zb0 e (z:=a_n_.kind)) (oV (zd ty3 e) ?_))))))))
 refine oV (zaa e e) (oM e (zab (jb 55) je .nil h 5 e (fun q179 g179 h=>?_) (fun J180 h hJ180=>?_)))
 ·refine oM e (zab (jb 60) je .nil h 4 e (fun q182 g182 h=>?_) (fun J183 h hJ183=>?_))
  ·refine rnf (zdF (ι:=GMk) (γ:=Unit) (fun q185 g185=>[]) (fun q185 g185=>[boxE zJ ((q185.m,(Vh.mk zad q185.l.length),q185.e):(GMod × Vh × Int)),vecE zad (q185.l:List GTyp)]) k2 h (fun q185 g185 h=>?_) (fun J186 h hJ186=>?_))
   ·refine wsr (oA e (rnf (zp (wsr (oA e (rnf (zB (zgZ (zbh) ?_))))))))
    refine zbx (ι:=(List GFld) × Int × GMk) (γ:=Tok × Vt) (fun q188 g188=>[(11,appv g188.1 (q188.1)),(12,isv (q188.2.1))]) (fun q188 g188=>[tokE g188.1,boxE zJ ((q188.2.2.m,(Vh.mk g188.2 q188.2.2.l.length),q188.2.2.e):(GMod × Vh × Int)),vecE g188.2 (q188.2.2.l:List GTyp)]) h (none,zad) (za (j:=11) e zb4 (za (j:=12) e hI ze)) k3 (fun L189 q188 g188 Q335 h hL189 eL189 rL189=>zp (wsr (oM e (oV (zI e GNode.f5 zdv e (z:=a_n_.fields)) (oV (zd ty85 e) (oV (zaH (l:=a_n_.fields) e hI sl85) (oV (zay e e) (oM e ?_))))))))
    refine zab (jb 74) je .nil h 6 e (fun q262 g262 h=>?_) (fun J263 h hJ263=>?_)
    ·refine rnf (zg h e (fun _ h=>?_) (fun _ h=>?_))
     ·refine wkf (zp (zB (wsr (oV (zI e GNode.f5 zdv e (z:=a_n_.fields)) (oV (zd ty85 e) (oM e (zb h fun y265 hy265 h=>oV (zaz (l:=a_n_.fields) e hI e sl85 hy265) ?_)))))))
      refine oV (zd ty92 e) (oT (zag _ ze92 fun b266=>oT (zo (y':=(y265:GFld)) ty92 e e hI .here e (rnf (zp (wsr (oA e (rnf (zB ?_)))))))))
      refine zbx (ι:=Int × GMk) (γ:=Unit) (fun q267 g267=>[(13,ptrv b266 (Fld.id GFld)),(14,isv (q267.1))]) (fun q267 g267=>[boxE zJ ((q267.2.m,(Vh.mk g188.2 q267.2.l.length),q267.2.e):(GMod × Vh × Int)),vecE g188.2 (q267.2.l:List GTyp)]) h () (za (j:=13) e hI (za (j:=14) e hI ze)) (.cons tI (.cons tI .nil)) (fun L268 q267 g267 Q327 h hL268 eL268 rL268=>zp (wsr (oM e (oM e (oV (zay e e) (rnf (zg h e (fun _ h=>?_) (fun _ h=>?_))))))))
      ·refine wkf (zp (zdF (ι:=GMk) (γ:=Unit) (fun q298 g298=>[(13,ptrv b266 (Fld.id GFld))]) (fun q298 g298=>[boxE zJ ((q298.m,(Vh.mk g188.2 q298.l.length),q298.e):(GMod × Vh × Int)),vecE g188.2 (q298.l:List GTyp)]) k2 h (fun q298 g298 h=>?_) (fun J299 h hJ299=>?_)))
       ·exact zt (oM e (zO h fun q304 h=>oV (zan e e q304) (oA e (zF (hL268 _ () h _ (zf 9 e e (za (j:=13) e hI (za (j:=14) e hI ze)) k4))))))
       refine zB (zp (zdh 13 tI e (fun o300 hn301=>zae (.v 0 (.v 1 (.v 2 (.v 3 (.v 4 (.v 5 (.v 6 (.v 7 (.v 8 .nil))))))))) moOrd (by kernel_rfl) ?_)))
       refine zC e (zI e GNode.f5 zdv e (z:=a_n_.fields)) (zC e (zd ty85 e) (rvm e e (zb h fun y302 hy302 h=>zC e (zaz (l:=a_n_.fields) e hI e sl85 hy302) (zC e (zI e GFld.f0 zmv e (z:=y302.name)) (zC e (zd ty9 e) (zC e (zf0 e GFld.f0 zmv) (zC e (zdx (R:=isv (y265.name)) ty9 e (List.Mem.head _) hI) ?_)))))))
       refine zC e (zce eq9 e e) (zaA (za7 13 hn301 e (zE (zg h e (fun _ h=>?_) (fun _ h=>?_)))))
       ·exact zt (oM e (zb h fun y303 hy303 h=>oT (zA (zbv hy303) hT (s2 e e) (.cons tH (.cons tH .nil)) (zF (zq (hJ299 _ () h _ (zf 13 e e (za (j:=13) e hI ze) k4)))))))
       exact z6 (zq (hJ299 _ () h _ (zf 11 e e (za (j:=13) e hI ze) (.cons tH (.cons tH k2)))))
      refine zam (z8 (eL268 _ _ (zL (zE (wsr (oM e (oV (zY e GFld.f1 zdA) (oT (zH (R:=isv (y265.ty)) ty3 e tI hI ?_)))))))))
      refine oM e (zO h fun q305 h=>oV (zan e e q305) (zb h fun y306 hy306 h=>oT (zN (zb7 hy306) hT (s3 e e e) k2 (fun R H' hR=>?_))))
      obtain ⟨v307,rfl,rfl⟩:=hR
      refine oV (zY e GFld.f1 zdA) (oT (zo (y':=({ y265 with ty:=y306.1 }:GFld)) ty3 e e hI tI e (rnf (zp (wsr (oM e (oV (zw e) (oV (zY e zcz zdG) (oT (zH (R:=isv (y306.2.e)) ty65 e tH hI ?_))))))))))
      refine oV (zaa e e) (oM e (zab (jb 113) je .nil h 3 e (fun q308 g308 h=>?_) (fun J309 h hJ309=>?_)))
      ·refine rnf (zdF (ι:=GFld × GMk) (γ:=Unit) (fun q311 g311=>[]) (fun q311 g311=>[boxE b266 (q311.1:GFld),boxE zJ ((q311.2.m,(Vh.mk v307 q311.2.l.length),q311.2.e):(GMod × Vh × Int)),vecE v307 (q311.2.l:List GTyp)]) k3 h (fun q311 g311 h=>?_) (fun J312 h hJ312=>?_))
       ·refine zp (wsr (oM e (oV (zw e) (oV (zY e zcz zdG) (oT (zH (R:=isv (q311.2.e)) ty65 e tH hI (oV (zaa e e) (oM e (zab (jb 129) je .nil h 3 e (fun q314 g314 h=>?_) (fun J315 h hJ315=>?_))))))))))
        ·refine rnf (zdF (ι:=GMk) (γ:=Unit) (fun q317 g317=>[(13,ptrv b266 (Fld.id GFld))]) (fun q317 g317=>[boxE zJ ((q317.m,(Vh.mk v307 q317.l.length),q317.e):(GMod × Vh × Int)),vecE v307 (q317.l:List GTyp)]) (.cons tH (.cons tH .nil)) h (fun q317 g317 h=>?_) (fun J318 h hJ318=>?_))
         ·refine zt (oM e (oT (zH (R:=isv (q311.1)) ty92 e tI hI (oT (zZ (l:=([q311.1]:(List GFld))) el85 (.cons e hI .nil) e e (zaf h fun q325 h=>oT (zbU (l:=q188.1) (m:=([q311.1]:(List GFld))) zk3 e hI e zQ (.there tI) q325 fun t324=>oA e (zF (zq ?_)))))))))
          exact zE (zt (oM e (zO h fun q326 h=>oV (zan e e q326) (oA e (zF (hL189 _ (t324,v307) h _ (zf 51 e e (za (j:=11) e hI (za (j:=12) e hI ze)) k3)))))))
         refine zg h e (fun _ h=>?_) (fun _ h=>?_)
         ·refine zdh 13 .here e (fun o319 hn320=>zae (.v 0 (.v 1 (.v 2 (.v 3 (.v 4 (.v 5 (.v 6 (.t 7 (.t 8 .nil))))))))) moOrd (by kernel_rfl) ?_)
          refine rvm e e (zC e (zf0 e GFld.f1 zdA) (zC e (zdx (R:=isv (q311.1.ty)) ty3 e (List.Mem.head _) hI) (rvm e e (rvm e e (zC e (zf0 e GFld.f1 zdA) (zC e (zdx (R:=isv (q311.1.ty)) ty3 e (List.Mem.head _) hI) (zb h fun y321 hy321 h=>zaK e e (zA (zf6 hy321) hT (s2 e e) k2 ?_))))))))
          exact zb h fun y322 hy322 h=>zaK e e (zA (zfY hy322) hT (s4 e e e e) k2 (zaA (za7 13 hn320 e (hJ318 _ () h _ (zf 11 e e (za (j:=13) e hI ze) (.cons tH (.cons tH k2)))))))
         exact z6 (hJ318 _ () h _ (zf 0 e e (za (j:=13) e hI ze) (.cons tH (.cons tH k2))))
        refine zn (j:=126) h e (fun g316 h=>?_) (fun g316 h=>?_)
        ·exact oK 126 e e e g316 (zs e) (oK 126 e e e g316 (za2 e) (oV (zi e g316 e) (hJ315 _ () h _ (zf 3 e e (za (j:=129) e hI ze) k4))))
        exact oP 126 e e g316 (oP 126 e e g316 (oV (zj e g316 e) (hJ315 _ () h _ (zf 3 e e (za (j:=129) e hI ze) k4))))
       refine zg h e (fun _ h=>?_) (fun _ h=>?_)
       ·refine zt (oM e (oV (zY e GFld.f1 zdA) (oT (zH (R:=isv (y306.1)) ty3 e .here hI (oV (zY e GFld.f4 zk4) (oT (zH (R:=isv (y265.dflt)) ty46 e .here hI (zb h fun y313 hy313 h=>oT (zA (zg8 hy313) hT (s3 e e e) (.cons tH (.cons tH .nil)) (oV (zY e GFld.f4 zk4) ?_))))))))))
        exact oT (zo (y':=({ { y265 with ty:=y306.1 } with dflt:=y313.1 }:GFld)) ty46 e e hI tI e (zF (hJ312 _ () h _ (zf 7 e e ze k4))))
       exact z6 (hJ312 _ () h _ (zf 0 e e ze k4))
      refine zn (j:=110) h e (fun g310 h=>?_) (fun g310 h=>?_)
      ·exact oK 110 e e e g310 (zY e GFld.f3 ziM) (zai e e (dj:=110) e g310 (zH (R:=isv (y265.has)) ty4 e .here hI (oV (zi e g310 e) (hJ309 _ () h _ (zf 3 e e (za (j:=113) e hI ze) k4)))))
      exact oP 110 e e g310 (oP 110 e e g310 (oV (zj e g310 e) (hJ309 _ () h _ (zf 3 e e (za (j:=113) e hI ze) k4))))
     refine zam (z8 (eL189 _ _ (zL (zE (wsr (oM e (oV (zw e) (oV (zY e zcz zdG) ?_))))))))
     refine oT (zH (R:=isv (q188.2.2.e)) ty65 e tH hI (oV (zaa e e) (rnf (zg h e (fun _ h=>?_) (fun _ h=>?_)))))
     ·refine wsr (oM e (oV (zw e) (oV (zY e zbY zcI) (oT (zH (R:=vecv g188.2 (q188.2.2.l.length)) ty24 e tH isvV1 (oM e (oM e (zak h fun q328 h=>oV (zcu (α:=GTyp) sl24 e e q328.1 q328.2) ?_))))))))
      refine oV (zhG e GTyp.f4 zbR) (zb h fun y329 hy329 h=>zaj (zbW 153 e (zQ)) (oT (zeO ty85 e e tI hy329 (zaj (zhA (y:=((q188.2.2.m,(Vh.mk g188.2 (q188.2.2.l.set a_i.toNat ({ y329 with fields:=q188.1 })).length),q188.2.2.e):(GMod × Vh × Int))) tI (fun S=>(Cv.pair Cv.id (Cv.pair (Cv.vhe (by first | rfl | simp)) Cv.id)))) ?_))))
      refine rnf (wsr (oM e (oM e (oV (zw e) (oV (zY e zbY zcI) (oT (zH (R:=vecv g188.2 ((q188.2.2.l.set a_i.toNat ({ y329 with fields:=q188.1 })).length)) ty24 e .here isvV1 (oM e (zak h fun q330 h=>?_)))))))))
      refine oV (zcu (α:=GTyp) sl24 e e q330.1 q330.2) (zb h fun y331 hy331 h=>oT (zcV ty87 e tH hy331 ?_))
      refine zb h fun y332 hy332 h=>oT (zA (ziG hy332) hT (s2 e e) k2 (oV (za2 e) (rnf (zg h e (fun _ h=>?_) (fun _ h=>?_)))))
      ·refine zt (oM e (zb h fun y333 hy333 h=>oT (zA (zbv hy333) hT (s2 e e) k2 (zF (zaP .nil k2 ?_)))))
       cases h
       exact ⟨g188.2,e,e⟩
      refine z6 (zaP .nil k2 ?_)
      cases h
      exact ⟨g188.2,e,e⟩
     refine z6 (zaP .nil (.cons tH (.cons tH .nil)) ?_)
     cases h
     exact ⟨g188.2,e,e⟩
    refine zn (j:=68) h e (fun g264 h=>?_) (fun g264 h=>?_)
    ·exact oK 68 e e e g264 (zs e) (oK 68 e e e g264 (zw e) (oK 68 e e e g264 (zY e zcz zdG) (zai e e (dj:=68) e g264 (zH (R:=isv (q188.2.2.e)) ty65 e tH hI (oK 68 e e e g264 (zaa e e) (oV (zi e g264 e) (hJ263 _ () h _ (zf 6 e e (za (j:=74) e hI ze) k3))))))))
    exact oP 68 e e g264 (oP 68 e e g264 (oP 68 e e g264 (oP 68 e e g264 (oP 68 e e g264 (oV (zj e g264 e) (hJ263 _ () h _ (zf 6 e e (za (j:=74) e hI ze) k3)))))))
   refine zg h e (fun _ h=>?_) (fun _ h=>?_)
   ·exact zt (oM e (zb h fun y187 hy187 h=>oT (zA (zbv hy187) hT (s2 e e) k2 (zF (hJ186 _ () h _ (zf 2 e e ze k2))))))
   exact z6 (hJ186 _ () h _ (zf 0 e e ze k2))
  refine zn (j:=56) h e (fun g184 h=>?_) (fun g184 h=>?_)
  ·exact oK 56 e e e g184 (zI e GNode.f7 ze9 e (z:=a_n_.more)) (oK 56 e e e g184 (zd ty4 e) (oK 56 e e e g184 (za2 e) (oV (zi e g184 e) (hJ183 _ () h _ (zf 4 e e (za (j:=60) e hI ze) k2)))))
  exact oP 56 e e g184 (oP 56 e e g184 (oP 56 e e g184 (oV (zj e g184 e) (hJ183 _ () h _ (zf 4 e e (za (j:=60) e hI ze) k2)))))
 refine zn (j:=50) h e (fun g181 h=>?_) (fun g181 h=>?_)
 ·exact oK 50 e e e g181 (zI e GNode.f5 zdv e (z:=a_n_.fields)) (oK 50 e e e g181 (zd ty85 e) (oK 50 e e e g181 (zaH (l:=a_n_.fields) e hI sl85) (oK 50 e e e g181 (zaa e e) (oV (zi e g181 e) (hJ180 _ () h _ (zf 5 e e (za (j:=55) e hI ze) k2))))))
 exact oP 50 e e g181 (oP 50 e e g181 (oP 50 e e g181 (oP 50 e e g181 (oV (zj e g181 e) (hJ180 _ () h _ (zf 5 e e (za (j:=55) e hI ze) k2))))))

theorem zio {zaR:GMk→Int→GNode→Int→Option (GMk)} {zaS:GMk→Int→Int→Option (Int × GMk)} {za5:GMk→GNode→Int→Option (Int × GMk)} (zdK:zcW zaR) (zb7:zcM zaS) (zeC:zdp za5):∀ {a_x:GMk} {a_k:Int} {zG:Int} {zJ:Nat} {zad:Vt} {r:Int × GMk},zcO zaR zaS za5 a_x a_k zG=some r→Ctr Tryz.prog 77 [ptrv zJ (Fld.id (GMod × Vh × Int)),isv (a_k),isv (zG)] [boxE zJ ((a_x.m,(Vh.mk zad a_x.l.length),a_x.e):(GMod × Vh × Int)),vecE zad (a_x.l:List GTyp)] (fun R H=>∃ u1:Vt,R=oneOf [isv (r.1)]∧H=[boxE zJ ((r.2.m,(Vh.mk u1 r.2.l.length),r.2.e)),vecE u1 (r.2.l)]):=by
 intro a_x a_k zG zJ zad r h
 unfold zcO at h
 refine zr Tryz.func77 e fun w0 S0 hT=>wsr (oA e (rnf (zp (wsr (oM e (oV (zw e) (oV (zY e zcz zdG) ?_)))))))
 refine oT (zH (R:=isv (a_x.e)) ty65 e .here hI (oV (zbo e e) (rnf (zg h e (fun _ h=>?_) (fun _ h=>?_)))))
 ·refine wsr (oA e (rnf (zD (zx (zh (.tmp e .nil) k2 ?_)))))
  cases h
  exact ⟨zad,e,e⟩
 refine wkf (wsr (oM e (oV (zw e) (oV (zY e zez zgk) (oV (zY e GMod.f4 zgq) (oT (zH (R:=isv (a_x.m.nodes)) ty71 e .here hI (oM e (zb h fun y2 hy2 h=>?_)))))))))
 refine oV (zaz (l:=a_x.m.nodes) e hI e sl71 hy2) (oV (zd ty167 e) (oT (zag _ ze167 fun b3=>oT (zo (y':=(y2:GNode)) ty167 e e hI .here e (zaj (zaQ 7 .here e) (rnf (wsr (oA e (rnf ?_)))))))))
 refine zp (wsr (oV (zI e GNode.f0 zb0 e (z:=y2.kind)) (oV (zd ty3 e) (oV (zaa e e) (rnf (zdF (ι:=Int × GMk) (γ:=Vt) (fun q4 g4=>[(8,isv (q4.1))]) (fun q4 g4=>[boxE zJ ((q4.2.m,(Vh.mk g4 q4.2.l.length),q4.2.e):(GMod × Vh × Int)),vecE g4 (q4.2.l:List GTyp)]) k2 h (fun q4 g4 h=>?_) (fun J5 h hJ5=>?_)))))))
 ·refine zp (wsr (oM e (oV (zw e) (oV (zY e zcz zdG) (oT (zH (R:=isv (q4.2.e)) ty65 e .here hI (oV (zaa e e) (oM e (zab (jb 56) je .nil h 4 e (fun q14 g14 h=>?_) (fun J15 h hJ15=>?_))))))))))
  ·refine rnf (zdF (ι:=GMk) (γ:=Unit) (fun q17 g17=>[]) (fun q17 g17=>[boxE zJ ((q17.m,(Vh.mk g4 q17.l.length),q17.e):(GMod × Vh × Int)),vecE g4 (q17.l:List GTyp)]) k2 h (fun q17 g17 h=>?_) (fun J18 h hJ18=>?_))
   ·refine wsr (oM e (oA e (rnf (zD (zh (.tmp e .nil) k2 ?_)))))
    cases h
    exact ⟨g4,e,e⟩
   refine zg h e (fun _ h=>?_) (fun _ h=>?_)
   ·refine wsr (oA e (rnf (zp (zdF (ι:=Int × GMk) (γ:=Unit) (fun q19 g19=>[(9,isv (q19.1))]) (fun q19 g19=>[boxE zJ ((q19.2.m,(Vh.mk g4 q19.2.l.length),q19.2.e):(GMod × Vh × Int)),vecE g4 (q19.2.l:List GTyp)]) k2 h (fun q19 g19 h=>?_) (fun J20 h hJ20=>?_)))))
    ·refine zt (oM e (oM e (oV (zI e GNode.f2 zfF e (z:=y2.mark)) (oV (zI e GMark.f1 zmV e (z:=y2.mark.number)) (oV (zd ty3 e) (oM e (zb h fun y25 hy25 h=>oT (zA (zfY hy25) hT (s4 e e e e) k2 ?_))))))))
     exact zF (hJ18 _ () h _ (zf 9 e e ze k2))
    refine zB (wsr (oV (zI e GNode.f2 zfF e (z:=y2.mark)) (oV (zI e GMark.f2 zjo e (z:=y2.mark.mode)) (oV (zd ty3 e) (oV (zaa e e) (oA e (rnf (zg h e (fun _ h=>?_) (fun _ h=>?_)))))))))
    ·exact zt (oA e (zF (zq (hJ20 _ () h _ (zf 6 e e (za (j:=9) e hI ze) k2)))))
    refine wsr (oV (zI e GNode.f2 zfF e (z:=y2.mark)) (oV (zI e GMark.f2 zjo e (z:=y2.mark.mode)) (oV (zd ty3 e) (oV (zaa e e) (oM e (zab (jb 74) je .nil h 7 e (fun q21 g21 h=>?_) (fun J22 h hJ22=>?_)))))))
    ·refine oA e (rnf (zg h e (fun _ h=>?_) (fun _ h=>?_)))
     ·exact zt (oM e (oM e (zb h fun y24 hy24 h=>oT (zA (zf6 hy24) hT (s2 e e) k2 (oA e (zF (zq (hJ20 _ () h _ (zf 16 e e (za (j:=9) e hI ze) k2)))))))))
     exact z6 (zq (hJ20 _ () h _ (zf 12 e e (za (j:=9) e hI ze) k2)))
    refine zn (j:=67) h e (fun g23 h=>?_) (fun g23 h=>?_)
    ·exact oK 67 e e e g23 (zs e) (oK 67 e e e g23 (zw e) (oK 67 e e e g23 (zY e zez zgk) (oK 67 e e e g23 (zY e GMod.f1 zkJ) (zai e e (dj:=67) e g23 (zH (R:=isv (q4.2.m.tagging)) ty3 e .here hI (oK 67 e e e g23 (zbo e e) (oV (zi e g23 e) (hJ22 _ () h _ (zf 7 e e (za (j:=74) e hI ze) k2)))))))))
    exact oP 67 e e g23 (oP 67 e e g23 (oP 67 e e g23 (oP 67 e e g23 (oP 67 e e g23 (oP 67 e e g23 (oV (zj e g23 e) (hJ22 _ () h _ (zf 7 e e (za (j:=74) e hI ze) k2))))))))
   exact z6 (hJ18 _ () h _ (zf 0 e e ze k2))
  refine zn (j:=52) h e (fun g16 h=>?_) (fun g16 h=>?_)
  ·exact oK 52 e e e g16 (zI e GNode.f2 zfF e (z:=y2.mark)) (oK 52 e e e g16 (zI e GMark.f0 zk8 e (z:=y2.mark.has)) (oK 52 e e e g16 (zd ty4 e) (oV (zi e g16 e) (hJ15 _ () h _ (zf 4 e e (za (j:=56) e hI ze) k2)))))
  exact oP 52 e e g16 (oP 52 e e g16 (oP 52 e e g16 (oV (zj e g16 e) (hJ15 _ () h _ (zf 4 e e (za (j:=56) e hI ze) k2)))))
 refine zg h e (fun _ h=>?_) (fun _ h=>?_)
 ·refine zae (.v 0 (.v 1 (.v 2 (.v 3 (.v 4 (.v 6 (.v 7 (.v 8 (.v 10 (.v 11 (.v 15 (.alt 5 (.t 9 (.t 12 (.v 13 (.v 14 (.t 16 (.v 17 .nil)))))) (.t 9 (.alt 5 (.t 12 (.v 13 (.v 14 (.t 16 (.v 17 .nil))))) (.t 12 (.t 5 (.v 13 (.v 14 (.t 16 (.v 17 .nil)))))))))))))))))))) moOrd (by kernel_rfl) ?_
  refine rvm e e (rvm e e (zC e (zw e) (zC e (zY e zez zgk) (zC e (zY e GMod.f3 zka) (rvm e e (zC e (zw e) (zC e (zY e zez zgk) (zC e (zI e GNode.f1 zk6 e (z:=y2.name)) ?_))))))))
  refine zC e (zd ty9 e) (rvm e e (zb h fun y6 hy6 h=>zb h fun y7 hy7 h=>zb h fun y8 hy8 h=>zfv ?_ ?_))
  ·refine zaK e e (zH (R:=isv (a_x.m.types)) ty23 e .here hI (zaK e e (zH (R:=isv (a_x.m)) ty73 e .here hI (zaK e e (zA (zgh hy6) hT (s2 e e) .nil (zC e (zaz (l:=a_x.m.types) e hI e sl23 hy7) (zC e (zd ty3 e) (zaK e e (zN (zb7 hy8) hT (s3 e e e) k2 (fun R H' hR=>?_))))))))))
   obtain ⟨v9,rfl,rfl⟩:=hR
   exact zC e (zaM e) (zaA (hJ5 _ (v9) h _ (zf 18 e e (za (j:=8) e hI ze) k2)))
  refine zaK e e (zH (R:=isv (a_x.m)) ty73 e .here hI (zfv ?_ ?_))
  ·refine zaK e e (zH (R:=isv (a_x.m.types)) ty23 e .here hI (zaK e e (zA (zgh hy6) hT (s2 e e) .nil (zC e (zaz (l:=a_x.m.types) e hI e sl23 hy7) (zC e (zd ty3 e) (zaK e e (zN (zb7 hy8) hT (s3 e e e) k2 (fun R H' hR=>?_))))))))
   obtain ⟨v10,rfl,rfl⟩:=hR
   exact zC e (zaM e) (zaA (hJ5 _ (v10) h _ (zf 18 e e (za (j:=8) e hI ze) k2)))
  refine zaK e e (zA (zgh hy6) hT (s2 e e) .nil (zaK e e (zH (R:=isv (a_x.m.types)) ty23 e .here hI (zC e (zaz (l:=a_x.m.types) e hI e sl23 hy7) (zC e (zd ty3 e) (zaK e e (zN (zb7 hy8) hT (s3 e e e) k2 (fun R H' hR=>?_))))))))
  obtain ⟨v11,rfl,rfl⟩:=hR
  exact zC e (zaM e) (zaA (hJ5 _ (v11) h _ (zf 18 e e (za (j:=8) e hI ze) k2)))
 refine zt (oM e (oV (zd ty167 e) (oM e (zb h fun y12 hy12 h=>oT (zN (zeC hy12) hT (s3 e e e) k2 (fun R H' hR=>?_))))))
 obtain ⟨v13,rfl,rfl⟩:=hR
 exact oA e (zF (hJ5 _ (v13) h _ (zf 5 e e (za (j:=8) e hI ze) k2)))

theorem ziI {zaR:GMk→Int→GNode→Int→Option (GMk)} {zaS:GMk→Int→Int→Option (Int × GMk)} {za5:GMk→GNode→Int→Option (Int × GMk)} (zdK:zcW zaR) (zb7:zcM zaS) (zeC:zdp za5):∀ {a_x:GMk} {a_n_:GNode} {zG:Int} {zJ:Nat} {zad:Vt} {r:Int × GMk},zcl zaR zaS za5 a_x a_n_ zG=some r→Ctr Tryz.prog 113 [ptrv zJ (Fld.id (GMod × Vh × Int)),isv (a_n_),isv (zG)] [boxE zJ ((a_x.m,(Vh.mk zad a_x.l.length),a_x.e):(GMod × Vh × Int)),vecE zad (a_x.l:List GTyp)] (fun R H=>∃ u1:Vt,R=oneOf [isv (r.1)]∧H=[boxE zJ ((r.2.m,(Vh.mk u1 r.2.l.length),r.2.e)),vecE u1 (r.2.l)]):=by
 intro a_x a_n_ zG zJ zad r h
 unfold zcl at h
 refine zr Tryz.func113 e fun w0 S0 hT=>wsr (oT (zaw (y:=a_n_) e hI (oA e (rnf (zp (wsr (oM e (oV (zb1 e e) ?_))))))))
 refine oM e (zab (jb 20) je .nil h 7 e (fun q2 g2 h=>?_) (fun J3 h hJ3=>?_))
 ·refine rnf (zg h e (fun _ h=>?_) (fun _ h=>?_))
  ·refine wsr (oM e (zb h fun y5 hy5 h=>oT (zA (zbv hy5) hT (s2 e e) k2 (rnf (wsr (oA e (rnf (zD ?_))))))))
   refine zx (zh (.tmp e .nil) k2 ?_)
   cases h
   exact ⟨zad,e,e⟩
  refine wkf (wsr (oM e (oV (zw e) (oV (zY e zbY zcI) (oT (zH (R:=vecv zad (a_x.l.length)) ty24 e .here isvV1 (oV (zh9 sl24 e) (oA e (rnf ?_)))))))))
  refine wsr (oV (zI e GNode.f0 zb0 e (z:=a_n_.kind)) (oV (zd ty3 e) (oV (zI e GNode.f3 zhq e (z:=a_n_.con)) (oV (zd ty83 e) (oV (zI e GNode.f6 zfD e (z:=a_n_.root)) (oV (zd ty3 e) (oV (zI e GNode.f7 ze9 e (z:=a_n_.more)) (oV (zd ty4 e) ?_))))))))
  refine oV (zar (z:=(GTyp.mk a_n_.kind ([]:(List Tag)) a_n_.con ([]:(List GItem)) ([]:(List GFld)) a_n_.root a_n_.more (0:Int))) e bu87 ze87 (.cons GTyp.f0 zdf e hI (.cons GTyp.f2 zgv e hI (.cons GTyp.f5 zg9 e hI (.cons GTyp.f6 ziQ e hI .nil))))) (oT (zag _ ze87 fun b6=>oT (zo (y':=((GTyp.mk a_n_.kind ([]:(List Tag)) a_n_.con ([]:(List GItem)) ([]:(List GFld)) a_n_.root a_n_.more (0:Int)):GTyp)) ty87 e e hI .here e (rnf (zp (wsr (oV (zI e GNode.f0 zb0 e (z:=a_n_.kind)) (oV (zd ty3 e) (oV (zbo e e) ?_)))))))))
  refine rnf (zdF (ι:=GTyp) (γ:=Unit) (fun q7 g7=>[]) (fun q7 g7=>[boxE b6 (q7:GTyp)]) k1 h (fun q7 g7 h=>?_) (fun J8 h hJ8=>?_))
  ·refine zp (zdF (ι:=GMk) (γ:=Vt) (fun q11 g11=>[(8,anyv)]) (fun q11 g11=>[boxE zJ ((q11.m,(Vh.mk g11 q11.l.length),q11.e):(GMod × Vh × Int)),vecE g11 (q11.l:List GTyp)]) (.cons tH (.cons tH .nil)) h (fun q11 g11 h=>?_) (fun J12 h hJ12=>?_))
   ·refine zp (wsr (oV (zI e GNode.f0 zb0 e (z:=a_n_.kind)) (oV (zd ty3 e) (rnf (zdF (ι:=GMk) (γ:=Vt) (fun q20 g20=>[]) (fun q20 g20=>[boxE zJ ((q20.m,(Vh.mk g20 q20.l.length),q20.e):(GMod × Vh × Int)),vecE g20 (q20.l:List GTyp)]) k2 h (fun q20 g20 h=>?_) (fun J21 h hJ21=>?_))))))
    ·refine wsr (oM e (oA e (rnf (zD (zh (.tmp e .nil) k2 ?_)))))
     cases h
     exact ⟨g20,e,e⟩
    refine zB (zp (wsr (oV (zaa e e) (oA e (rnf (zdF (jb 57) je .nil h (fun q22 g22 h=>?_) (fun J23 h hJ23=>?_)))))))
    ·refine zg h e (fun _ h=>?_) (fun _ h=>?_)
     ·refine wsr (oV (zI e GNode.f3 zhq e (z:=a_n_.con)) (oV (zd ty83 e) (oV (zI e GNode.f0 zb0 e (z:=a_n_.kind)) (oV (zd ty3 e) (oV (zbo e e) (zb h fun y24 hy24 h=>oT (zA (zlF hy24) hT (s2 e e) .nil (oA e ?_))))))))
      refine rnf (zp (wsr (oM e (oV (zbo e e) (rnf (zdF (ι:=GMk) (γ:=Unit) (fun q25 g25=>[]) (fun q25 g25=>[boxE zJ ((q25.m,(Vh.mk g11 q25.l.length),q25.e):(GMod × Vh × Int)),vecE g11 (q25.l:List GTyp)]) k2 h (fun q25 g25 h=>?_) (fun J26 h hJ26=>?_)))))))
      ·refine wsr (oV (zI e GNode.f0 zb0 e (z:=a_n_.kind)) (oV (zd ty3 e) (oV (zaa e e) (rnf (zg h e (fun _ h=>?_) (fun _ h=>?_))))))
       ·refine wsr (oM e (oV (zI e GNode.f8 zkV e (z:=a_n_.of)) (oV (zd ty3 e) (oM e (zO h fun q28 h=>oV (zan e e q28) (zb h fun y29 hy29 h=>oT (zN (zb7 hy29) hT (s3 e e e) k2 (fun R H' hR=>?_))))))))
        obtain ⟨v30,rfl,rfl⟩:=hR
        refine oA e (rnf (wsr (oM e (oV (zw e) (oV (zY e zcz zdG) (oT (zH (R:=isv (y29.2.e)) ty65 e .here hI (oV (zaa e e) (rnf ?_)))))))))
        refine zg h e (fun _ h=>?_) (fun _ h=>?_)
        ·refine zt (oM e (oV (zw e) (oV (zY e zbY zcI) (oT (zH (R:=vecv v30 (y29.2.l.length)) ty24 e .here isvV1 (oM e (oM e (zak h fun q31 h=>oV (zcu (α:=GTyp) sl24 e e q31.1 q31.2) ?_))))))))
         refine oV (zhG e GTyp.f7 zor) (zb h fun y32 hy32 h=>oT (zeO ty3 e e tH hy32 (zaj (zhA (y:=((y29.2.m,(Vh.mk v30 (y29.2.l.set (((a_x.l.length:Nat):Int).toNat) ({ y32 with of:=y29.1 })).length),y29.2.e):(GMod × Vh × Int))) tH (fun S=>(Cv.pair Cv.id (Cv.pair (Cv.vhe (by first | rfl | simp)) Cv.id)))) ?_)))
         exact zF (zq (hJ21 _ (v30) h _ (zf 35 e e ze k3)))
        exact z6 (zq (hJ21 _ (v30) h _ (zf 27 e e ze k3)))
       exact z6 (zq (hJ21 _ (g11) h _ (zf 15 e e ze k3)))
      refine zg h e (fun _ h=>?_) (fun _ h=>?_)
      ·exact zt (oM e (oM e (zb h fun y27 hy27 h=>oT (zA (zbv hy27) hT (s2 e e) k2 (zF (hJ26 _ () h _ (zf 3 e e ze k3)))))))
      exact z6 (hJ26 _ () h _ (zf 0 e e ze k3))
     refine wsr (oV (zaa e e) (oA e (rnf (zg h e (fun _ h=>?_) (fun _ h=>?_)))))
     ·refine zae (.v 0 (.v 1 (.v 2 (.v 4 (.v 5 (.v 6 (.alt 3 (.t 7 (.v 8 (.v 9 (.t 10 .nil)))) (.t 7 (.t 3 (.v 8 (.v 9 (.t 10 .nil)))))))))))) moOrd (by kernel_rfl) ?_
      refine rvm e e (zC e (zw e) (zC e (zY e zbY zcI) (rvm e e (rvm e e (zC e (zd ty167 e) (zb h fun y33 hy33 h=>zak h fun q34 h=>zak h fun q35 h=>?_))))))
      refine zb h fun y36 hy36 h=>zfv ?_ ?_
      ·refine zaK e e (zH (R:=vecv g11 (q11.l.length)) ty24 e .here isvV1 (zaK e e (zA (zfI hy33) hT (s2 e e) k2 (zC e (zcu (α:=GTyp) sl24 e e q35.1 q35.2) (zC e (zhG e GTyp.f3 ziR) (zaK e e (zeO ty84 e e tH hy36 (zfi (zhA (y:=((y33.2.m,(Vh.mk g11 (y33.2.l.set (((a_x.l.length:Nat):Int).toNat) ({ y36 with items:=y33.1 })).length),y33.2.e):(GMod × Vh × Int))) tH (fun S=>(Cv.pair Cv.id (Cv.pair (Cv.vhe (by first | rfl | simp)) Cv.id)))) ?_))))))))
       exact zaA (zq (hJ21 _ (g11) h _ (zf 15 e e ze k3)))
      refine zaK e e (zA (zfI hy33) hT (s2 e e) k2 (zaK e e (zH (R:=vecv g11 (y33.2.l.length)) ty24 e .here isvV1 (zC e (zcu (α:=GTyp) sl24 e e (by omega) (by omega)) ?_))))
      refine zC e (zhG e GTyp.f3 ziR) (zaK e e (zeO ty84 e e tH hy36 (zfi (zhA (y:=((y33.2.m,(Vh.mk g11 (y33.2.l.set (((a_x.l.length:Nat):Int).toNat) ({ y36 with items:=y33.1 })).length),y33.2.e):(GMod × Vh × Int))) tH (fun S=>(Cv.pair Cv.id (Cv.pair (Cv.vhe (by first | rfl | simp)) Cv.id)))) ?_)))
      exact zaA (zq (hJ21 _ (g11) h _ (zf 15 e e ze k3)))
     refine zp (wsr (oV (zaa e e) (oA e (rnf (zdF (jb 107) je .nil h (fun q37 g37 h=>?_) (fun J38 h hJ38=>?_))))))
     ·refine zg h e (fun _ h=>?_) (fun _ h=>?_)
      ·refine zt (oM e (oM e (oV (zd ty167 e) (oM e (zb h fun y39 hy39 h=>oT (zN (zdK hy39) hT (s4 e e e e) k2 (fun R H' hR=>?_)))))))
       obtain ⟨v40,rfl,rfl⟩:=hR
       exact zF (zq (hJ21 _ (v40) h _ (zf 13 e e ze k3)))
      exact z6 (zq (hJ21 _ (g11) h _ (zf 8 e e ze k3)))
     refine zg h e (fun _ h=>?_) (fun _ h=>?_)
     ·exact z6 (hJ38 _ () h _ (zf 0 e e (za (j:=107) e hI ze) k3))
     refine wsr (oV (zaa e e) (oA e (rnf (zg h e (fun _ h=>?_) (fun _ h=>?_)))))
     ·exact z6 (hJ38 _ () h _ (zf 2 e e (za (j:=107) e hI ze) k3))
     exact zt (oV (zaa e e) (oA e (zF (hJ38 _ () h _ (zf 4 e e (za (j:=107) e hI ze) k3)))))
    refine zg h e (fun _ h=>?_) (fun _ h=>?_)
    ·exact z6 (hJ23 _ () h _ (zf 0 e e (za (j:=57) e hI ze) k3))
    refine wsr (oV (zaa e e) (oA e (rnf (zg h e (fun _ h=>?_) (fun _ h=>?_)))))
    ·exact z6 (hJ23 _ () h _ (zf 2 e e (za (j:=57) e hI ze) k3))
    refine wsr (oV (zaa e e) (oA e (rnf (zg h e (fun _ h=>?_) (fun _ h=>?_)))))
    ·exact z6 (hJ23 _ () h _ (zf 4 e e (za (j:=57) e hI ze) k3))
    exact zt (oV (zaa e e) (oA e (zF (hJ23 _ () h _ (zf 6 e e (za (j:=57) e hI ze) k3)))))
   refine zdh 8 .here e (fun o13 hn14=>zae (.v 0 (.v 1 (.v 2 (.v 3 (.v 5 (.alt 4 (.t 6 (.t 7 (.v 8 (.v 9 (.t 10 .nil))))) (.t 6 (.t 4 (.t 7 (.v 8 (.v 9 (.t 10 .nil)))))))))))) moOrd (by kernel_rfl) ?_)
   refine rvm e e (rvm e e (zC e (zw e) (zC e (zY e zbY zcI) (zC e (zdx (R:=isv (q7)) ty87 e (List.Mem.head _) hI) (zaf h fun q17 h=>zfv ?_ ?_)))))
   ·refine zaK e e (zH (R:=vecv zad (a_x.l.length)) ty24 e .here isvV1 (zaK e e (zZ (l:=([q7]:(List GTyp))) el24 (.cons e hI .nil) e e (zaK e e (zim (m:=([q7]:(List GTyp))) zmQ e e zQ tH (by first | rfl | simp) q17 fun v16=>?_)))))
    exact zC e (zw e) (zC e (zY e zbY zcI) (zaK e e (zo (y':=((a_x.m,(Vh.mk v16 (a_x.l ++ ([q7]:(List GTyp))).length),a_x.e):(GMod × Vh × Int))) ty24 e e isvV2 tH e (zaA (za7 8 hn14 e (hJ12 _ (v16) h _ (zf 12 e e (za (j:=8) e (fun _ _ _=>trivial) ze) (.cons tH (.cons tH k1)))))))))
   refine zaK e e (zZ (l:=([q7]:(List GTyp))) el24 (.cons e hI .nil) e e (zaK e e (zH (R:=vecv zad (a_x.l.length)) ty24 e .here isvV1 (zaK e e (zim (m:=([q7]:(List GTyp))) zmQ e e zQ tH (by first | rfl | simp) q17 fun v19=>?_)))))
   exact zC e (zw e) (zC e (zY e zbY zcI) (zaK e e (zo (y':=((a_x.m,(Vh.mk v19 (a_x.l ++ ([q7]:(List GTyp))).length),a_x.e):(GMod × Vh × Int))) ty24 e e isvV2 tH e (zaA (za7 8 hn14 e (hJ12 _ (v19) h _ (zf 12 e e (za (j:=8) e (fun _ _ _=>trivial) ze) (.cons tH (.cons tH k1)))))))))
  refine zg h e (fun _ h=>?_) (fun _ h=>?_)
  ·refine zt (oV (zI e GNode.f0 zb0 e (z:=a_n_.kind)) (oV (zd ty3 e) (zb h fun y9 hy9 h=>oT (zA (zjj hy9) hT (s1 e) .nil (oT (zZ (l:=([y9]:(List Tag))) el78 (.cons e hI .nil) e e (oV (zY e GTyp.f1 zfM) (oT (zo (y':=((GTyp.mk a_n_.kind ([y9]:(List Tag)) a_n_.con ([]:(List GItem)) ([]:(List GFld)) a_n_.root a_n_.more (0:Int)):GTyp)) ty78 e e zQ .here e (zF ?_))))))))))
   exact hJ8 _ () h _ (zf 5 e e ze k3)
  exact z6 (hJ8 _ () h _ (zf 0 e e ze k3))
 refine zn (j:=13) h e (fun g4 h=>?_) (fun g4 h=>?_)
 ·exact oP 13 e e g4 (oP 13 e e g4 (oP 13 e e g4 (oP 13 e e g4 (oP 13 e e g4 (oP 13 e e g4 (oV (zi e g4 e) (hJ3 _ () h _ (zf 7 e e (za (j:=20) e hI ze) k2))))))))
 exact oK 13 e e e g4 (zs e) (oK 13 e e e g4 (zw e) (oK 13 e e e g4 (zY e zbY zcI) (zai e e (dj:=13) e g4 (zH (R:=vecv zad (a_x.l.length)) ty24 e .here isvV1 (oK 13 e e e g4 (zh9 sl24 e) (oK 13 e e e g4 (zcR e e) (oV (zj e g4 e) (hJ3 _ () h _ (zf 7 e e (za (j:=20) e hI ze) k2)))))))))

theorem zd8:∀ n,zcW (zex n)∧zcM (zcr n)∧zdp (zdm n)
 | 0=>⟨fun h=>(by cases h),fun h=>(by cases h),fun h=>(by cases h)⟩
 | n + 1=>by
  obtain ⟨h0,h1,h2⟩:=zd8 n
  exact ⟨zhD h0 h1 h2,zio h0 h1 h2,ziI h0 h1 h2⟩
theorem zfT (n:Nat):zcM (zcr n):=(zd8 n).2.1
theorem zmA:∀ {a_m:GMod} {r:GTab × Int × Int},zfg a_m=some r→Ctr Tryz.prog 40 [isv (a_m)] [] (fun R H=>R=oneOf [isv (r.1),isv (r.2.1),isv (r.2.2)]∧H=[]):=by
 intro a_m r h
 unfold zfg at h
 refine zr Tryz.func40 e fun w0 S0 hT=>wsr (oT (zaw (y:=a_m) e hI (oT (zag _ ze26 fun b1=>oA e (oA e (rnf (wsr (oV (zd ty73 e) ?_))))))))
 refine zb h fun y2 hy2 h=>oT (zA (zlK hy2) hT (s1 e) .nil (oM e (oV (z7 e e) (oV (z7 e e) (oV (z7 e e) (oA e (oA e (oA e ?_))))))))
 refine rnf (zp (wsr (oM e (oV (zbo e e) (rnf (zg h e (fun _ h=>?_) (fun _ h=>?_)))))))
 ·refine wsr (oV (zar (z:=(GTab.mk (Str.mk []) ([]:(List Str)) ([]:(List Int)) ([]:(List GTyp)))) e bu26 ze26 .nil) (oM e (oM e (oT (zo (y':=((GTab.mk (Str.mk []) ([]:(List Str)) ([]:(List Int)) ([]:(List GTyp))):GTab)) ty26 e e hI .here e (oA e (oA e (rnf (zD ?_)))))))))
  refine zx ?_
  cases h
  exact zh (.cell e .here ty26 (.tmp e (.tmp e .nil))) .nil ⟨e,e⟩
 refine wkf (wsr (oV (zd ty73 e) (oV (zar (z:=((a_m,(Vh.mk none 0),(0:Int)):(GMod × Vh × Int))) e bu141 zo7 (.cons zez zgk e hI .nil)) (oT (zjZ (y:=((a_m,(Vh.mk none 0),(0:Int)):(GMod × Vh × Int))) e hI fun b3=>zaj (zgH (α:=GTyp)) (oA e (rnf (zp ?_))))))))
 refine zdF (ι:=GTab) (γ:=Nat × Tok) (fun q5 g5=>[(9,ptrv g5.1 (Fld.id (Str × (List Str) × (TList Int) × (List GTyp))))]) (fun q5 g5=>[boxE g5.1 ((q5.name,q5.names,(TList.mk g5.2 q5.roots),q5.types):(Str × (List Str) × (TList Int) × (List GTyp))),tokE g5.2]) .nil h (fun q5 g5 h=>?_) (fun J6 h hJ6=>?_)
 ·refine zp (wsr (oA e (rnf (zB (zbx (ι:=Int × GTab × GMk) (γ:=Tok × Vt) (fun q16 g16=>[(10,isv (q16.1))]) (fun q16 g16=>[boxE g5.1 ((q16.2.1.name,q16.2.1.names,(TList.mk g16.1 q16.2.1.roots),q16.2.1.types):(Str × (List Str) × (TList Int) × (List GTyp))),tokE g16.1,boxE b3 ((q16.2.2.m,(Vh.mk g16.2 q16.2.2.l.length),q16.2.2.e):(GMod × Vh × Int)),vecE g16.2 (q16.2.2.l:List GTyp)]) h (g5.2,none) (za (j:=10) e hI ze) (.cons .here (.cons .here (.cons tH k1))) (fun L17 q16 g16 Q50 h hL17 eL17 rL17=>zp (wsr (oM e ?_))))))))
  refine oV (zI e GMod.f2 zd7 e (z:=a_m.names)) (oV (zd ty22 e) (oV (zaH (l:=a_m.names) e hI sl22) (oV (zay e e) (rnf (zg h e (fun _ h=>?_) (fun _ h=>?_))))))
  ·refine wkf (zp (zB (zp (zdF (ι:=GTab × GMk) (γ:=Tok × Vt) (fun q34 g34=>[]) (fun q34 g34=>[boxE g5.1 ((q34.1.name,q34.1.names,(TList.mk g34.1 q34.1.roots),q34.1.types):(Str × (List Str) × (TList Int) × (List GTyp))),tokE g34.1,boxE b3 ((q34.2.m,(Vh.mk g34.2 q34.2.l.length),q34.2.e):(GMod × Vh × Int)),vecE g34.2 (q34.2.l:List GTyp)]) (.cons .here (.cons tH k2)) h (fun q34 g34 h=>?_) (fun J35 h hJ35=>?_)))))
   ·refine wsr (oM e (oV (zw e) (oV (zY e zcz zdG) (oT (zH (R:=isv (q34.2.e)) ty65 e tI hI (oV (zbo e e) (rnf (zg h e (fun _ h=>?_) (fun _ h=>?_)))))))))
    ·refine zp (zdh 8 tI e (fun o47 hn48=>zae (.v 0 (.v 1 (.v 2 (.v 3 (.v 4 (.v 5 (.t 6 (.v 7 (.v 8 .nil))))))))) moOrd (by kernel_rfl) ?_))
     refine zC e (zar (z:=(GTab.mk (Str.mk []) ([]:(List Str)) ([]:(List Int)) ([]:(List GTyp)))) e bu26 ze26 .nil) (rvm e e (rvm e e (zC e (zbJ e) (zC e (zf0 e zcz zdG) (zC e (zdx (R:=isv (q34.2.e)) ty65 e (List.Mem.head _) hI) (zaK e e (zo (y':=((GTab.mk (Str.mk []) ([]:(List Str)) ([]:(List Int)) ([]:(List GTyp))):GTab)) ty26 e e hI (.there tI) e (zC e (zaM e) (zC e (zaM e) ?_)))))))))
     refine zaA (za7 8 hn48 e (zE (zD (zz (zx (rL17 _ (zz (zx ?_))))))))
     cases h
     exact zh (.cell e tH ty26 (.tmp e (.tmp e .nil))) .nil ⟨e,e⟩
    refine z6 (zq (zE (zt (oM e (zO h fun q49 h=>oV (zan e e q49) (oA e (zF ?_)))))))
    exact hL17 _ (g34.1,g34.2) h _ (zf 14 e e (za (j:=10) e hI ze) (.cons .here k4))
   refine zae (.v 0 (.v 2 (.v 3 (.v 4 (.v 5 (.v 6 (.v 7 (.alt 1 (.t 8 (.t 9 (.t 10 (.v 11 (.t 12 .nil))))) (.t 8 (.alt 1 (.t 9 (.t 10 (.v 11 (.t 12 .nil)))) (.t 9 (.t 1 (.t 10 (.v 11 (.t 12 .nil))))))))))))))) moOrd (by kernel_rfl) ?_
   refine zC e (zY e zii zhY) (rvm e e (zC e (zI e GMod.f3 zka e (z:=a_m.types)) (zC e (zd ty23 e) (rvm e e (zb h fun y36 hy36 h=>zC e (zaz (l:=a_m.types) e hI e sl23 hy36) (zC e (zd ty3 e) (zb h fun y37 hy37 h=>?_)))))))
   refine zaf h fun q41 h=>zfv ?_ ?_
   ·refine zaK e e (zH (R:=appv g16.1 (q16.2.1.roots)) ty23 e .here isvT1 (zaK e e (zN (zfT fuel hy37) hT (s3 e e e) (.cons tI (.cons tI .nil)) (fun R H' hR=>?_))))
    obtain ⟨v38,rfl,rfl⟩:=hR
    exact zaK e e (zZ (l:=([y37.1]:(List Int))) el23 (.cons e hI .nil) e e (zaK e e (zbU (l:=q16.2.1.roots) (m:=([y37.1]:(List Int))) zd6 e hI e zQ (.there tI) q41 fun t40=>zC e (zY e zii zhY) (zaK e e (zo (y':=((q16.2.1.name,q16.2.1.names,(TList.mk t40 (q16.2.1.roots ++ ([y37.1]:(List Int)))),q16.2.1.types):(Str × (List Str) × (TList Int) × (List GTyp)))) ty23 e e isvT2 (.there tI) e (zaA (hJ35 _ (t40,v38) h _ (zf 12 e e ze (.cons .here k4)))))))))
   refine zaK e e (zN (zfT fuel hy37) hT (s3 e e e) (.cons tI (.cons tI .nil)) (fun R H' hR=>?_))
   obtain ⟨v42,rfl,rfl⟩:=hR
   refine zfv ?_ ?_
   ·exact zaK e e (zH (R:=appv g16.1 (q16.2.1.roots)) ty23 e tI isvT1 (zaK e e (zZ (l:=([y37.1]:(List Int))) el23 (.cons e hI .nil) e e (zaK e e (zbU (l:=q16.2.1.roots) (m:=([y37.1]:(List Int))) zd6 e hI e zQ (.there tI) q41 fun t44=>zC e (zY e zii zhY) (zaK e e (zo (y':=((q16.2.1.name,q16.2.1.names,(TList.mk t44 (q16.2.1.roots ++ ([y37.1]:(List Int)))),q16.2.1.types):(Str × (List Str) × (TList Int) × (List GTyp)))) ty23 e e isvT2 (.there tI) e (zaA (hJ35 _ (t44,v42) h _ (zf 12 e e ze (.cons .here k4)))))))))))
   exact zaK e e (zZ (l:=([y37.1]:(List Int))) el23 (.cons e hI .nil) e e (zaK e e (zH (R:=appv g16.1 (q16.2.1.roots)) ty23 e tI isvT1 (zaK e e (zbU (l:=q16.2.1.roots) (m:=([y37.1]:(List Int))) zd6 e hI e zQ (.there tI) q41 fun t46=>zC e (zY e zii zhY) (zaK e e (zo (y':=((q16.2.1.name,q16.2.1.names,(TList.mk t46 (q16.2.1.roots ++ ([y37.1]:(List Int)))),q16.2.1.types):(Str × (List Str) × (TList Int) × (List GTyp)))) ty23 e e isvT2 (.there tI) e (zaA (hJ35 _ (t46,v42) h _ (zf 12 e e ze (.cons .here k4)))))))))))
  refine zam (z8 (eL17 _ _ (zL (zE (wsr (oM e (oV (zw e) (oV (zY e zbY zcI) ?_))))))))
  refine oT (zH (R:=vecv g16.2 (q16.2.2.l.length)) ty24 e tI isvV1 (oV (zY e zoi zeU) (zaj (zgT 64 (.there tI) e (by first | rfl | simp)) ?_)))
  refine oT (zo (y':=((q16.2.1.name,q16.2.1.names,(TList.mk g16.1 q16.2.1.roots),q16.2.2.l):(Str × (List Str) × (TList Int) × (List GTyp)))) ty24 e e hI .here e (rnf (wsr (oT (zH (y:=((q16.2.1.name,q16.2.1.names,(TList.mk g16.1 q16.2.1.roots),q16.2.2.l):(Str × (List Str) × (TList Int) × (List GTyp)))) (R:=isv (((q16.2.1.name,q16.2.1.names,(TList.mk g16.1 q16.2.1.roots),q16.2.2.l)):((Str × (List Str) × (TList Int) × (List GTyp))))) ty26 e .here (by exact hI) ?_)))))
  refine zaj (zbW (R':=isv ((GTab.mk q16.2.1.name q16.2.1.names q16.2.1.roots q16.2.2.l))) 66 e (Cv.isv e fun S=>(fun cs h=>GTab.cv (x:=(GTab.mk q16.2.1.name q16.2.1.names q16.2.1.roots q16.2.2.l)) cs (((Cv.pair Cv.id (Cv.pair Cv.id (Cv.pair Cv.tl Cv.id))):Cv S ((q16.2.1.name,q16.2.1.names,(TList.mk g16.1 q16.2.1.roots),q16.2.2.l):(Str × (List Str) × (TList Int) × (List GTyp))) (GTab.to (GTab.mk q16.2.1.name q16.2.1.names q16.2.1.roots q16.2.2.l))) cs h)))) (oT (zo (y':=((GTab.mk q16.2.1.name q16.2.1.names q16.2.1.roots q16.2.2.l):GTab)) ty26 e e hI (.there tI) e (oA e (oA e (rnf (zD ?_))))))
  cases h
  exact zh (.cell e .here ty26 (.tmp e (.tmp e .nil))) .nil ⟨e,e⟩
 refine zae (.v 0 (.v 1 (.v 2 (.v 3 (.alt 4 (.v 5 (.t 6 (.t 7 .nil))) (.t 6 (.t 4 (.v 5 (.t 7 .nil))))))))) moOrd (by kernel_rfl) ?_
 refine zC e (zI e GMod.f0 zn4 e (z:=a_m.name)) (zC e (zd ty9 e) (zC e (zI e GMod.f2 zd7 e (z:=a_m.names)) (zC e (zd ty22 e) (zaf h fun q8 h=>zfv ?_ ?_))))
 ·exact zaK e e (zlc (m:=a_m.names) zlb e e hI q8 fun t7=>zC e (zar (z:=((a_m.name,(([]:(List Str)) ++ a_m.names),(TList.mk none ([]:(List Int))),([]:(List GTyp))):(Str × (List Str) × (TList Int) × (List GTyp)))) e bu26 zld (.cons zlJ zov e hI (.cons zlY zow e zQ .nil))) (zaK e e (zag _ zld fun b9=>zfi (zbh) (zfi (zbh) (zaK e e (zo (y':=((a_m.name,(([]:(List Str)) ++ a_m.names),(TList.mk none ([]:(List Int))),([]:(List GTyp))):(Str × (List Str) × (TList Int) × (List GTyp)))) ty26 e e hI tI e (zaA (hJ6 _ (b9,none) h _ (zf 7 e e (za (j:=9) e hI ze) (.cons .here (.cons .here (.cons tI (.cons tI (.cons tI .nil))))))))))))))
 exact zaK e e (zag _ zld fun b12=>zfi (zbh) (zaK e e (zlc (m:=a_m.names) zlb e e hI q8 fun t14=>zC e (zar (z:=((a_m.name,(([]:(List Str)) ++ a_m.names),(TList.mk none ([]:(List Int))),([]:(List GTyp))):(Str × (List Str) × (TList Int) × (List GTyp)))) e bu26 zld (.cons zlJ zov e hI (.cons zlY zow e zQ .nil))) (zfi (zbh) (zaK e e (zo (y':=((a_m.name,(([]:(List Str)) ++ a_m.names),(TList.mk none ([]:(List Int))),([]:(List GTyp))):(Str × (List Str) × (TList Int) × (List GTyp)))) ty26 e e hI (.there tI) e (zaA (hJ6 _ (b12,none) h _ (zf 7 e e (za (j:=9) e hI ze) (.cons .here (.cons .here (.cons tI (.cons tI (.cons tI .nil))))))))))))))


theorem zfK:∀ {zbz:Str} {r:GTab × Bool},zbF zbz=some r→Ctr Tryz.prog 11 [isv (zbz)] [] (fun R H=>R=oneOf [isv (r.1),isv (r.2)]∧H=[]):=by
 intro zbz r h
 unfold zbF at h
 refine zr Tryz.func11 e fun w0 S0 hT=>wsr (oT (zag _ ze26 fun b1=>oA e (rnf (zp (wsr (oM e (oV (zdX st9 e) ?_)))))))
 refine oV (zb1 e e) (rnf (zg h e (fun _ h=>?_) (fun _ h=>?_)))
 ·refine wsr (oV (zar (z:=(GTab.mk (Str.mk []) ([]:(List Str)) ([]:(List Int)) ([]:(List GTyp)))) e bu26 ze26 .nil) (oT (zo (y':=((GTab.mk (Str.mk []) ([]:(List Str)) ([]:(List Int)) ([]:(List GTyp))):GTab)) ty26 e e hI .here e (oA e (rnf (zD (zx ?_)))))))
  cases h
  exact zh (.cell e .here ty26 (.tmp e .nil)) .nil ⟨e,e⟩
 refine wkf (wsr (oM e (zb h fun y2 hy2 h=>oT (zA (zl6 hy2) hT (s1 e) .nil (oM e (oV (z7 e e) (oV (z7 e e) (oV (z7 e e) ?_))))))))
 refine oT (zag _ ze73 fun b3=>oT (zo (y':=(y2.1:GMod)) ty73 e e hI .here e (zaj (zaQ 4 .here e) (oA e (oA e (rnf (zp (wsr (oM e ?_)))))))))
 refine oV (zbo e e) (rnf (zg h e (fun _ h=>?_) (fun _ h=>?_)))
 ·refine wsr (oV (zar (z:=(GTab.mk (Str.mk []) ([]:(List Str)) ([]:(List Int)) ([]:(List GTyp)))) e bu26 ze26 .nil) (oT (zo (y':=((GTab.mk (Str.mk []) ([]:(List Str)) ([]:(List Int)) ([]:(List GTyp))):GTab)) ty26 e e hI .here e (oA e (rnf (zD (zx ?_)))))))
  cases h
  exact zh (.cell e .here ty26 (.tmp e .nil)) .nil ⟨e,e⟩
 refine wkf (wsr (oV (zd ty73 e) (zb h fun y4 hy4 h=>oT (zA (zmA hy4) hT (s1 e) .nil (oM e (oV (z7 e e) (oV (z7 e e) (oV (z7 e e) ?_))))))))
 refine oT (zag _ ze26 fun b5=>oT (zo (y':=(y4.1:GTab)) ty26 e e hI .here e (zaj (zaQ 7 .here e) (oA e (oA e (rnf (zp (zae (.v 0 (.v 1 (.v 2 (.v 3 (.v 4 (.v 5 (.v 6 (.v 7 (.v 8 (.t 9 (.v 10 .nil))))))))))) moOrd (by kernel_rfl) ?_))))))))
 refine zC e (zd ty26 e) (rvm e e (zC e (zaa e e) (rvm e e (zdk (jb 37) je .nil h 5 e (fun q6 g6 h=>?_) (fun J7 h hJ7=>?_)))))
 ·refine zaK e e (zo (y':=(y4.1:GTab)) ty26 e e hI .here e (zC e (zaM e) (zaA (zE (zD ?_)))))
  cases h
  exact zh (.cell e .here ty26 (.tmp e .nil)) .nil ⟨e,e⟩
 refine zaJ (j:=32) h e (fun g8 h=>?_) (fun g8 h=>?_)
 ·exact rvt 32 e e e g8 (zI e GTab.f3 zeU e (z:=y4.1.types)) (rvt 32 e e e g8 (zd ty24 e) (rvt 32 e e e g8 (zaH (l:=y4.1.types) e hI sl24) (rvt 32 e e e g8 (zhL e e) (zC e (zi e g8 e) (hJ7 _ () h _ (jk 5 37 e e e))))))
 exact rpv 32 e e e g8 (rpv 32 e e e g8 (rpv 32 e e e g8 (rpv 32 e e e g8 (zC e (zj e g8 e) (hJ7 _ () h _ (jk 5 37 e e e))))))

end Go.Proofs.Q


namespace Go.Proofs.Q
open Go.Sy
set_option maxRecDepth 4000
theorem zhE:∀ {a_b:(List UInt8)} {r:UInt64 × Int × Int},zec a_b=some r→Ctr Tryz.prog 195 [isv (a_b)] [] (fun R H=>R=oneOf [isv (r.1),isv (r.2.1),isv (r.2.2)]∧H=[]):=by
 intro a_b r h
 unfold zec at h
 refine zr Tryz.func195 e fun w0 S0 hT=>wsr (oA e (oA e (oA e (rnf (wsr (oA e (rnf ?_)))))))
 refine zp (wsr (oM e (oV (zaH (l:=a_b) e hI sl42) (oM e (rnf (zB (zbx (ι:=UInt64 × Int) (γ:=Unit) (fun q1 g1=>[(5,isv (q1.1)),(10,isv (q1.2))]) (fun q1 g1=>[]) h () (za (j:=5) e hI (za (j:=10) e hI ze)) .nil (fun L2 q1 g1 Q23 h hL2 eL2 rL2=>wsr ?_))))))))
 refine oV (zay e e) (rnf (zp (zg h e (fun _ h=>?_) (fun _ h=>?_))))
 ·refine wkf (zp (zB (wsr (oM e (zb h fun y13 hy13 h=>oV (zaz (l:=a_b) e hI e sl42 hy13) (oV (zd ty5 e) (oA e ?_)))))))
  refine oA e (rnf (zp (wsr (oM e (oV (zaa e e) (oM e (zab (jb 20) je .nil h 3 e (fun q14 g14 h=>?_) (fun J15 h hJ15=>?_))))))))
  ·refine oM e (zab (jb 25) je .nil h 4 e (fun q17 g17 h=>?_) (fun J18 h hJ18=>?_))
   ·refine rnf (zg h e (fun _ h=>?_) (fun _ h=>?_))
    ·refine wsr (oA e (oA e (oA e (rnf (zD (zx (zz (zx ?_))))))))
     refine rL2 _ (zz (zx ?_))
     cases h
     exact zh (.tmp e (.tmp e (.tmp e .nil))) .nil ⟨e,e⟩
    refine wkf (wsr (oM e (zaf h fun q20 h=>oV (ze8 e e q20) (oM e (oV (zlf e e) (oV (zdI Tryz.underlying5 Tryz.underlying41 e) (oV (zey e e) ?_)))))))
    refine oA e (rnf (wsr (oM e (oV (zdY e e) (rnf (zg h e (fun _ h=>?_) (fun _ h=>?_)))))))
    ·refine wsr (oM e (oM e (zO h fun q21 h=>oV (zan e e q21) (oA e (oA e (oA e (rnf ?_)))))))
     refine zD (zz (zx (rL2 _ (zz (zx ?_)))))
     cases h
     exact zh (.tmp e (.tmp e (.tmp e .nil))) .nil ⟨e,e⟩
    exact z6 (zq (zE (zt (zO h fun q22 h=>oV (zan e e q22) (oM e (zF (hL2 _ () h _ (zf 25 e e (za (j:=5) e hI (za (j:=10) e hI ze)) .nil))))))))
   refine zn (j:=21) h e (fun g19 h=>?_) (fun g19 h=>?_)
   ·exact oP 21 e e g19 (oP 21 e e g19 (oP 21 e e g19 (oV (zi e g19 e) (hJ18 _ () h _ (ji 4 25 e e e)))))
   refine oK 21 e e e g19 (zs e) (oK 21 e e e g19 (zo5 (q:=(57:UInt64)) e e (by decide)) ?_)
   exact oK 21 e e e g19 (zi7 eq41 e e) (oV (zj e g19 e) (hJ18 _ () h _ (ji 4 25 e e e)))
  refine zn (j:=17) h e (fun g16 h=>?_) (fun g16 h=>?_)
  ·exact oK 17 e e e g16 (zs e) (oK 17 e e e g16 (zce eq5 e e) (oV (zi e g16 e) (hJ15 _ () h _ (ji 3 20 e e e))))
  exact oP 17 e e g16 (oP 17 e e g16 (oV (zj e g16 e) (hJ15 _ () h _ (ji 3 20 e e e))))
 refine zam (z8 (eL2 _ _ (zL (zE (wsr (oA e (oA e (oA e ?_))))))))
 refine rnf (zD ?_)
 cases h
 exact zh (.tmp e (.tmp e (.tmp e .nil))) .nil ⟨e,e⟩


theorem zkP:∀ {a_b:(List UInt8)} {r:Int × Int × Int},zhX a_b=some r→Ctr Tryz.prog 188 [isv (a_b)] [] (fun R H=>R=oneOf [isv (r.1),isv (r.2.1),isv (r.2.2)]∧H=[]):=by
 intro a_b r h
 unfold zhX at h
 refine zr Tryz.func188 e fun w0 S0 hT=>wsr (oA e (oA e (oA e (rnf (zp (wsr (oM e ?_)))))))
 refine zb h fun y1 hy1 h=>oV (zaz (l:=a_b) e hI e sl42 hy1) (oV (zd ty5 e) (oV (zlf e e) (oV (zlV Tryz.underlying5 Tryz.underlying3 e) (oA e (rnf (wsr (oM e ?_)))))))
 refine oV (zay e e) (rnf (zg h e (fun _ h=>?_) (fun _ h=>?_)))
 ·refine wsr (oM e (oA e (oA e (oA e (rnf (zD (zx ?_)))))))
  cases h
  exact zh (.tmp e (.tmp e (.tmp e .nil))) .nil ⟨e,e⟩
 refine wkf (wsr (oM e (zak h fun q2 h=>oV (zfn (l:=a_b) e hI sl42 (.inr ⟨_,e,e⟩) (.inl ⟨e,e⟩) q2.1 q2.2.1 q2.2.2) (zb h fun y3 hy3 h=>oT (zA (zhE hy3) hT (s1 e) .nil (oM e (oV (z7 e e) ?_)))))))
 refine oV (z7 e e) (oV (z7 e e) (oA e (oA e (oA e (rnf (zp (zB (wsr ?_))))))))
 refine oM e (oV (zbo e e) (oA e (rnf (zg h e (fun _ h=>?_) (fun _ h=>?_)))))
 ·refine wsr (oM e (oA e (oA e (oA e (rnf (zD (zz (zx ?_))))))))
  cases h
  exact zh (.tmp e (.tmp e (.tmp e .nil))) .nil ⟨e,e⟩
 refine wsr (oM e (oV (zkW e e) (oM e (zab (jb 34) je .nil h 3 e (fun q4 g4 h=>?_) (fun J5 h hJ5=>?_)))))
 ·refine oA e (rnf (zg h e (fun _ h=>?_) (fun _ h=>?_)))
  ·refine wsr (oA e (oA e (oA e (rnf (zD (zz (zx ?_)))))))
   cases h
   exact zh (.tmp e (.tmp e (.tmp e .nil))) .nil ⟨e,e⟩
  refine z6 (zq (zE (wsr (oM e (zO h fun q7 h=>oV (zh8 Tryz.underlying41 Tryz.underlying3 e q7) (oM e (oA e ?_)))))))
  refine oA e (oA e (rnf (zD ?_)))
  cases h
  exact zh (.tmp e (.tmp e (.tmp e .nil))) .nil ⟨e,e⟩
 refine zn (j:=31) h e (fun g6 h=>?_) (fun g6 h=>?_)
 ·exact oP 31 e e g6 (oP 31 e e g6 (oV (zi e g6 e) (hJ5 _ () h _ (ji 3 34 e e e))))
 exact oK 31 e e e g6 (zs e) (oK 31 e e e g6 (zlo e e) (oV (zj e g6 e) (hJ5 _ () h _ (ji 3 34 e e e))))


theorem zj8:∀ {a_b:(List UInt8)} {r:UInt64},zgC a_b=some r→Ctr Tryz.prog 198 [isv (a_b)] [] (fun R H=>R=oneOf [isv (r)]∧H=[]):=by
 intro a_b r h
 unfold zgC at h
 refine zr Tryz.func198 e fun w0 S0 hT=>wsr (oA e (rnf (wsr (oA e (rnf (zp (wsr ?_)))))))
 refine oM e (oV (zaH (l:=a_b) e hI sl42) (oM e (rnf (zB (zbx (ι:=UInt64 × Int) (γ:=Unit) (fun q1 g1=>[(3,isv (q1.1)),(8,isv (q1.2))]) (fun q1 g1=>[]) h () (za (j:=3) e hI (za (j:=8) e hI ze)) .nil (fun L2 q1 g1 Q9 h hL2 eL2 rL2=>wsr (oV (zay e e) (rnf ?_))))))))
 refine zp (zg h e (fun _ h=>?_) (fun _ h=>?_))
 ·refine wkf (zp (zB (wsr (zb h fun y6 hy6 h=>oV (zaz (l:=a_b) e hI e sl42 hy6) (oV (zd ty5 e) (oA e (rnf ?_)))))))
  refine zt (oM e (zaf h fun q7 h=>oV (ze8 e e q7) (oM e (oV (zdI Tryz.underlying5 Tryz.underlying41 e) (oV (zey e e) (oA e (zF ?_)))))))
  exact zq (zE (zt (zO h fun q8 h=>oV (zan e e q8) (oM e (zF (hL2 _ () h _ (zf 14 e e (za (j:=3) e hI (za (j:=8) e hI ze)) .nil)))))))
 refine zam (z8 (eL2 _ _ (zL (zE (wsr (oM e (oA e (rnf ?_))))))))
 refine zD ?_
 cases h
 exact zh (.tmp e .nil) .nil ⟨e,e⟩


theorem zgP:∀ {a_b:(List UInt8)} {r:UInt64 × Int},zdz a_b=some r→Ctr Tryz.prog 196 [isv (a_b)] [] (fun R H=>R=oneOf [isv (r.1),isv (r.2)]∧H=[]):=by
 intro a_b r h
 unfold zdz at h
 refine zr Tryz.func196 e fun w0 S0 hT=>wsr (oA e (oA e (rnf (zp (wsr (oM e (oV (zaH (l:=a_b) e hI sl42) ?_)))))))
 refine oV (zaa e e) (rnf (zg h e (fun _ h=>?_) (fun _ h=>?_)))
 ·refine wsr (oA e (oA e (rnf (zD (zx ?_)))))
  cases h
  exact zh (.tmp e (.tmp e .nil)) .nil ⟨e,e⟩
 refine wkf (zp (wsr (oM e (oV (zaH (l:=a_b) e hI sl42) (oV (zb1 e e) (oM e (zab (jb 20) je .nil h 10 e (fun q1 g1 h=>?_) (fun J2 h hJ2=>?_))))))))
 ·refine rnf (zg h e (fun _ h=>?_) (fun _ h=>?_))
  ·refine wsr (oA e (oA e (rnf (zD (zx ?_)))))
   cases h
   exact zh (.tmp e (.tmp e .nil)) .nil ⟨e,e⟩
  refine wkf (wsr (oM e (zb h fun y8 hy8 h=>oT (zA (zj8 hy8) hT (s1 e) .nil (oA e (oA e (rnf (zD ?_))))))))
  cases h
  exact zh (.tmp e (.tmp e .nil)) .nil ⟨e,e⟩
 refine zn (j:=10) h e (fun g3 h=>?_) (fun g3 h=>?_)
 ·refine oP 10 e e g3 (oP 10 e e g3 (oP 10 e e g3 (oP 10 e e g3 (zk e (dj:=14) e (zk e (dj:=14) e (zk e (dj:=14) e (zk e (dj:=14) e (oP 10 e e g3 ?_))))))))
  exact oV (zi e g3 e) (hJ2 _ () h _ (ji 10 20 e e e))
 refine oK 10 e e e g3 (zs e) (oK 10 e e e g3 (zaH (l:=a_b) e hI sl42) (oK 10 e e e g3 (zb1 e e) (oK 10 e e e g3 (zs e) (zab (jb 19) je .nil h 5 e (fun q4 g4 h=>?_) (fun J5 h hJ5=>?_)))))
 ·exact oV (zj e g3 e) (hJ2 _ () h _ (ji 6 20 e e e))
 refine zn (j:=14) h e (fun g6 h=>?_) (fun g6 h=>?_)
 ·exact oK 14 e e e g6 (zs e) (zb h fun y7 hy7 h=>oK 14 e e e g6 (zaz (l:=a_b) e hI e sl42 hy7) (oK 14 e e e g6 (zd ty5 e) (oK 14 e e e g6 (zce eq5 e e) (oK 10 e e e g3 (zi e g6 e) (hJ5 _ () h _ (ji 5 19 e e e))))))
 exact oP 14 e e g6 (oP 14 e e g6 (oP 14 e e g6 (oP 14 e e g6 (oK 10 e e e g3 (zj e g6 e) (hJ5 _ () h _ (ji 5 19 e e e))))))


theorem zk9:∀ {a_b:(List UInt8)} {r:Int × Int × Int},zic a_b=some r→Ctr Tryz.prog 189 [isv (a_b)] [] (fun R H=>R=oneOf [isv (r.1),isv (r.2.1),isv (r.2.2)]∧H=[]):=by
 intro a_b r h
 unfold zic at h
 refine zr Tryz.func189 e fun w0 S0 hT=>wsr (oA e (oA e (oA e (rnf (zp (wsr (oM e ?_)))))))
 refine oV (zaH (l:=a_b) e hI sl42) (oV (zaa e e) (rnf (zg h e (fun _ h=>?_) (fun _ h=>?_))))
 ·refine wsr (oA e (oA e (oA e (rnf (zD (zx ?_))))))
  cases h
  exact zh (.tmp e (.tmp e (.tmp e .nil))) .nil ⟨e,e⟩
 refine wkf (zp (wsr (oM e (zb h fun y1 hy1 h=>oV (zaz (l:=a_b) e hI e sl42 hy1) (oV (zd ty5 e) (oV (zdY e e) (rnf ?_)))))))
 refine zg h e (fun _ h=>?_) (fun _ h=>?_)
 ·refine wsr (oM e (zb h fun y2 hy2 h=>oV (zaz (l:=a_b) e hI e sl42 hy2) (oV (zd ty5 e) (oV (zlV Tryz.underlying5 Tryz.underlying3 e) (oA e (oA e (oA e ?_)))))))
  refine rnf (zD (zx ?_))
  cases h
  exact zh (.tmp e (.tmp e (.tmp e .nil))) .nil ⟨e,e⟩
 refine wkf (wsr (oM e (zb h fun y3 hy3 h=>oV (zaz (l:=a_b) e hI e sl42 hy3) (oV (zd ty5 e) (oV (znj e e) (oV (zlV Tryz.underlying5 Tryz.underlying3 e) (oA e ?_)))))))
 refine rnf (zp (zB (wsr (oM e (oV (zaa e e) (oM e (zab (jb 30) je .nil h 3 e (fun q4 g4 h=>?_) (fun J5 h hJ5=>?_))))))))
 ·refine oA e (rnf (zg h e (fun _ h=>?_) (fun _ h=>?_)))
  ·refine wsr (oA e (oA e (oA e (rnf (zD (zz (zx ?_)))))))
   cases h
   exact zh (.tmp e (.tmp e (.tmp e .nil))) .nil ⟨e,e⟩
  refine wsr (oM e (oV (zaH (l:=a_b) e hI sl42) (oM e (oV (zhL e e) (oA e (rnf (zg h e (fun _ h=>?_) (fun _ h=>?_))))))))
  ·refine wsr (oA e (oA e (oA e (rnf (zD (zz (zx ?_)))))))
   cases h
   exact zh (.tmp e (.tmp e (.tmp e .nil))) .nil ⟨e,e⟩
  refine z6 (zq (zE (wsr (oM e (oM e (zO h fun q7 h=>oV (zan e e q7) (zak h fun q8 h=>?_)))))))
  refine oV (zfn (l:=a_b) e hI sl42 (.inr ⟨_,e,e⟩) (.inr ⟨_,e,e⟩) q8.1 q8.2.1 q8.2.2) (zb h fun y9 hy9 h=>oT (zA (zgP hy9) hT (s1 e) .nil (oM e (oV (z7 e e) (oV (z7 e e) (oA e (oA e (rnf ?_))))))))
  refine zp (wsr (oM e (oV (zbo e e) (oM e (zab (jb 49) je .nil h 3 e (fun q10 g10 h=>?_) (fun J11 h hJ11=>?_))))))
  ·refine oM e (zab (jb 53) je .nil h 3 e (fun q13 g13 h=>?_) (fun J14 h hJ14=>?_))
   ·refine rnf (zg h e (fun _ h=>?_) (fun _ h=>?_))
    ·refine wsr (oA e (oA e (oA e (rnf (zD (zx ?_))))))
     cases h
     exact zh (.tmp e (.tmp e (.tmp e .nil))) .nil ⟨e,e⟩
    refine wkf (wsr (oM e (zO h fun q16 h=>oV (zh8 Tryz.underlying41 Tryz.underlying3 e q16) (oM e (zO h fun q17 h=>oV (zan e e q17) (oA e ?_))))))
    refine oA e (oA e (rnf (zD ?_)))
    cases h
    exact zh (.tmp e (.tmp e (.tmp e .nil))) .nil ⟨e,e⟩
   refine zn (j:=50) h e (fun g15 h=>?_) (fun g15 h=>?_)
   ·exact oP 50 e e g15 (oP 50 e e g15 (oV (zi e g15 e) (hJ14 _ () h _ (ji 3 53 e e e))))
   exact oK 50 e e e g15 (zs e) (oK 50 e e e g15 (zlo e e) (oV (zj e g15 e) (hJ14 _ () h _ (ji 3 53 e e e))))
  refine zn (j:=46) h e (fun g12 h=>?_) (fun g12 h=>?_)
  ·exact oP 46 e e g12 (oP 46 e e g12 (oV (zi e g12 e) (hJ11 _ () h _ (ji 3 49 e e e))))
  exact oK 46 e e e g12 (zs e) (oK 46 e e e g12 (zkW e e) (oV (zj e g12 e) (hJ11 _ () h _ (ji 3 49 e e e))))
 refine zn (j:=27) h e (fun g6 h=>?_) (fun g6 h=>?_)
 ·exact oP 27 e e g6 (oP 27 e e g6 (oV (zi e g6 e) (hJ5 _ () h _ (ji 3 30 e e e))))
 exact oK 27 e e e g6 (zs e) (oK 27 e e e g6 (zb1 e e) (oV (zj e g6 e) (hJ5 _ () h _ (ji 3 30 e e e))))


theorem zjE:∀ {a_b:(List UInt8)} {r:Tag × Bool × Int × Int × Int},zgB a_b=some r→Ctr Tryz.prog 178 [isv (a_b)] [] (fun R H=>R=oneOf [isv (r.1),isv (r.2.1),isv (r.2.2.1),isv (r.2.2.2.1),isv (r.2.2.2.2)]∧H=[]):=by
 intro a_b r h
 unfold zgB at h
 refine zr Tryz.func178 e fun w0 S0 hT=>wsr (oT (zag _ ze31 fun b1=>oA e (oA e (oA e (oA e (rnf (zp ?_)))))))
 refine wsr (oM e (oV (zaH (l:=a_b) e hI sl42) (oV (zaa e e) (rnf (zg h e (fun _ h=>?_) (fun _ h=>?_))))))
 ·refine wsr (oV (zar (z:=(Tag.mk (0:Int) (0:Int))) e bu31 ze31 .nil) (oT (zo (y':=((Tag.mk (0:Int) (0:Int)):Tag)) ty31 e e hI .here e (oA e (oA e (oA e (oA e (rnf (zD ?_)))))))))
  refine zx ?_
  cases h
  exact zh (.cell e .here ty31 (.tmp e (.tmp e (.tmp e (.tmp e .nil))))) .nil ⟨e,e⟩
 refine wkf (wsr (oM e (zb h fun y2 hy2 h=>oT (zA (zkP hy2) hT (s1 e) .nil (oM e (oV (z7 e e) (oV (z7 e e) (oV (z7 e e) ?_))))))))
 refine oA e (oA e (oA e (rnf (zp (wsr (oM e (oV (zbo e e) (rnf ?_))))))))
 refine zg h e (fun _ h=>?_) (fun _ h=>?_)
 ·refine wsr (oV (zar (z:=(Tag.mk (0:Int) (0:Int))) e bu31 ze31 .nil) (oM e (oT (zo (y':=((Tag.mk (0:Int) (0:Int)):Tag)) ty31 e e hI .here e (oA e (oA e (oA e (oA e (rnf ?_)))))))))
  refine zD (zx ?_)
  cases h
  exact zh (.cell e .here ty31 (.tmp e (.tmp e (.tmp e (.tmp e .nil))))) .nil ⟨e,e⟩
 refine wkf (wsr (oM e (oM e (zO h fun q3 h=>oV (zan e e q3) (zak h fun q4 h=>oV (zfn (l:=a_b) e hI sl42 (.inr ⟨_,e,e⟩) (.inl ⟨e,e⟩) q4.1 q4.2.1 q4.2.2) (zb h fun y5 hy5 h=>?_))))))
 refine oT (zA (zk9 hy5) hT (s1 e) .nil (oM e (oV (z7 e e) (oV (z7 e e) (oV (z7 e e) (oA e (oA e (oA e (rnf ?_)))))))))
 refine zp (wsr (oM e (oV (zbo e e) (rnf (zg h e (fun _ h=>?_) (fun _ h=>?_))))))
 ·refine wsr (oV (zar (z:=(Tag.mk (0:Int) (0:Int))) e bu31 ze31 .nil) (oM e (oT (zo (y':=((Tag.mk (0:Int) (0:Int)):Tag)) ty31 e e hI .here e (oA e (oA e (oA e (oA e (rnf ?_)))))))))
  refine zD (zx ?_)
  cases h
  exact zh (.cell e .here ty31 (.tmp e (.tmp e (.tmp e (.tmp e .nil))))) .nil ⟨e,e⟩
 refine wkf (zp (zae (.v 0 (.v 1 (.v 2 (.v 3 (.v 4 (.v 5 (.v 6 (.v 7 (.v 8 (.v 9 (.v 10 (.v 11 (.v 12 (.v 13 (.v 14 (.v 15 (.v 16 (.t 17 (.v 18 (.v 19 (.v 20 (.v 21 .nil)))))))))))))))))))))) moOrd (by kernel_rfl) ?_))
 refine rvm e e (zb h fun y6 hy6 h=>zC e (zaz (l:=a_b) e hI e sl42 hy6) (zC e (zd ty5 e) (zaf h fun q7 h=>zC e (zoP e e q7) (zC e (zlV Tryz.underlying5 Tryz.underlying3 e) (rvm e e (zC e (zar (z:=(Tag.mk ((shr8 y6 (6:UInt64).toNat).toNat:Int) y2.1)) e bu31 ze31 (.cons Tag.f0 ziP e hI (.cons Tag.f1 zeW e hI .nil))) ?_))))))
 refine rvm e e (zb h fun y8 hy8 h=>zC e (zaz (l:=a_b) e hI e sl42 hy8) (zC e (zd ty5 e) (zC e (zlf e e) (zC e (zi7 eq5 e e) (rvm e e (rvm e e (zO h fun q9 h=>?_)))))))
 refine zC e (zan e e q9) (rvm e e (zO h fun q10 h=>zC e (zan e e q10) (zaK e e (zo (y':=((Tag.mk ((shr8 y6 (6:UInt64).toNat).toNat:Int) y2.1):Tag)) ty31 e e hI .here e (zC e (zaM e) (zC e (zaM e) (zC e (zaM e) (zC e (zaM e) ?_))))))))
 refine zaA (zE (zD ?_))
 cases h
 exact zh (.cell e .here ty31 (.tmp e (.tmp e (.tmp e (.tmp e .nil))))) .nil ⟨e,e⟩


theorem zmq:∀ {a_b:(List UInt8)} {r:Tag × Bool × (List UInt8) × Int × Int},zjB a_b=some r→Ctr Tryz.prog 158 [isv (a_b)] [] (fun R H=>R=oneOf [isv (r.1),isv (r.2.1),isv (r.2.2.1),isv (r.2.2.2.1),isv (r.2.2.2.2)]∧H=[]):=by
 intro a_b r h
 unfold zjB at h
 refine zr Tryz.func158 e fun w0 S0 hT=>wsr (oT (zag _ ze31 fun b1=>oA e (oA e (oA e (oA e (rnf (wsr ?_)))))))
 refine oM e (zb h fun y2 hy2 h=>oT (zA (zjE hy2) hT (s1 e) .nil (oM e (oV (z7 e e) (oV (z7 e e) (oV (z7 e e) (oV (z7 e e) (oV (z7 e e) ?_))))))))
 refine oT (zag _ ze31 fun b3=>oT (zo (y':=(y2.1:Tag)) ty31 e e hI .here e (zaj (zaQ 7 .here e) (oA e (oA e (oA e (oA e (rnf (zp ?_)))))))))
 refine wsr (oM e (oV (zaa e e) (oM e (zab (jb 29) je .nil h 7 e (fun q4 g4 h=>?_) (fun J5 h hJ5=>?_)))))
 ·refine rnf (zdF (ι:=Int) (γ:=Unit) (fun q8 g8=>[(11,isv (q8))]) (fun q8 g8=>[]) .nil h (fun q8 g8 h=>?_) (fun J9 h hJ9=>?_))
  ·refine zp (wsr (oM e (oV (zbo e e) (rnf (zg h e (fun _ h=>?_) (fun _ h=>?_))))))
   ·refine wsr (oV (zar (z:=(Tag.mk (0:Int) (0:Int))) e bu31 ze31 .nil) (oM e (oT (zo (y':=((Tag.mk (0:Int) (0:Int)):Tag)) ty31 e e hI .here e (oA e (oA e (oA e (oA e (rnf ?_)))))))))
    refine zD (zx ?_)
    cases h
    exact zh (.cell e .here ty31 (.tmp e (.as e (zed (α:=UInt8)) (.tmp e (.tmp e .nil))))) .nil ⟨e,e⟩
   refine wkf (zp (zae (.v 0 (.v 1 (.v 2 (.v 3 (.v 4 (.v 5 (.v 6 (.v 7 (.v 9 (.v 10 (.v 11 (.t 8 (.t 12 (.v 13 (.v 14 (.v 15 (.v 16 .nil))))))))))))))))) moOrd (by kernel_rfl) ?_))
   refine zC e (zd ty31 e) (rvm e e (rvm e e (rvm e e (rvm e e (rvm e e (zO h fun q10 h=>zC e (zan e e q10) (zak h fun q11 h=>?_)))))))
   refine zC e (zfn (l:=a_b) e hI sl42 (.inr ⟨_,e,e⟩) (.inr ⟨_,e,e⟩) q11.1 q11.2.1 q11.2.2) (rvm e e (rvm e e (zO h fun q12 h=>zC e (zan e e q12) (zaf h fun q14 h=>zaK e e (zlc (m:=((a_b.take ((y2.2.2.2.1 + y2.2.2.1)).toNat).drop (y2.2.2.2.1).toNat)) zmX e e hI q14 fun t13=>zaK e e (zo (y':=(y2.1:Tag)) ty31 e e hI tH e (zC e (zaM e) ?_)))))))
   refine zC e (zaM e) (zC e (zaM e) (zC e (zaM e) (zaA (zE (zD ?_)))))
   cases h
   exact zh (.cell e .here ty31 (.tmp e (.as e zQ (.tmp e (.tmp e .nil))))) .nil ⟨e,e⟩
  refine zg h e (fun _ h=>?_) (fun _ h=>?_)
  ·exact zt (oA e (zF (hJ9 _ () h _ (jk 1 11 e e e))))
  exact z6 (hJ9 _ () h _ (jk 0 11 e e e))
 refine zn (j:=22) h e (fun g6 h=>?_) (fun g6 h=>?_)
 ·exact oK 22 e e e g6 (zs e) (oK 22 e e e g6 (zs e) (oK 22 e e e g6 (zaH (l:=a_b) e hI sl42) (oK 22 e e e g6 (zs e) (zO h fun q7 h=>oK 22 e e e g6 (zfo e e q7) (oK 22 e e e g6 (zb1 e e) (oV (zi e g6 e) (hJ5 _ () h _ (jk 7 29 e e e))))))))
 exact oP 22 e e g6 (oP 22 e e g6 (oP 22 e e g6 (oP 22 e e g6 (oP 22 e e g6 (oP 22 e e g6 (oV (zj e g6 e) (hJ5 _ () h _ (jk 7 29 e e e))))))))


theorem zhJ:∀ {a_t:GTyp} {a_k:Int} {r:Bool},zfG a_t a_k=some r→Ctr Tryz.prog 127 [isv (a_t),isv (a_k)] [] (fun R H=>R=oneOf [isv (r)]∧H=[]):=by
 intro a_t a_k r h
 unfold zfG at h
 refine zr Tryz.func127 e fun w0 S0 hT=>wsr (oT (zaw (y:=a_t) e hI (oA e (rnf (wsr (oV (zI e GTyp.f4 zbR e (z:=a_t.fields)) (oV (zd ty85 e) (oM e ?_))))))))
 refine zb h fun y1 hy1 h=>oV (zaz (l:=a_t.fields) e hI e sl85 hy1) (oV (zI e GFld.f2 zkL e (z:=y1.optional)) (oV (zd ty4 e) (oM e (zab (jb 18) je .nil h 7 e (fun q2 g2 h=>?_) (fun J3 h hJ3=>?_)))))
 ·refine oM e (zab (jb 24) je .nil h 5 e (fun q6 g6 h=>?_) (fun J7 h hJ7=>?_))
  ·refine oA e (rnf (zD ?_))
   cases h
   exact zh (.tmp e .nil) .nil ⟨e,e⟩
  refine zn (j:=19) h e (fun g8 h=>?_) (fun g8 h=>?_)
  ·exact oP 19 e e g8 (oP 19 e e g8 (oP 19 e e g8 (oP 19 e e g8 (oV (zi e g8 e) (hJ7 _ () h _ (ji 5 24 e e e))))))
  exact oK 19 e e e g8 (zs e) (oK 19 e e e g8 (zI e GTyp.f5 zg9 e (z:=a_t.root)) (oK 19 e e e g8 (zd ty3 e) (oK 19 e e e g8 (zcR e e) (oV (zj e g8 e) (hJ7 _ () h _ (ji 5 24 e e e))))))
 refine zn (j:=11) h e (fun g4 h=>?_) (fun g4 h=>?_)
 ·exact oP 11 e e g4 (oP 11 e e g4 (oP 11 e e g4 (oP 11 e e g4 (oP 11 e e g4 (oP 11 e e g4 (oV (zi e g4 e) (hJ3 _ () h _ (ji 7 18 e e e))))))))
 exact oK 11 e e e g4 (zI e GTyp.f4 zbR e (z:=a_t.fields)) (oK 11 e e e g4 (zd ty85 e) (oK 11 e e e g4 (zs e) (zb h fun y5 hy5 h=>oK 11 e e e g4 (zaz (l:=a_t.fields) e hI e sl85 hy5) (oK 11 e e e g4 (zI e GFld.f3 ziM e (z:=y5.has)) (oK 11 e e e g4 (zd ty4 e) (oV (zj e g4 e) (hJ3 _ () h _ (ji 7 18 e e e))))))))


theorem zk0:∀ {a_t:GTyp} {r:Int},zh2 a_t=some r→Ctr Tryz.prog 159 [isv (a_t)] [] (fun R H=>R=oneOf [isv (r)]∧H=[]):=by
 intro a_t r h
 unfold zh2 at h
 refine zr Tryz.func159 e fun w0 S0 hT=>wsr (oT (zaw (y:=a_t) e hI (oA e (rnf (wsr (oV (zI e GTyp.f5 zg9 e (z:=a_t.root)) (oV (zd ty3 e) (oV (zoe e e) ?_))))))))
 refine oV (zI e GTyp.f4 zbR e (z:=a_t.fields)) (oV (zd ty85 e) (oV (zaH (l:=a_t.fields) e hI sl85) (oV (zob e e) (oA e (rnf (zp (zB (zbx (ι:=Int) (γ:=Unit) (fun q1 g1=>[(3,isv (q1))]) (fun q1 g1=>[]) h () (za (j:=3) e hI ze) .nil (fun L2 q1 g1 Q15 h hL2 eL2 rL2=>?_)))))))))
 refine zp (wsr (oM e (oV (zb1 e e) (oM e (zab (jb 18) je .nil h 5 e (fun q9 g9 h=>?_) (fun J10 h hJ10=>?_))))))
 ·refine rnf (zg h e (fun _ h=>?_) (fun _ h=>?_))
  ·refine wkf (zB (zt (oM e (zO h fun q14 h=>oV (zfo e e q14) (oA e (zF (zq ?_)))))))
   exact hL2 _ () h _ (ji 8 3 e e e)
  refine zam (z8 (eL2 _ _ (zL (zE (wsr (oM e (oA e (rnf ?_))))))))
  refine zD ?_
  cases h
  exact zh (.tmp e .nil) .nil ⟨e,e⟩
 refine zn (j:=13) h e (fun g11 h=>?_) (fun g11 h=>?_)
 ·exact oK 13 e e e g11 (zd ty87 e) (oK 13 e e e g11 (zs e) (zO h fun q12 h=>oK 13 e e e g11 (zfo e e q12) (zb h fun y13 hy13 h=>zai e e (dj:=13) e g11 (zA (zhJ hy13) hT (s2 e e) .nil (oV (zi e g11 e) (hJ10 _ () h _ (ji 5 18 e e e)))))))
 exact oP 13 e e g11 (oP 13 e e g11 (oP 13 e e g11 (oP 13 e e g11 (oV (zj e g11 e) (hJ10 _ () h _ (ji 5 18 e e e))))))


theorem zfW:∀ {a_x:GTyp} {a_a1:(List Tag)} {zc6:Nat} {t_a_a11:Tok} {r:(List Tag)},zc7 a_x a_a1=some r→Ctr Tryz.prog 117 [isv (a_x),ptrv zc6 (Fld.id (TList Tag))] [boxE zc6 ((TList.mk t_a_a11 a_a1):(TList Tag)),tokE t_a_a11] (fun R H=>∃ u1:Tok,R=oneOf []∧H=[boxE zc6 ((TList.mk u1 r)),tokE u1]):=by
 intro a_x a_a1 zc6 t_a_a11 r h
 unfold zc7 at h
 refine zr Tryz.func117 e fun w0 S0 hT=>wsr (oT (zaw (y:=a_x) e hI (rnf (wsr (oV (zI e GTyp.f1 zfM e (z:=a_x.tags)) (oV (zd ty78 e) (oV (zaH (l:=a_x.tags) e hI sl78) (oV (zb1 e e) ?_))))))))
 refine rnf (zg h e (fun _ h=>?_) (fun _ h=>?_))
 ·refine zae (.v 1 (.v 2 (.v 3 (.v 4 (.alt 0 (.t 5 (.t 6 (.t 7 .nil))) (.t 5 (.t 0 (.t 6 (.t 7 .nil))))))))) moOrd (by kernel_rfl) ?_
  refine zC e (zI e GTyp.f1 zfM e (z:=a_x.tags)) (zC e (zd ty78 e) (zb h fun y2 hy2 h=>zC e (zaz (l:=a_x.tags) e hI e sl78 hy2) (zC e (zd ty31 e) (zaf h fun q5 h=>zfv ?_ ?_))))
  ·refine zaK e e (zH (R:=appv t_a_a11 (a_a1)) ty78 e .here isvT1 (zaK e e (zZ (l:=([y2]:(List Tag))) el78 (.cons e hI .nil) e e (zaK e e (zbU (l:=a_a1) (m:=([y2]:(List Tag))) zhl e hI e zQ tH q5 fun t4=>zaK e e (zo (y':=((TList.mk t4 (a_a1 ++ ([y2]:(List Tag)))):(TList Tag))) ty78 e e isvT2 tH e (zaA (zaP .nil k2 ?_))))))))
   cases h
   exact ⟨t4,e,e⟩
  refine zaK e e (zZ (l:=([y2]:(List Tag))) el78 (.cons e hI .nil) e e (zaK e e (zH (R:=appv t_a_a11 (a_a1)) ty78 e .here isvT1 (zaK e e (zbU (l:=a_a1) (m:=([y2]:(List Tag))) zhl e hI e zQ tH q5 fun t7=>zaK e e (zo (y':=((TList.mk t7 (a_a1 ++ ([y2]:(List Tag)))):(TList Tag))) ty78 e e isvT2 tH e (zaA (zaP .nil k2 ?_))))))))
  cases h
  exact ⟨t7,e,e⟩
 refine z6 (zaP .nil k2 ?_)
 cases h
 exact ⟨t_a_a11,e,e⟩


def zdB (f':GTys→Int→Int→(List Tag)→Option (GTys × Int × (List Tag))):Prop :=
 ∀ {a_t:GTys} {ze2:Int} {zdS:Int} {zfa:(List Tag)} {zfE:Nat} {zeb:Nat} {zdt:Nat} {t_a_do__01:Tok} {r:GTys × Int × (List Tag)},f' a_t ze2 zdS zfa=some r→Ctr Tryz.prog 116 [ptrv zfE (Fld.id GTys),isv (ze2),ptrv zeb (Fld.id Int),clov 117 [ptrv zdt (Fld.id (TList Tag))]] [boxE zfE (a_t:GTys),boxE zeb (zdS:Int),boxE zdt ((TList.mk t_a_do__01 zfa):(TList Tag)),tokE t_a_do__01] (fun R H=>∃ u1:Tok,R=oneOf []∧H=[boxE zfE (r.1),boxE zeb (r.2.1),boxE zdt ((TList.mk u1 r.2.2)),tokE u1])
theorem zg2 {zcU:GTys→Int→Int→(List Tag)→Option (GTys × Int × (List Tag))} (zhC:zdB zcU):∀ {a_t:GTys} {ze2:Int} {zdS:Int} {zfa:(List Tag)} {zfE:Nat} {zeb:Nat} {zdt:Nat} {t_a_do__01:Tok} {r:GTys × Int × (List Tag)},zdy zcU a_t ze2 zdS zfa=some r→Ctr Tryz.prog 116 [ptrv zfE (Fld.id GTys),isv (ze2),ptrv zeb (Fld.id Int),clov 117 [ptrv zdt (Fld.id (TList Tag))]] [boxE zfE (a_t:GTys),boxE zeb (zdS:Int),boxE zdt ((TList.mk t_a_do__01 zfa):(TList Tag)),tokE t_a_do__01] (fun R H=>∃ u1:Tok,R=oneOf []∧H=[boxE zfE (r.1),boxE zeb (r.2.1),boxE zdt ((TList.mk u1 r.2.2)),tokE u1]):=by
 intro a_t ze2 zdS zfa zfE zeb zdt t_a_do__01 r h
 unfold zdy at h
 refine zr Tryz.func116 e fun w0 S0 hT=>zp (wsr (oM e (oV (zay e e) (oM e (zab (jb 21) je .nil h 8 e (fun q2 g2 h=>?_) (fun J3 h hJ3=>?_))))))
 ·refine oM e (zab (jb 27) je .nil h 5 e (fun q5 g5 h=>?_) (fun J6 h hJ6=>?_))
  ·refine rnf (zg h e (fun _ h=>?_) (fun _ h=>?_))
   ·refine zD (zx (zh .nil k4 ?_))
    cases h
    exact ⟨t_a_do__01,e,e⟩
   refine wkf (wsr (oM e (oV (zw e) (oT (zH (R:=isv (zdS)) ty3 e tH hI (zO h fun q8 h=>oV (zfo e e q8) (oV (zw e) (oT (zo (y':=((zdS - (1:Int)):Int)) ty3 e e hI tH e ?_)))))))))
   refine rnf (wsr (oM e (oV (zw e) (oV (zY e GTys.f0 zkS) (oT (zH (R:=isv (a_t.l)) ty24 e tH hI (oM e (zb h fun y9 hy9 h=>oV (zaz (l:=a_t.l) e hI e sl24 hy9) ?_))))))))
   refine oV (zd ty87 e) (oT (zag _ ze87 fun b10=>oT (zo (y':=(y9:GTyp)) ty87 e e hI .here e (zaj (zaQ 8 .here e) (rnf (wsr (oM e (oV (zd ty87 e) (zb h fun y11 hy11 h=>?_)))))))))
   refine oT (zhm e (s1 e) (zfW hy11) hT (.cons tI (.cons tI .nil)) (fun R H' hR=>?_))
   obtain ⟨t12,rfl,rfl⟩:=hR
   refine rnf (zp (wsr (oV (zI e GTyp.f1 zfM e (z:=y9.tags)) (oV (zd ty78 e) (oV (zaH (l:=y9.tags) e hI sl78) (oV (zb1 e e) (rnf (zg h e (fun _ h=>?_) (fun _ h=>?_)))))))))
   ·refine zD (zx (zh .nil (.cons (.there tI) (.cons tI k2)) ?_))
    cases h
    exact ⟨t12,e,e⟩
   refine wkf (wsr (oV (zI e GTyp.f4 zbR e (z:=y9.fields)) (oV (zd ty85 e) (oV (zaH (l:=y9.fields) e hI sl85) (oM e (rnf (zB (zbx (ι:=Int × (List Tag) × Int × GTys) (γ:=Tok) (fun q13 g13=>[(50,isv (q13.1))]) (fun q13 g13=>[boxE zdt ((TList.mk g13 q13.2.1):(TList Tag)),tokE g13,boxE zeb (q13.2.2.1:Int),boxE zfE (q13.2.2.2:GTys)]) h (t12) (za (j:=50) e hI ze) k4 (fun L14 q13 g13 Q25 h hL14 eL14 rL14=>?_)))))))))
   refine wsr (oV (zay e e) (rnf (zp (zg h e (fun _ h=>?_) (fun _ h=>?_)))))
   ·refine wkf (zp (zB (wsr (zb h fun y20 hy20 h=>oV (zaz (l:=y9.fields) e hI e sl85 hy20) (oV (zd ty92 e) (oT (zag _ ze92 fun b21=>oT (zo (y':=(y20:GFld)) ty92 e e hI .here e ?_))))))))
    refine zaj (zaQ 10 .here e) (rnf (zt (oM e (oV (zI e GFld.f1 zdA e (z:=y20.ty)) (oV (zd ty3 e) (oM e (oM e (zb h fun y22 hy22 h=>?_))))))))
    refine oT (zN (zhC hy22) hT (s4 e e e e) (.cons (.there tI) (.cons tI k2)) (fun R H' hR=>?_))
    obtain ⟨t23,rfl,rfl⟩:=hR
    exact zF (zq (zE (zt (zO h fun q24 h=>oV (zan e e q24) (oM e (zF (hL14 _ (t23) h _ (zf 14 e e (za (j:=50) e hI ze) (.cons tI (.cons tI (.cons tH k1)))))))))))
   refine zam (z8 (eL14 _ _ (zL (zaP .nil (.cons (.there tI) (.cons tI k2)) ?_))))
   cases h
   exact ⟨g13,e,e⟩
  refine zn (j:=22) h e (fun g7 h=>?_) (fun g7 h=>?_)
  ·exact oP 22 e e g7 (oP 22 e e g7 (oP 22 e e g7 (oP 22 e e g7 (oV (zi e g7 e) (hJ6 _ () h _ (zf 5 e e (za (j:=27) e hI ze) k4))))))
  exact oK 22 e e e g7 (zs e) (oK 22 e e e g7 (zw e) (zai e e (dj:=22) e g7 (zH (R:=isv (zdS)) ty3 e tH hI (oK 22 e e e g7 (zaa e e) (oV (zj e g7 e) (hJ6 _ () h _ (zf 5 e e (za (j:=27) e hI ze) k4)))))))
 refine zn (j:=13) h e (fun g4 h=>?_) (fun g4 h=>?_)
 ·exact oP 13 e e g4 (oP 13 e e g4 (oP 13 e e g4 (oP 13 e e g4 (oP 13 e e g4 (oP 13 e e g4 (oP 13 e e g4 (oV (zi e g4 e) (hJ3 _ () h _ (zf 8 e e (za (j:=21) e hI ze) k4)))))))))
 exact oK 13 e e e g4 (zs e) (oK 13 e e e g4 (zs e) (oK 13 e e e g4 (zw e) (oK 13 e e e g4 (zY e GTys.f0 zkS) (zai e e (dj:=13) e g4 (zH (R:=isv (a_t.l)) ty24 e .here hI (oK 13 e e e g4 (zaH (l:=a_t.l) e hI sl24) (oK 13 e e e g4 (zcR e e) (oV (zj e g4 e) (hJ3 _ () h _ (zf 8 e e (za (j:=21) e hI ze) k4))))))))))

theorem zd0:∀ n,zdB (zeh n)
 | 0=>fun h=>(by cases h)
 | n + 1=>zg2 (zd0 n)
theorem zhH (n:Nat):zdB (zeh n):=(zd0 n)

theorem zgS:∀ {a_t:GTys} {ze2:Int} {zfE:Nat} {r:(List Tag) × GTys},zdN a_t ze2=some r→Ctr Tryz.prog 78 [ptrv zfE (Fld.id GTys),isv (ze2)] [boxE zfE (a_t:GTys)] (fun R H=>R=oneOf [isv (r.1)]∧H=[boxE zfE (r.2)]):=by
 intro a_t ze2 zfE r h
 unfold zdN at h
 refine zr Tryz.func78 e fun w0 S0 hT=>wsr (oA e (rnf (wsr (oT (zag _ zpX fun b1=>zaj (zbh) (rnf (wsr ?_)))))))
 refine oT (zag _ ze3 fun b3=>oT (zo (y':=((300:Int):Int)) ty3 e e hI .here e (rnf (wsr (oM e (oM e (oV (zgd (s1 e)) (zb h fun y4 hy4 h=>oT (zN (zhH fuel hy4) hT (s4 e e e e) (.cons (.there tI) (.cons .here (.cons tH k1))) (fun R H' hR=>?_))))))))))
 obtain ⟨t5,rfl,rfl⟩:=hR
 refine rnf (wsr (oT (zH (R:=appv t5 (y4.2.2)) ty78 e tI isvT1 (oA e (rnf (zD ?_))))))
 cases h
 exact zh (.as e zQ .nil) k1 ⟨e,e⟩


theorem zjI:∀ {a_t:GTab} {a_i:Int} {r:(List Tag)},zgD a_t a_i=some r→Ctr Tryz.prog 41 [isv (a_t),isv (a_i)] [] (fun R H=>R=oneOf [isv (r)]∧H=[]):=by
 intro a_t a_i r h
 unfold zgD at h
 refine zr Tryz.func41 e fun w0 S0 hT=>wsr (oT (zaw (y:=a_t) e hI (oA e (rnf (wsr (oV (zI e GTab.f3 zeU e (z:=a_t.types)) (oV (zd ty24 e) (oV (zar (z:=(GTys.mk a_t.types)) e bu144 ze144 (.cons GTys.f0 zkS e hI .nil)) ?_))))))))
 refine oT (zjZ (y:=(GTys.mk a_t.types)) e hI fun b1=>oA e (rnf (wsr (oM e (oM e (zb h fun y2 hy2 h=>oT (zA (zgS hy2) hT (s2 e e) k1 (oA e ?_))))))))
 refine rnf (zD ?_)
 cases h
 exact zh (.tmp e .nil) .nil ⟨e,e⟩


theorem zer:∀ {a_s:(List Tag)} {a_v:Tag} {r:Int},zcd a_s a_v=some r→Ctr Tryz.prog 180 [isv (a_s),isv (a_v)] [] (fun R H=>R=oneOf [isv (r)]∧H=[]):=by
 intro a_s a_v r h
 unfold zcd at h
 refine zr Tryz.func180 e fun w0 S0 hT=>wsr (oT (zaw (y:=a_v) e hI (oA e (rnf (zp (wsr (oM e (oV (zaH (l:=a_s) e hI sl78) ?_))))))))
 refine oM e (rnf (zB (zbx (ι:=Int) (γ:=Unit) (fun q1 g1=>[(8,isv (q1))]) (fun q1 g1=>[]) h () (za (j:=8) e hI ze) .nil (fun L2 q1 g1 Q7 h hL2 eL2 rL2=>wsr (oV (zay e e) (rnf (zp (zg h e (fun _ h=>?_) (fun _ h=>?_)))))))))
 ·refine wkf (zp (zB (wsr (oM e (oA e (rnf (zp (zae (.v 0 (.v 1 (.v 2 (.v 3 (.v 4 (.v 5 .nil)))))) moOrd (by kernel_rfl) ?_))))))))
  refine zC e (zd ty31 e) (rvm e e (rvm e e (zb h fun y5 hy5 h=>zC e (zaz (l:=a_s) e hI e sl78 hy5) (zC e (zd ty31 e) (zC e (zce eq31 e e) (zaA (zE ?_)))))))
  refine zg h e (fun _ h=>?_) (fun _ h=>?_)
  ·refine wsr (oM e (oA e (rnf (zD (zz (zx (rL2 _ (zz ?_))))))))
   refine zx ?_
   cases h
   exact zh (.tmp e .nil) .nil ⟨e,e⟩
  exact z6 (zq (zE (zt (zO h fun q6 h=>oV (zan e e q6) (oM e (zF (hL2 _ () h _ (ji 12 8 e e e))))))))
 refine zam (z8 (eL2 _ _ (zL (zE (wsr (oA e (rnf (zD ?_))))))))
 cases h
 exact zh (.tmp e .nil) .nil ⟨e,e⟩


theorem zdR:∀ {a_s:(List Tag)} {a_v:Tag} {r:Bool},zbS a_s a_v=some r→Ctr Tryz.prog 162 [isv (a_s),isv (a_v)] [] (fun R H=>R=oneOf [isv (r)]∧H=[]):=by
 intro a_s a_v r h
 unfold zbS at h
 refine zr Tryz.func162 e fun w0 S0 hT=>wsr (oT (zaw (y:=a_v) e hI (oA e (rnf (wsr (oM e (oV (zd ty31 e) (zb h fun y1 hy1 h=>?_))))))))
 refine oT (zA (zer hy1) hT (s2 e e) .nil (oV (zcR e e) (oA e (rnf (zD ?_)))))
 cases h
 exact zh (.tmp e .nil) .nil ⟨e,e⟩


theorem zfl:∀ {a_f:GFld} {a_a1:GChk} {a_a2:Tag} {zc6:Nat} {r:Bool × GChk},zcG a_f a_a1 a_a2=some r→Ctr Tryz.prog 161 [isv (a_f),immv (PtrB.mk zc6),immv (a_a2)] [boxE zc6 (a_a1:GChk)] (fun R H=>R=oneOf [isv (r.1)]∧H=[boxE zc6 (r.2)]):=by
 intro a_f a_a1 a_a2 zc6 r h
 unfold zcG at h
 refine zr Tryz.func161 e fun w0 S0 hT=>wsr (oT (zaw (y:=a_f) e hI (oA e (rnf (zp (zae (.v 0 (.v 1 (.v 2 (.v 3 (.v 5 (.v 6 (.v 8 (.t 4 (.t 7 (.t 9 (.v 10 .nil))))))))))) moOrd (by kernel_rfl) ?_))))))
 refine zC e (zjJ (α:=GChk) ty99 e) (zC e (zw e) (zC e (zY e GChk.f0 zef) (zC e (zY e GTbd.f0 zen) (zC e (zI e GFld.f1 zdA e (z:=a_f.ty)) (zC e (zd ty3 e) (zC e (zd ty31 e) (zaK e e (zH (R:=isv (a_a1.tabled.t)) ty26 e .here hI (zb h fun y1 hy1 h=>?_)))))))))
 refine zaK e e (zA (zjI hy1) hT (s2 e e) .nil (zb h fun y2 hy2 h=>zaK e e (zA (zdR hy2) hT (s2 e e) .nil (zC e (zaM e) (zaA (zE (zD ?_)))))))
 cases h
 exact zh (.tmp e .nil) k1 ⟨e,e⟩


theorem zdc:∀ {a_s:(List GFld)} {zb9:GChk} {zcF:Tag} {zbl:Nat} {r:Int × GChk},zby a_s zb9 zcF=some r→Ctr Tryz.prog 179 [isv (a_s),clov 161 [immv (PtrB.mk zbl),immv (zcF)]] [boxE zbl (zb9:GChk)] (fun R H=>R=oneOf [isv (r.1)]∧H=[boxE zbl (r.2)]):=by
 intro a_s zb9 zcF zbl r h
 unfold zby at h
 refine zr Tryz.func179 e fun w0 S0 hT=>wsr (oA e (rnf (zp (wsr (oM e (oV (zaH (l:=a_s) e hI sl85) (oM e ?_)))))))
 refine rnf (zB (zbx (ι:=Int × GChk) (γ:=Unit) (fun q1 g1=>[(8,isv (q1.1))]) (fun q1 g1=>[boxE zbl (q1.2:GChk)]) h () (za (j:=8) e hI ze) k1 (fun L2 q1 g1 Q9 h hL2 eL2 rL2=>wsr (oV (zay e e) (rnf (zp (zg h e (fun _ h=>?_) (fun _ h=>?_))))))))
 ·refine wkf (zp (zB (wsr (oM e (oA e (rnf (wsr (oM e ?_))))))))
  refine oM e (oM e (zb h fun y6 hy6 h=>oV (zaz (l:=a_s) e hI e sl85 hy6) (oV (zd ty92 e) (zb h fun y7 hy7 h=>oT (zhm e (s1 e) (zfl hy7) hT k1 (fun R H' hR=>?_))))))
  obtain ⟨rfl,rfl⟩:=hR
  refine rnf (zg h e (fun _ h=>?_) (fun _ h=>?_))
  ·refine wsr (oM e (oA e (rnf (zD (zz (zx (rL2 _ (zz ?_))))))))
   refine zx ?_
   cases h
   exact zh (.tmp e .nil) k1 ⟨e,e⟩
  exact z6 (zq (zE (zt (zO h fun q8 h=>oV (zan e e q8) (oM e (zF (hL2 _ () h _ (jk 12 8 e e e))))))))
 refine zam (z8 (eL2 _ _ (zL (zE (wsr (oA e (rnf (zD ?_))))))))
 cases h
 exact zh (.tmp e .nil) k1 ⟨e,e⟩


theorem zcT:∀ {a_s:(List GFld)} {zb9:GChk} {zcF:Tag} {zbl:Nat} {r:Bool × GChk},zbj a_s zb9 zcF=some r→Ctr Tryz.prog 160 [isv (a_s),clov 161 [immv (PtrB.mk zbl),immv (zcF)]] [boxE zbl (zb9:GChk)] (fun R H=>R=oneOf [isv (r.1)]∧H=[boxE zbl (r.2)]):=by
 intro a_s zb9 zcF zbl r h
 unfold zbj at h
 refine zr Tryz.func160 e fun w0 S0 hT=>wsr (oA e (rnf (wsr (oM e (oM e (zb h fun y1 hy1 h=>oT (zA (zdc hy1) hT (s2 e e) k1 ?_)))))))
 refine oV (zcR e e) (oA e (rnf (zD ?_)))
 cases h
 exact zh (.tmp e .nil) k1 ⟨e,e⟩


theorem zdZ:∀ {a_c:GChk} {a_i:Int} {a_b:(List UInt8)} {zaW:Nat} {r:Tag × Bool × GChk},zcw a_c a_i a_b=some r→Ctr Tryz.prog 119 [ptrv zaW (Fld.id GChk),isv (a_i),isv (a_b)] [boxE zaW (a_c:GChk)] (fun R H=>R=oneOf [isv (r.1),isv (r.2.1)]∧H=[boxE zaW (r.2.2)]):=by
 intro a_c a_i a_b zaW r h
 unfold zcw at h
 refine zr Tryz.func119 e fun w0 S0 hT=>wsr (oT (zaw (y:=PtrB.mk zaW) e zmZ (oT (zag _ ze31 fun b1=>oA e (rnf (wsr (oM e (zb h fun y2 hy2 h=>?_))))))))
 refine oT (zA (zmq hy2) hT (s1 e) .nil (oM e (oV (z7 e e) (oV (z7 e e) (oV (z7 e e) (oV (z7 e e) (oV (z7 e e) (oT (zag _ ze31 fun b3=>oT (zo (y':=(y2.1:Tag)) ty31 e e hI .here e ?_))))))))))
 refine zaj (zaQ 8 .here e) (oA e (oA e (oA e (oA e (rnf (zp (wsr (oM e ?_))))))))
 refine oV (zbo e e) (oM e (zab (jb 31) je .nil h 5 e (fun q4 g4 h=>?_) (fun J5 h hJ5=>?_)))
 ·refine rnf (zg h e (fun _ h=>?_) (fun _ h=>?_))
  ·refine wsr (oV (zar (z:=(Tag.mk (0:Int) (0:Int))) e bu31 ze31 .nil) (oT (zo (y':=((Tag.mk (0:Int) (0:Int)):Tag)) ty31 e e hI .here e (oA e (rnf (zD (zx ?_)))))))
   cases h
   exact zh (.cell e .here ty31 (.tmp e .nil)) (.cons tH .nil) ⟨e,e⟩
  refine wkf (wsr (oV (zjJ (α:=GChk) ty99 e) (oV (zw e) (oV (zY e GChk.f0 zef) (oV (zY e GTbd.f0 zen) (oV (zY e GTab.f3 zeU) (oT (zH (R:=isv (a_c.tabled.t.types)) ty24 e tH hI (oM e ?_)))))))))
  refine zb h fun y7 hy7 h=>oV (zaz (l:=a_c.tabled.t.types) e hI e sl24 hy7) (oV (zd ty87 e) (oT (zag _ ze87 fun b8=>oT (zo (y':=(y7:GTyp)) ty87 e e hI .here e (zaj (zaQ 13 .here e) (oA e (rnf (zp ?_))))))))
  refine wsr (oV (zI e GTyp.f0 zdf e (z:=y7.kind)) (oV (zd ty3 e) (oV (zaa e e) (rnf (zdF (ι:=Int) (γ:=Unit) (fun q9 g9=>[(14,isv (q9))]) (fun q9 g9=>[]) .nil h (fun q9 g9 h=>?_) (fun J10 h hJ10=>?_))))))
  ·refine wsr (oV (zI e GTyp.f4 zbR e (z:=y7.fields)) (oV (zd ty85 e) (oM e (zak h fun q12 h=>oV (zfn (l:=y7.fields) e hI sl85 (.inr ⟨_,e,e⟩) (.inl ⟨e,e⟩) q12.1 q12.2.1 q12.2.2) (oV (zgd (s2 e e)) (zb h fun y13 hy13 h=>oT (zA (zcT hy13) hT (s2 e e) (.cons tH .nil) ?_)))))))
   refine oA e (rnf (wsr (oV (zd ty31 e) (oM e (oV (za2 e) (oT (zo (y':=(y2.1:Tag)) ty31 e e hI tH e (oA e (rnf ?_)))))))))
   refine zD ?_
   cases h
   exact zh (.cell e .here ty31 (.tmp e .nil)) (.cons tH .nil) ⟨e,e⟩
  refine zg h e (fun _ h=>?_) (fun _ h=>?_)
  ·exact zt (oV (zd ty87 e) (zb h fun y11 hy11 h=>oT (zA (zk0 hy11) hT (s1 e) .nil (oA e (zF (hJ10 _ () h _ (zf 3 e e (za (j:=14) e hI ze) k2)))))))
  exact z6 (hJ10 _ () h _ (zf 0 e e (za (j:=14) e hI ze) k2))
 refine zn (j:=26) h e (fun g6 h=>?_) (fun g6 h=>?_)
 ·exact oP 26 e e g6 (oP 26 e e g6 (oP 26 e e g6 (oP 26 e e g6 (oV (zi e g6 e) (hJ5 _ () h _ (zf 5 e e (za (j:=31) e hI ze) k2))))))
 exact oK 26 e e e g6 (zs e) (oK 26 e e e g6 (zs e) (oK 26 e e e g6 (zaH (l:=a_b) e hI sl42) (oK 26 e e e g6 (zbo e e) (oV (zj e g6 e) (hJ5 _ () h _ (zf 5 e e (za (j:=31) e hI ze) k2))))))


theorem zjk:∀ {a_y:GItem} {a_a1:Int} {r:Bool},zfN a_y a_a1=some r→Ctr Tryz.prog 122 [isv (a_y),immv (a_a1)] [] (fun R H=>R=oneOf [isv (r)]∧H=[]):=by
 intro a_y a_a1 r h
 unfold zfN at h
 refine zr Tryz.func122 e fun w0 S0 hT=>wsr (oT (zaw (y:=a_y) e hI (oA e (rnf (wsr (oV (zI e GItem.f1 zdV e (z:=a_y.number)) (oV (zd ty2 e) (oV (zd ty2 e) ?_))))))))
 refine oV (zaa e e) (oA e (rnf (zD ?_)))
 cases h
 exact zh (.tmp e .nil) .nil ⟨e,e⟩


theorem zdu:∀ {a_s:(List GItem)} {zb9:Int} {r:Int},zbE a_s zb9=some r→Ctr Tryz.prog 121 [isv (a_s),clov 122 [immv (zb9)]] [] (fun R H=>R=oneOf [isv (r)]∧H=[]):=by
 intro a_s zb9 r h
 unfold zbE at h
 refine zr Tryz.func121 e fun w0 S0 hT=>wsr (oA e (rnf (zp (wsr (oM e (oV (zaH (l:=a_s) e hI sl84) (oM e ?_)))))))
 refine rnf (zB (zbx (ι:=Int) (γ:=Unit) (fun q1 g1=>[(8,isv (q1))]) (fun q1 g1=>[]) h () (za (j:=8) e hI ze) .nil (fun L2 q1 g1 Q9 h hL2 eL2 rL2=>wsr (oV (zay e e) (rnf (zp (zg h e (fun _ h=>?_) (fun _ h=>?_))))))))
 ·refine wkf (zp (zB (wsr (oM e (oA e (rnf (wsr (oM e ?_))))))))
  refine oM e (oM e (zb h fun y6 hy6 h=>oV (zaz (l:=a_s) e hI e sl84 hy6) (oV (zd ty97 e) (zb h fun y7 hy7 h=>oT (zhm e (s1 e) (zjk hy7) hT .nil (fun R H' hR=>?_))))))
  obtain ⟨rfl,rfl⟩:=hR
  refine rnf (zg h e (fun _ h=>?_) (fun _ h=>?_))
  ·refine wsr (oM e (oA e (rnf (zD (zz (zx (rL2 _ (zz ?_))))))))
   refine zx ?_
   cases h
   exact zh (.tmp e .nil) .nil ⟨e,e⟩
  exact z6 (zq (zE (zt (zO h fun q8 h=>oV (zan e e q8) (oM e (zF (hL2 _ () h _ (ji 12 8 e e e))))))))
 refine zam (z8 (eL2 _ _ (zL (zE (wsr (oA e (rnf (zD ?_))))))))
 cases h
 exact zh (.tmp e .nil) .nil ⟨e,e⟩


theorem zip:∀ {a_x:GTyp} {a_n_:Int} {r:Int},zfm a_x a_n_=some r→Ctr Tryz.prog 85 [isv (a_x),isv (a_n_)] [] (fun R H=>R=oneOf [isv (r)]∧H=[]):=by
 intro a_x a_n_ r h
 unfold zfm at h
 refine zr Tryz.func85 e fun w0 S0 hT=>wsr (oT (zaw (y:=a_x) e hI (oT (zaw (y:=a_n_) e hI (oA e (rnf (wsr (oV (zI e GTyp.f3 ziR e (z:=a_x.items)) (oV (zd ty84 e) ?_)))))))))
 refine oV (zgd (s1 e)) (zb h fun y1 hy1 h=>oT (zA (zdu hy1) hT (s2 e e) .nil (oA e (rnf (zD ?_)))))
 cases h
 exact zh (.tmp e .nil) .nil ⟨e,e⟩


theorem ziH:∀ {a_b:(List UInt8)} {r:Bool},zgA a_b=some r→Ctr Tryz.prog 120 [isv (a_b)] [] (fun R H=>R=oneOf [isv (r)]∧H=[]):=by
 intro a_b r h
 unfold zgA at h
 refine zr Tryz.func120 e fun w0 S0 hT=>wsr (oA e (rnf (wsr (oM e (oV (zaH (l:=a_b) e hI sl42) (oV (zb1 e e) (oM e ?_)))))))
 refine zab (jb 10) je .nil h 4 e (fun q1 g1 h=>?_) (fun J2 h hJ2=>?_)
 ·refine oA e (rnf (zD ?_))
  cases h
  exact zh (.tmp e .nil) .nil ⟨e,e⟩
 refine zn (j:=6) h e (fun g3 h=>?_) (fun g3 h=>?_)
 ·exact oK 6 e e e g3 (zs e) (oK 6 e e e g3 (zaH (l:=a_b) e hI sl42) (oK 6 e e e g3 (zhL e e) (oV (zi e g3 e) (hJ2 _ () h _ (ji 4 10 e e e)))))
 exact oP 6 e e g3 (oP 6 e e g3 (oP 6 e e g3 (oV (zj e g3 e) (hJ2 _ () h _ (ji 4 10 e e e)))))


theorem zf3:∀ {a_c:GChk} {a_i:Int} {a_v:Val} {zaW:Nat} {r:Bool × GChk},zc3 a_c a_i a_v=some r→Ctr Tryz.prog 82 [ptrv zaW (Fld.id GChk),isv (a_i),isv (a_v)] [boxE zaW (a_c:GChk)] (fun R H=>R=oneOf [isv (r.1)]∧H=[boxE zaW (r.2)]):=by
 intro a_c a_i a_v zaW r h
 unfold zc3 at h
 refine zr Tryz.func82 e fun w0 S0 hT=>wsr (oT (zaw (y:=a_v) e hI (oA e (rnf (wsr (oM e (oV (zw e) (oV (zY e GChk.f0 zef) ?_))))))))
 refine oV (zY e GTbd.f0 zen) (oV (zY e GTab.f3 zeU) (oT (zH (R:=isv (a_c.tabled.t.types)) ty24 e .here hI (oM e (zb h fun y1 hy1 h=>oV (zaz (l:=a_c.tabled.t.types) e hI e sl24 hy1) (oV (zd ty87 e) (oT (zag _ ze87 fun b2=>oT (zo (y':=(y1:GTyp)) ty87 e e hI .here e ?_)))))))))
 refine zaj (zaQ 7 .here e) (rnf (wsr (oV (zI e GTyp.f0 zdf e (z:=y1.kind)) (oV (zd ty3 e) (oV (zaa e e) (oA e (rnf (zp ?_))))))))
 refine wsr (oV (zI e GTyp.f6 ziQ e (z:=y1.more)) (oV (zd ty4 e) (oV (za2 e) (oM e (zab (jb 35) je .nil h 8 e (fun q3 g3 h=>?_) (fun J4 h hJ4=>?_))))))
 ·refine oM e (zab (jb 45) je .nil h 9 e (fun q9 g9 h=>?_) (fun J10 h hJ10=>?_))
  ·refine rnf (zg h e (fun _ h=>?_) (fun _ h=>?_))
   ·refine wsr (oA e (rnf (zD (zx ?_))))
    cases h
    exact zh (.tmp e .nil) k1 ⟨e,e⟩
   refine wkf (zp (wsr (oM e (oV (zw e) (oV (zY e GChk.f1 zpl) (oT (zH (R:=isv (a_c.bare)) ty4 e .here hI (rnf (zg h e (fun _ h=>?_) (fun _ h=>?_))))))))))
   ·refine wsr (oV (zI e Val.f1 zcx e (z:=a_v.n)) (oV (zd ty2 e) (oV (zaa e e) (oM e (zab (jb 58) je .nil h 5 e (fun q13 g13 h=>?_) (fun J14 h hJ14=>?_))))))
    ·refine oM e (zab (jb 63) je .nil h 4 e (fun q16 g16 h=>?_) (fun J17 h hJ17=>?_))
     ·refine oA e (rnf (zD (zx ?_)))
      cases h
      exact zh (.tmp e .nil) k1 ⟨e,e⟩
     refine zn (j:=59) h e (fun g18 h=>?_) (fun g18 h=>?_)
     ·exact oK 59 e e e g18 (zI e Val.f4 zft e (z:=a_v.rule)) (oK 59 e e e g18 (zd ty3 e) (oK 59 e e e g18 (zaa e e) (oV (zi e g18 e) (hJ17 _ () h _ (jk 4 63 e e e)))))
     exact oP 59 e e g18 (oP 59 e e g18 (oP 59 e e g18 (oV (zj e g18 e) (hJ17 _ () h _ (jk 4 63 e e e)))))
    refine zn (j:=53) h e (fun g15 h=>?_) (fun g15 h=>?_)
    ·exact oK 53 e e e g15 (zI e Val.f2 zc5 e (z:=a_v.b)) (oK 53 e e e g15 (zd ty42 e) (oK 53 e e e g15 (zaH (l:=a_v.b) e hI sl42) (oK 53 e e e g15 (zaa e e) (oV (zi e g15 e) (hJ14 _ () h _ (jk 5 58 e e e))))))
    exact oP 53 e e g15 (oP 53 e e g15 (oP 53 e e g15 (oP 53 e e g15 (oV (zj e g15 e) (hJ14 _ () h _ (jk 5 58 e e e))))))
   refine wkf (wsr (oV (zI e GTyp.f3 ziR e (z:=y1.items)) (oV (zd ty84 e) (oV (zaH (l:=y1.items) e hI sl84) (oV (zI e GTyp.f4 zbR e (z:=y1.fields)) (oV (zd ty85 e) (oV (zaH (l:=y1.fields) e hI sl85) (zO h fun q19 h=>?_))))))))
   refine oV (zan e e q19) (oV (zI e GTyp.f5 zg9 e (z:=y1.root)) (oV (zd ty3 e) (zO h fun q20 h=>oV (zfo e e q20) (oA e (rnf (zp (zB ?_)))))))
   refine wsr (oV (zI e Val.f4 zft e (z:=a_v.rule)) (oV (zd ty3 e) (oV (zaa e e) (oM e (zab (jb 80) je .nil h 2 e (fun q21 g21 h=>?_) (fun J22 h hJ22=>?_))))))
   ·refine oA e (rnf (zg h e (fun _ h=>?_) (fun _ h=>?_)))
    ·refine wsr (oM e (oM e (oV (zI e Val.f2 zc5 e (z:=a_v.b)) (oV (zd ty42 e) (zb h fun y24 hy24 h=>oT (zA (zdZ hy24) hT (s3 e e e) k1 (oM e (oV (z7 e e) ?_))))))))
     refine oV (z7 e e) (oT (zag _ ze31 fun b25=>oT (zo (y':=(y24.1:Tag)) ty31 e e hI .here e (zaj (zaQ 10 .here e) (oA e (rnf (wsr (oM e (oM e ?_)))))))))
     refine zab (jb 94) je .nil h 4 e (fun q26 g26 h=>?_) (fun J27 h hJ27=>?_)
     ·refine oA e (rnf (zD (zz (zx ?_))))
      cases h
      exact zh (.tmp e .nil) k1 ⟨e,e⟩
     refine zn (j:=90) h e (fun g28 h=>?_) (fun g28 h=>?_)
     ·exact oK 90 e e e g28 (zI e Val.f1 zcx e (z:=a_v.n)) (oK 90 e e e g28 (zd ty2 e) (oK 90 e e e g28 (zaa e e) (oV (zi e g28 e) (hJ27 _ () h _ (jk 4 94 e e e)))))
     exact oP 90 e e g28 (oP 90 e e g28 (oP 90 e e g28 (oV (zj e g28 e) (hJ27 _ () h _ (jk 4 94 e e e)))))
    refine wsr (oV (zI e Val.f4 zft e (z:=a_v.rule)) (oV (zd ty3 e) (oV (zaa e e) (oA e (rnf (zg h e (fun _ h=>?_) (fun _ h=>?_)))))))
    ·refine wsr (oV (zI e Val.f2 zc5 e (z:=a_v.b)) (oV (zd ty42 e) (oV (zaH (l:=a_v.b) e hI sl42) (oV (zaa e e) (oM e (zab (jb 109) je .nil h 6 e (fun q29 g29 h=>?_) (fun J30 h hJ30=>?_)))))))
     ·refine oA e (rnf (zD (zz (zx ?_))))
      cases h
      exact zh (.tmp e .nil) k1 ⟨e,e⟩
     refine zn (j:=103) h e (fun g31 h=>?_) (fun g31 h=>?_)
     ·exact oK 103 e e e g31 (zd ty87 e) (oK 103 e e e g31 (zI e Val.f1 zcx e (z:=a_v.n)) (oK 103 e e e g31 (zd ty2 e) (zb h fun y32 hy32 h=>zai e e (dj:=103) e g31 (zA (zip hy32) hT (s2 e e) .nil (oK 103 e e e g31 (zay e e) (oV (zi e g31 e) (hJ30 _ () h _ (jk 6 109 e e e))))))))
     exact oP 103 e e g31 (oP 103 e e g31 (oP 103 e e g31 (oP 103 e e g31 (oP 103 e e g31 (oV (zj e g31 e) (hJ30 _ () h _ (jk 6 109 e e e)))))))
    refine wsr (oV (zI e Val.f4 zft e (z:=a_v.rule)) (oV (zd ty3 e) (oV (zbo e e) (oM e (zab (jb 119) je .nil h 5 e (fun q33 g33 h=>?_) (fun J34 h hJ34=>?_))))))
    ·refine oM e (zab (jb 124) je .nil h 4 e (fun q36 g36 h=>?_) (fun J37 h hJ37=>?_))
     ·refine oA e (rnf (zg h e (fun _ h=>?_) (fun _ h=>?_)))
      ·refine wsr (oA e (rnf (zD (zz (zx ?_)))))
       cases h
       exact zh (.tmp e .nil) k1 ⟨e,e⟩
      refine wsr (oM e (oA e (rnf (zg h e (fun _ h=>?_) (fun _ h=>?_)))))
      ·refine wsr (oV (zI e Val.f2 zc5 e (z:=a_v.b)) (oV (zd ty42 e) (zb h fun y39 hy39 h=>oT (zA (ziH hy39) hT (s1 e) .nil (oA e (rnf (zD (zz ?_))))))))
       refine zx ?_
       cases h
       exact zh (.tmp e .nil) k1 ⟨e,e⟩
      refine z6 (zq (zE (wsr (oV (zI e Val.f2 zc5 e (z:=a_v.b)) (oV (zd ty42 e) (oV (zaH (l:=a_v.b) e hI sl42) (oV (zaa e e) (oA e ?_))))))))
      refine rnf (zD ?_)
      cases h
      exact zh (.tmp e .nil) k1 ⟨e,e⟩
     refine zn (j:=120) h e (fun g38 h=>?_) (fun g38 h=>?_)
     ·exact oP 120 e e g38 (oP 120 e e g38 (oP 120 e e g38 (oV (zi e g38 e) (hJ37 _ () h _ (jk 4 124 e e e)))))
     exact oK 120 e e e g38 (zI e Val.f1 zcx e (z:=a_v.n)) (oK 120 e e e g38 (zd ty2 e) (oK 120 e e e g38 (zcR e e) (oV (zj e g38 e) (hJ37 _ () h _ (jk 4 124 e e e)))))
    refine zn (j:=114) h e (fun g35 h=>?_) (fun g35 h=>?_)
    ·exact oP 114 e e g35 (oP 114 e e g35 (oP 114 e e g35 (oP 114 e e g35 (oV (zi e g35 e) (hJ34 _ () h _ (jk 5 119 e e e))))))
    exact oK 114 e e e g35 (zI e Val.f1 zcx e (z:=a_v.n)) (oK 114 e e e g35 (zd ty2 e) (oK 114 e e e g35 (zs e) (oK 114 e e e g35 (zay e e) (oV (zj e g35 e) (hJ34 _ () h _ (jk 5 119 e e e))))))
   refine zn (j:=78) h e (fun g23 h=>?_) (fun g23 h=>?_)
   ·exact oK 78 e e e g23 (zs e) (oV (zi e g23 e) (hJ22 _ () h _ (jk 2 80 e e e)))
   exact oP 78 e e g23 (oV (zj e g23 e) (hJ22 _ () h _ (jk 2 80 e e e)))
  refine zn (j:=36) h e (fun g11 h=>?_) (fun g11 h=>?_)
  ·refine oP 36 e e g11 (oP 36 e e g11 (oP 36 e e g11 (oP 36 e e g11 (oP 36 e e g11 (oP 36 e e g11 (oP 36 e e g11 (oP 36 e e g11 (oV (zi e g11 e) ?_))))))))
   exact hJ10 _ () h _ (jk 9 45 e e e)
  refine oK 36 e e e g11 (zI e Val.f3 zet e (z:=a_v.l)) (oK 36 e e e g11 (zd ty43 e) (oK 36 e e e g11 (zaH (l:=a_v.l) e hI sl43) (oK 36 e e e g11 (zI e Val.f5 ziS e (z:=a_v.more)) (oK 36 e e e g11 (zd ty44 e) (oK 36 e e e g11 (zaH (l:=a_v.more) e hI sl44) (zO h fun q12 h=>oK 36 e e e g11 (zan e e q12) (oK 36 e e e g11 (zb1 e e) ?_)))))))
  exact oV (zj e g11 e) (hJ10 _ () h _ (jk 9 45 e e e))
 refine zn (j:=27) h e (fun g5 h=>?_) (fun g5 h=>?_)
 ·exact oP 27 e e g5 (oP 27 e e g5 (oP 27 e e g5 (zk e (dj:=30) e (zk e (dj:=30) e (zk e (dj:=30) e (oP 27 e e g5 (oV (zi e g5 e) (hJ4 _ () h _ (jk 8 35 e e e)))))))))
 refine oK 27 e e e g5 (zs e) (oK 27 e e e g5 (za2 e) (oK 27 e e e g5 (zs e) (zab (jb 34) je .nil h 4 e (fun q6 g6 h=>?_) (fun J7 h hJ7=>?_))))
 ·exact oV (zj e g5 e) (hJ4 _ () h _ (jk 5 35 e e e))
 refine zn (j:=30) h e (fun g8 h=>?_) (fun g8 h=>?_)
 ·exact oK 30 e e e g8 (zI e GTyp.f0 zdf e (z:=y1.kind)) (oK 30 e e e g8 (zd ty3 e) (oK 30 e e e g8 (zbo e e) (oK 27 e e e g5 (zi e g8 e) (hJ7 _ () h _ (jk 4 34 e e e)))))
 exact oP 30 e e g8 (oP 30 e e g8 (oP 30 e e g8 (oK 27 e e e g5 (zj e g8 e) (hJ7 _ () h _ (jk 4 34 e e e)))))


theorem zb8:∀ {a_v:Val} {zeX:Int} {r:Bool},zaU a_v zeX=some r→Ctr Tryz.prog 83 [isv (a_v),isv (zeX)] [] (fun R H=>R=oneOf [isv (r)]∧H=[]):=by
 intro a_v zeX r h
 unfold zaU at h
 refine zr Tryz.func83 e fun w0 S0 hT=>wsr (oT (zaw (y:=a_v) e hI (oA e (rnf (wsr (oM e (zak h fun q1 h=>oV (zkZ e e q1.1 q1.2) ?_)))))))
 refine oV (zbo e e) (oM e (zab (jb 12) je .nil h 4 e (fun q2 g2 h=>?_) (fun J3 h hJ3=>?_)))
 ·refine oM e (zab (jb 23) je .nil h 10 e (fun q5 g5 h=>?_) (fun J6 h hJ6=>?_))
  ·refine oM e (zab (jb 34) je .nil h 10 e (fun q12 g12 h=>?_) (fun J13 h hJ13=>?_))
   ·refine oM e (zab (jb 50) je .nil h 15 e (fun q19 g19 h=>?_) (fun J20 h hJ20=>?_))
    ·refine oA e (rnf (zD ?_))
     cases h
     exact zh (.tmp e .nil) .nil ⟨e,e⟩
    refine zn (j:=35) h e (fun g21 h=>?_) (fun g21 h=>?_)
    ·refine oK 35 e e e g21 (zs e) (zak h fun q22 h=>oK 35 e e e g21 (zkZ e e q22.1 q22.2) (oK 35 e e e g21 (zbo e e) (oK 35 e e e g21 (zs e) (zab (jb 49) je .nil h 10 e (fun q23 g23 h=>?_) (fun J24 h hJ24=>?_)))))
     ·exact oV (zi e g21 e) (hJ20 _ () h _ (ji 6 50 e e e))
     refine zn (j:=39) h e (fun g25 h=>?_) (fun g25 h=>?_)
     ·refine oP 39 e e g25 (oP 39 e e g25 (oP 39 e e g25 (oP 39 e e g25 (zk e (dj:=43) e (zk e (dj:=43) e (zk e (dj:=43) e (zk e (dj:=43) e (oP 39 e e g25 ?_))))))))
      exact oK 35 e e e g21 (zi e g25 e) (hJ24 _ () h _ (ji 10 49 e e e))
     refine oK 39 e e e g25 (zI e Val.f4 zft e (z:=a_v.rule)) (oK 39 e e e g25 (zd ty3 e) (oK 39 e e e g25 (zaa e e) (oK 39 e e e g25 (zs e) (zab (jb 48) je .nil h 5 e (fun q26 g26 h=>?_) (fun J27 h hJ27=>?_)))))
     ·exact oK 35 e e e g21 (zj e g25 e) (hJ24 _ () h _ (ji 6 49 e e e))
     refine zn (j:=43) h e (fun g28 h=>?_) (fun g28 h=>?_)
     ·exact oK 43 e e e g28 (zI e Val.f5 ziS e (z:=a_v.more)) (oK 43 e e e g28 (zd ty44 e) (oK 43 e e e g28 (zaH (l:=a_v.more) e hI sl44) (oK 43 e e e g28 (zaa e e) (oK 39 e e e g25 (zi e g28 e) (hJ27 _ () h _ (ji 5 48 e e e))))))
     exact oP 43 e e g28 (oP 43 e e g28 (oP 43 e e g28 (oP 43 e e g28 (oK 39 e e e g25 (zj e g28 e) (hJ27 _ () h _ (ji 5 48 e e e))))))
    refine oP 35 e e g21 (oP 35 e e g21 (oP 35 e e g21 (oP 35 e e g21 (zk e (dj:=39) e (zk e (dj:=39) e (zk e (dj:=39) e (zk e (dj:=39) e (zk e (dj:=43) e ?_))))))))
    exact zk e (dj:=43) e (zk e (dj:=43) e (zk e (dj:=43) e (zk e (dj:=39) e (oP 35 e e g21 (oV (zj e g21 e) (hJ20 _ () h _ (ji 15 50 e e e)))))))
   refine zn (j:=24) h e (fun g14 h=>?_) (fun g14 h=>?_)
   ·refine oK 24 e e e g14 (zs e) (zak h fun q15 h=>oK 24 e e e g14 (zkZ e e q15.1 q15.2) (oK 24 e e e g14 (zbo e e) (oK 24 e e e g14 (zs e) (zab (jb 33) je .nil h 5 e (fun q16 g16 h=>?_) (fun J17 h hJ17=>?_)))))
    ·exact oV (zi e g14 e) (hJ13 _ () h _ (ji 6 34 e e e))
    refine zn (j:=28) h e (fun g18 h=>?_) (fun g18 h=>?_)
    ·exact oP 28 e e g18 (oP 28 e e g18 (oP 28 e e g18 (oP 28 e e g18 (oK 24 e e e g14 (zi e g18 e) (hJ17 _ () h _ (ji 5 33 e e e))))))
    exact oK 28 e e e g18 (zI e Val.f3 zet e (z:=a_v.l)) (oK 28 e e e g18 (zd ty43 e) (oK 28 e e e g18 (zaH (l:=a_v.l) e hI sl43) (oK 28 e e e g18 (zaa e e) (oK 24 e e e g14 (zj e g18 e) (hJ17 _ () h _ (ji 5 33 e e e))))))
   refine oP 24 e e g14 (oP 24 e e g14 (oP 24 e e g14 (oP 24 e e g14 (zk e (dj:=28) e (zk e (dj:=28) e (zk e (dj:=28) e (zk e (dj:=28) e (oP 24 e e g14 ?_))))))))
   exact oV (zj e g14 e) (hJ13 _ () h _ (ji 10 34 e e e))
  refine zn (j:=13) h e (fun g7 h=>?_) (fun g7 h=>?_)
  ·refine oK 13 e e e g7 (zs e) (zak h fun q8 h=>oK 13 e e e g7 (zkZ e e q8.1 q8.2) (oK 13 e e e g7 (zbo e e) (oK 13 e e e g7 (zs e) (zab (jb 22) je .nil h 5 e (fun q9 g9 h=>?_) (fun J10 h hJ10=>?_)))))
   ·exact oV (zi e g7 e) (hJ6 _ () h _ (ji 6 23 e e e))
   refine zn (j:=17) h e (fun g11 h=>?_) (fun g11 h=>?_)
   ·exact oP 17 e e g11 (oP 17 e e g11 (oP 17 e e g11 (oP 17 e e g11 (oK 13 e e e g7 (zi e g11 e) (hJ10 _ () h _ (ji 5 22 e e e))))))
   exact oK 17 e e e g11 (zI e Val.f2 zc5 e (z:=a_v.b)) (oK 17 e e e g11 (zd ty42 e) (oK 17 e e e g11 (zaH (l:=a_v.b) e hI sl42) (oK 17 e e e g11 (zaa e e) (oK 13 e e e g7 (zj e g11 e) (hJ10 _ () h _ (ji 5 22 e e e))))))
  refine oP 13 e e g7 (oP 13 e e g7 (oP 13 e e g7 (oP 13 e e g7 (zk e (dj:=17) e (zk e (dj:=17) e (zk e (dj:=17) e (zk e (dj:=17) e (oP 13 e e g7 ?_))))))))
  exact oV (zj e g7 e) (hJ6 _ () h _ (ji 10 23 e e e))
 refine zn (j:=8) h e (fun g4 h=>?_) (fun g4 h=>?_)
 ·exact oP 8 e e g4 (oP 8 e e g4 (oP 8 e e g4 (oV (zi e g4 e) (hJ3 _ () h _ (ji 4 12 e e e)))))
 exact oK 8 e e e g4 (zI e Val.f1 zcx e (z:=a_v.n)) (oK 8 e e e g4 (zd ty2 e) (oK 8 e e e g4 (zaa e e) (oV (zj e g4 e) (hJ3 _ () h _ (ji 4 12 e e e)))))


theorem zeY:∀ {a_c:GCon} {a_v:Int} {r:Bool},zck a_c a_v=some r→Ctr Tryz.prog 84 [isv (a_c),isv (a_v)] [] (fun R H=>R=oneOf [isv (r)]∧H=[]):=by
 intro a_c a_v r h
 unfold zck at h
 refine zr Tryz.func84 e fun w0 S0 hT=>wsr (oT (zaw (y:=a_c) e hI (oA e (rnf (wsr (oV (zI e GCon.f0 zkN e (z:=a_c.has)) (oV (zd ty4 e) (oV (za2 e) ?_))))))))
 refine oM e (zab (jb 29) je .nil h 21 e (fun q1 g1 h=>?_) (fun J2 h hJ2=>?_))
 ·refine oA e (rnf (zD ?_))
  cases h
  exact zh (.tmp e .nil) .nil ⟨e,e⟩
 refine zn (j:=8) h e (fun g3 h=>?_) (fun g3 h=>?_)
 ·refine oP 8 e e g3 (oP 8 e e g3 (oP 8 e e g3 (oP 8 e e g3 (zk e (dj:=12) e (zk e (dj:=12) e (zk e (dj:=12) e (zk e (dj:=12) e (oP 8 e e g3 ?_))))))))
  refine oP 8 e e g3 (zk e (dj:=18) e (zk e (dj:=18) e (zk e (dj:=18) e (zk e (dj:=18) e (zk e (dj:=22) e (zk e (dj:=22) e (zk e (dj:=22) e (zk e (dj:=22) e ?_))))))))
  exact zk e (dj:=18) e (oP 8 e e g3 (oV (zi e g3 e) (hJ2 _ () h _ (ji 21 29 e e e))))
 refine oK 8 e e e g3 (zI e GCon.f1 ziO e (z:=a_c.hasLow)) (oK 8 e e e g3 (zd ty4 e) (oK 8 e e e g3 (za2 e) (oK 8 e e e g3 (zs e) (zab (jb 17) je .nil h 5 e (fun q4 g4 h=>?_) (fun J5 h hJ5=>?_)))))
 ·refine oK 8 e e e g3 (zs e) (zab (jb 28) je .nil h 10 e (fun q7 g7 h=>?_) (fun J8 h hJ8=>?_))
  ·exact oV (zj e g3 e) (hJ2 _ () h _ (ji 8 29 e e e))
  refine zn (j:=18) h e (fun g9 h=>?_) (fun g9 h=>?_)
  ·refine oK 18 e e e g9 (zI e GCon.f2 ziZ e (z:=a_c.hasHigh)) (oK 18 e e e g9 (zd ty4 e) (oK 18 e e e g9 (za2 e) (oK 18 e e e g9 (zs e) (zab (jb 27) je .nil h 5 e (fun q10 g10 h=>?_) (fun J11 h hJ11=>?_)))))
   ·exact oK 8 e e e g3 (zi e g9 e) (hJ8 _ () h _ (ji 6 28 e e e))
   refine zn (j:=22) h e (fun g12 h=>?_) (fun g12 h=>?_)
   ·exact oP 22 e e g12 (oP 22 e e g12 (oP 22 e e g12 (oP 22 e e g12 (oK 18 e e e g9 (zi e g12 e) (hJ11 _ () h _ (ji 5 27 e e e))))))
   exact oK 22 e e e g12 (zs e) (oK 22 e e e g12 (zI e GCon.f5 zig e (z:=a_c.high)) (oK 22 e e e g12 (zd ty2 e) (oK 22 e e e g12 (zhL e e) (oK 18 e e e g9 (zj e g12 e) (hJ11 _ () h _ (ji 5 27 e e e))))))
  refine oP 18 e e g9 (oP 18 e e g9 (oP 18 e e g9 (oP 18 e e g9 (zk e (dj:=22) e (zk e (dj:=22) e (zk e (dj:=22) e (zk e (dj:=22) e (oP 18 e e g9 ?_))))))))
  exact oK 8 e e e g3 (zj e g9 e) (hJ8 _ () h _ (ji 10 28 e e e))
 refine zn (j:=12) h e (fun g6 h=>?_) (fun g6 h=>?_)
 ·exact oP 12 e e g6 (oP 12 e e g6 (oP 12 e e g6 (oP 12 e e g6 (oK 8 e e e g3 (zi e g6 e) (hJ5 _ () h _ (ji 5 17 e e e))))))
 exact oK 12 e e e g6 (zs e) (oK 12 e e e g6 (zI e GCon.f4 zh0 e (z:=a_c.low)) (oK 12 e e e g6 (zd ty2 e) (oK 12 e e e g6 (zcR e e) (oK 8 e e e g3 (zj e g6 e) (hJ5 _ () h _ (ji 5 17 e e e))))))


theorem zgn:∀ {a_c:GChk} {a_x:GTyp} {a_v:Val} {zaW:Nat} {r:Bool × GChk},zbK a_c a_x a_v=some r→Ctr Tryz.prog 86 [ptrv zaW (Fld.id GChk),isv (a_x),isv (a_v)] [boxE zaW (a_c:GChk)] (fun R H=>R=oneOf [isv (r.1)]∧H=[boxE zaW (r.2)]):=by
 intro a_c a_x a_v zaW r h
 unfold zbK at h
 refine zr Tryz.func86 e fun w0 S0 hT=>wsr (oT (zaw (y:=a_x) e hI (oT (zaw (y:=a_v) e hI (oA e (rnf (wsr (oV (zd ty46 e) (zb h fun y1 hy1 h=>?_)))))))))
 refine oT (zA (zb8 hy1) hT (s2 e e) .nil (oM e (zab (jb 14) je .nil h 5 e (fun q2 g2 h=>?_) (fun J3 h hJ3=>?_))))
 ·refine oM e (zab (jb 27) je .nil h 12 e (fun q5 g5 h=>?_) (fun J6 h hJ6=>?_))
  ·refine oM e (zab (jb 37) je .nil h 9 e (fun q12 g12 h=>?_) (fun J13 h hJ13=>?_))
   ·refine oA e (rnf (zD ?_))
    cases h
    exact zh (.tmp e .nil) k1 ⟨e,e⟩
   refine zn (j:=28) h e (fun g14 h=>?_) (fun g14 h=>?_)
   ·refine oK 28 e e e g14 (zI e GTyp.f0 zdf e (z:=a_x.kind)) (oK 28 e e e g14 (zd ty3 e) (oK 28 e e e g14 (zaa e e) (oK 28 e e e g14 (zs e) (zab (jb 36) je .nil h 4 e (fun q15 g15 h=>?_) (fun J16 h hJ16=>?_)))))
    ·exact oV (zi e g14 e) (hJ13 _ () h _ (jk 6 37 e e e))
    refine zn (j:=32) h e (fun g17 h=>?_) (fun g17 h=>?_)
    ·exact oP 32 e e g17 (oP 32 e e g17 (oP 32 e e g17 (oK 28 e e e g14 (zi e g17 e) (hJ16 _ () h _ (jk 4 36 e e e)))))
    exact oK 32 e e e g17 (zI e Val.f2 zc5 e (z:=a_v.b)) (oK 32 e e e g17 (zd ty42 e) (zb h fun y18 hy18 h=>zai e e (dj:=32) e g17 (zA (ziB hy18) hT (s1 e) .nil (oK 28 e e e g14 (zj e g17 e) (hJ16 _ () h _ (jk 4 36 e e e))))))
   refine oP 28 e e g14 (oP 28 e e g14 (oP 28 e e g14 (oP 28 e e g14 (zk e (dj:=32) e (zk e (dj:=32) e (zk e (dj:=32) e (oP 28 e e g14 (oV (zj e g14 e) ?_))))))))
   exact hJ13 _ () h _ (jk 9 37 e e e)
  refine zn (j:=15) h e (fun g7 h=>?_) (fun g7 h=>?_)
  ·refine oK 15 e e e g7 (zI e GTyp.f2 zgv e (z:=a_x.con)) (oK 15 e e e g7 (zI e GCon.f3 zk1 e (z:=a_x.con.more)) (oK 15 e e e g7 (zd ty4 e) (oK 15 e e e g7 (zs e) (zab (jb 26) je .nil h 7 e (fun q8 g8 h=>?_) (fun J9 h hJ9=>?_)))))
   ·exact oV (zi e g7 e) (hJ6 _ () h _ (jk 6 27 e e e))
   refine zn (j:=19) h e (fun g10 h=>?_) (fun g10 h=>?_)
   ·exact oP 19 e e g10 (oP 19 e e g10 (oP 19 e e g10 (oP 19 e e g10 (oP 19 e e g10 (oP 19 e e g10 (oK 15 e e e g7 (zi e g10 e) (hJ9 _ () h _ (jk 7 26 e e e))))))))
   exact oK 19 e e e g10 (zI e GTyp.f2 zgv e (z:=a_x.con)) (oK 19 e e e g10 (zd ty83 e) (oK 19 e e e g10 (zI e Val.f2 zc5 e (z:=a_v.b)) (oK 19 e e e g10 (zd ty42 e) (oK 19 e e e g10 (zaH (l:=a_v.b) e hI sl42) (zb h fun y11 hy11 h=>zai e e (dj:=19) e g10 (zA (zeY hy11) hT (s2 e e) .nil (oK 15 e e e g7 (zj e g10 e) (hJ9 _ () h _ (jk 7 26 e e e)))))))))
  refine oP 15 e e g7 (oP 15 e e g7 (oP 15 e e g7 (oP 15 e e g7 (zk e (dj:=19) e (zk e (dj:=19) e (zk e (dj:=19) e (zk e (dj:=19) e (zk e (dj:=19) e ?_))))))))
  exact zk e (dj:=19) e (oP 15 e e g7 (oV (zj e g7 e) (hJ6 _ () h _ (jk 12 27 e e e))))
 refine zn (j:=9) h e (fun g4 h=>?_) (fun g4 h=>?_)
 ·exact oK 9 e e e g4 (zI e Val.f2 zc5 e (z:=a_v.b)) (oK 9 e e e g4 (zd ty42 e) (oK 9 e e e g4 (zaH (l:=a_v.b) e hI sl42) (oK 9 e e e g4 (zhL e e) (oV (zi e g4 e) (hJ3 _ () h _ (jk 5 14 e e e))))))
 exact oP 9 e e g4 (oP 9 e e g4 (oP 9 e e g4 (oP 9 e e g4 (oV (zj e g4 e) (hJ3 _ () h _ (jk 5 14 e e e))))))


theorem zkl:∀ {a_t:GTab} {a_i:Int} {r:GTyp},zha a_t a_i=some r→Ctr Tryz.prog 47 [isv (a_t),isv (a_i)] [] (fun R H=>R=oneOf [isv (r)]∧H=[]):=by
 intro a_t a_i r h
 unfold zha at h
 refine zr Tryz.func47 e fun w0 S0 hT=>wsr (oT (zaw (y:=a_t) e hI (oT (zag _ ze87 fun b1=>rnf (zp (wsr (oM e (oV (zay e e) ?_))))))))
 refine oM e (zab (jb 13) je .nil h 6 e (fun q2 g2 h=>?_) (fun J3 h hJ3=>?_))
 ·refine rnf (zg h e (fun _ h=>?_) (fun _ h=>?_))
  ·refine wsr (oV (zar (z:=(GTyp.mk (0:Int) ([]:(List Tag)) (GCon.mk false false false false (0:Int) (0:Int)) ([]:(List GItem)) ([]:(List GFld)) (0:Int) false (0:Int))) e bu87 ze87 .nil) (oT (zo (y':=((GTyp.mk (0:Int) ([]:(List Tag)) (GCon.mk false false false false (0:Int) (0:Int)) ([]:(List GItem)) ([]:(List GFld)) (0:Int) false (0:Int)):GTyp)) ty87 e e hI .here e (rnf (zD (zx ?_))))))
   cases h
   exact zh (.cell e .here ty87 .nil) .nil ⟨e,e⟩
  refine wkf (wsr (oV (zI e GTab.f3 zeU e (z:=a_t.types)) (oV (zd ty24 e) (oM e (zb h fun y5 hy5 h=>oV (zaz (l:=a_t.types) e hI e sl24 hy5) (oV (zd ty87 e) (oT (zo (y':=(y5:GTyp)) ty87 e e hI .here e ?_))))))))
  refine rnf (zD ?_)
  cases h
  exact zh (.cell e .here ty87 .nil) .nil ⟨e,e⟩
 refine zn (j:=7) h e (fun g4 h=>?_) (fun g4 h=>?_)
 ·exact oP 7 e e g4 (oP 7 e e g4 (oP 7 e e g4 (oP 7 e e g4 (oP 7 e e g4 (oV (zi e g4 e) (hJ3 _ () h _ (jk 6 13 e e e)))))))
 exact oK 7 e e e g4 (zs e) (oK 7 e e e g4 (zI e GTab.f3 zeU e (z:=a_t.types)) (oK 7 e e e g4 (zd ty24 e) (oK 7 e e e g4 (zaH (l:=a_t.types) e hI sl24) (oK 7 e e e g4 (zcR e e) (oV (zj e g4 e) (hJ3 _ () h _ (jk 6 13 e e e)))))))


theorem zjP:∀ {zd9:Int} {a_to:Int} {r:(List Int)},zgG zd9 a_to=some r→Ctr Tryz.prog 48 [isv (zd9),isv (a_to)] [] (fun R H=>∃ u1:Vt,R=oneOf [vecv u1 ((r).length)]∧H=[vecE u1 (r)]):=by
 intro zd9 a_to r h
 unfold zgG at h
 refine zr Tryz.func48 e fun w0 S0 hT=>wsr (oA e (zaj (zgH (α:=Int)) (zaj (zbW 4 e nilvV) (rnf (wsr (oA e (zaj (zgH (α:=Int)) ?_)))))))
 refine zaj (zbW 5 e nilvV) (rnf (zp (wsr (oM e (oA e (rnf (zB (zbx (ι:=(List Int) × Int) (γ:=Vt) (fun q3 g3=>[(5,vecv g3 (q3.1.length)),(6,isv (q3.2))]) (fun q3 g3=>[vecE g3 (q3.1:List Int)]) h (none) (za (j:=5) e (vecvE (by first | rfl | simp)) (za (j:=6) e hI ze)) k1 (fun L4 q3 g3 Q13 h hL4 eL4 rL4=>?_)))))))))
 refine zp (wsr (oM e (oM e (oV (zay e e) (rnf (zg h e (fun _ h=>?_) (fun _ h=>?_)))))))
 ·refine wkf (zp (zB (zt (oM e (oM e (oT (zZ (l:=([q3.2]:(List Int))) el23 (.cons e hI .nil) e e (zaf h fun q11 h=>oT (zim (m:=([q3.2]:(List Int))) zd6 e e zQ .here (by first | rfl | simp) q11 fun v10=>?_)))))))))
  refine oA e (zF (zq (zE (zt (oM e (zO h fun q12 h=>oV (zan e e q12) (oA e ?_)))))))
  exact zF (hL4 _ (v10) h _ (zf 13 e e (za (j:=5) e (vecvE (by first | rfl | simp)) (za (j:=6) e hI ze)) k2))
 refine zam (z8 (eL4 _ _ (zL (zE (wsr (oM e (oA e (rnf ?_))))))))
 refine zD (zh (.as e (vecvE (by first | rfl | simp)) .nil) k1 ?_)
 cases h
 exact ⟨g3,e,e⟩


theorem zhI:∀ {a_t:GTab} {a_i:Int} {r:(List (List Int))},zfH a_t a_i=some r→Ctr Tryz.prog 21 [isv (a_t),isv (a_i)] [] (fun R H=>R=oneOf [isv (r)]∧H=[]):=by
 intro a_t a_i r h
 unfold zfH at h
 refine zr Tryz.func21 e fun w0 S0 hT=>wsr (oT (zaw (y:=a_t) e hI (oA e (zaj (zbh) (zaj (zgH (α:=NL Int)) (zaj (zbW 4 e nilvV) (rnf (wsr ?_))))))))
 refine oV (zd ty26 e) (oM e (zb h fun y3 hy3 h=>oT (zA (zkl hy3) hT (s2 e e) .nil (oT (zag _ ze87 fun b4=>oT (zo (y':=(y3:GTyp)) ty87 e e hI .here e (zaj (zaQ 5 .here e) (rnf (zp ?_)))))))))
 refine wsr (oV (zI e GTyp.f0 zdf e (z:=y3.kind)) (oV (zd ty3 e) (oV (zbo e e) (oM e (zab (jb 21) je .nil h 4 e (fun q5 g5 h=>?_) (fun J6 h hJ6=>?_))))))
 ·refine oM e (zab (jb 26) je .nil h 4 e (fun q8 g8 h=>?_) (fun J9 h hJ9=>?_))
  ·refine rnf (zg h e (fun _ h=>?_) (fun _ h=>?_))
   ·refine wsr (oA e (zaj (zbh) (zaj (zgH (α:=NL Int)) (zaj (zbW 4 e nilvV) (rnf (zD (zx (zjv (zgT 4 .here e (by first | rfl | simp)) ?_))))))))
    refine zjv (zbW 4 e (zlE (t:=none) (L:=(([]:(List (List Int))):List (List Int))))) ?_
    cases h
    exact zh (.tmp e .nil) .nil ⟨e,e⟩
   refine wkf (wsr (oA e (zaj (zbh) (zaj (zgH (α:=NL Int)) (zaj (zbW 6 e nilvV) (rnf (zp (wsr ?_))))))))
   refine oV (zI e GTyp.f5 zg9 e (z:=y3.root)) (oV (zd ty3 e) (oV (zoe e e) (oV (zI e GTyp.f4 zbR e (z:=y3.fields)) (oV (zd ty85 e) (oV (zaH (l:=y3.fields) e hI sl85) (zb h fun y15 hy15 h=>oT (zN (zjP hy15) hT (s2 e e) .nil (fun R H' hR=>?_))))))))
   obtain ⟨v16,rfl,rfl⟩:=hR
   refine oV (zh9 sl23 e) (oM e (rnf (zB (zbx (ι:=(List (List Int)) × Int) (γ:=Vt × Tok) (fun q17 g17=>[(6,vecv g17.1 (q17.1.length)),(35,isv (q17.2))]) (fun q17 g17=>[vecE g17.1 (nestL g17.2 (q17.1:List (List Int))),tokE g17.2]) h (none,none) (za (j:=6) e (vecvE (by first | rfl | simp)) (za (j:=35) e hI ze)) (.cons tH (.cons tH .nil)) (fun L18 q17 g17 Q79 h hL18 eL18 rL18=>?_)))))
   refine wsr (oV (zay e e) (rnf (zp (zg h e (fun _ h=>?_) (fun _ h=>?_)))))
   ·refine wkf (zp (zdF (ι:=(List (List Int))) (γ:=Vt × Tok) (fun q49 g49=>[(6,vecv g49.1 (q49.length))]) (fun q49 g49=>[vecE g49.1 (nestL g49.2 (q49:List (List Int))),tokE g49.2]) k2 h (fun q49 g49 h=>?_) (fun J50 h hJ50=>?_)))
    ·exact zt (zO h fun q78 h=>oV (zan e e q78) (oM e (zF (hL18 _ (g49.1,g49.2) h _ (zf 6 e e (za (j:=6) e (vecvE (by first | rfl | simp)) (za (j:=35) e hI ze)) (.cons .here k4))))))
    refine zB (wsr (zak h fun q51 h=>oV (zcu (α:=Int) sl23 e e q51.1 q51.2) (zb h fun y52 hy52 h=>oT (zcV ty3 e tI hy52 ?_))))
    refine oA e (rnf (wsr (oM e (oV (zh9 sl36 e) (zO h fun q53 h=>oV (zfo e e q53) (oA e (rnf ?_)))))))
    refine zp (wsr (oV (zI e GTyp.f4 zbR e (z:=y3.fields)) (oV (zd ty85 e) (oM e (zb h fun y54 hy54 h=>oV (zaz (l:=y3.fields) e hI e sl85 hy54) (oV (zI e GFld.f5 zlq e (z:=y54.group)) (oV (zd ty3 e) ?_)))))))
    refine oA e (rnf (wsr (oV (zI e GTyp.f0 zdf e (z:=y3.kind)) (oV (zd ty3 e) (oV (zbo e e) (oM e (zab (jb 54) je .nil h 3 e (fun q55 g55 h=>?_) (fun J56 h hJ56=>?_))))))))
    ·refine oM e (zab (jb 58) je .nil h 3 e (fun q58 g58 h=>?_) (fun J59 h hJ59=>?_))
     ·refine oM e (zab (jb 69) je .nil h 10 e (fun q61 g61 h=>?_) (fun J62 h hJ62=>?_))
      ·refine rnf (zg h e (fun _ h=>?_) (fun _ h=>?_))
       ·refine wsr (oM e (oM e (oM e (oM e (zak h fun q66 h=>oV (zcu (α:=NL Int) sl36 e e q66.1 q66.2) (zak h fun q67 h=>zb h fun y68 hy68 h=>?_))))))
        refine oT (zcV ty23 e .here (zhZ q67 hy68) ?_)
        refine zaj (zbW 75 e zpO) (oM e (oT (zZ (l:=([y52]:(List Int))) el23 (.cons e hI .nil) e e (zaf h fun q71 h=>oT (zbU (l:=y68) (m:=([y52]:(List Int))) zd6 e hI e zQ tH q71 fun t70=>zak h fun q72 h=>oV (zcu (α:=NL Int) sl36 e e q72.1 q72.2) (zak h fun q73 h=>zb h fun y74 hy74 h=>?_))))))
        refine zaj (zbW 78 e znW) (oT (zeO ty23 e e tH (zhZ q73 hy74) (zaj (zn8 .here (zkD q73)) (zaj (zbW (R':=vecv g17.1 (q17.1.set ((((q17.1.length:Nat):Int) - (1:Int)).toNat) (y68 ++ ([y52]:(List Int)))).length) 6 e (vecvE (by simp))) ?_))))
        refine zaj (zbW (R':=vecv g17.1 (q17.1.set ((((q17.1.length:Nat):Int) - (1:Int)).toNat) (y68 ++ ([y52]:(List Int)))).length) 39 e (vecvE (by simp))) ?_
        refine zaj (zbW (R':=vecv g17.1 (q17.1.set ((((q17.1.length:Nat):Int) - (1:Int)).toNat) (y68 ++ ([y52]:(List Int)))).length) 70 e (vecvE (by simp))) ?_
        refine zaj (zbW (R':=vecv g17.1 (q17.1.set ((((q17.1.length:Nat):Int) - (1:Int)).toNat) (y68 ++ ([y52]:(List Int)))).length) 72 e (vecvE (by simp))) ?_
        exact rnf (zam (z8 (zL (hJ50 _ (g17.1,t70) h _ (zf 39 e e (za (j:=6) e (vecvE (by first | rfl | simp)) ze) (.cons .here k4))))))
       refine wkf (zt (oM e (oM e (oT (zZ (l:=([y52]:(List Int))) el23 (.cons e hI .nil) e e (zaj (zbh) (oT (zZ (l:=[NL.mk (([y52]:(List Int))) (some none)]) el36 (.cons e znW .nil) e e (zaf h fun q77 h=>oT (zim (m:=[NL.mk (([y52]:(List Int))) (some none)]) zmO e e zQ tH (by first | rfl | simp) (by rw [zeq];exact q77) fun v76=>?_))))))))))
       refine zaj (zoN .here) (zaj (zbW (R':=vecv v76 (q17.1 ++ [([y52]:(List Int))]).length) 84 e (vecvE (by simp))) ?_)
       exact oA e (zF (zq (hJ50 _ (v76,none) h _ (zf 30 e e (za (j:=6) e (vecvE (by first | rfl | simp)) ze) (.cons .here (.cons .here (.cons tH (.cons tH (.cons tH .nil)))))))))
      refine zn (j:=59) h e (fun g63 h=>?_) (fun g63 h=>?_)
      ·refine oK 59 e e e g63 (zI e GTyp.f4 zbR e (z:=y3.fields)) (oK 59 e e e g63 (zd ty85 e) (oK 59 e e e g63 (zs e) (zO h fun q64 h=>oK 59 e e e g63 (zfo e e q64) (zb h fun y65 hy65 h=>oK 59 e e e g63 (zaz (l:=y3.fields) e hI e sl85 hy65) (oK 59 e e e g63 (zI e GFld.f5 zlq e (z:=y65.group)) (oK 59 e e e g63 (zd ty3 e) ?_))))))
       exact oK 59 e e e g63 (zs e) (oK 59 e e e g63 (zaa e e) (oV (zi e g63 e) (hJ62 _ () h _ (zf 10 e e (za (j:=69) e hI ze) (.cons .here k4)))))
      refine oP 59 e e g63 (oP 59 e e g63 (oP 59 e e g63 (oP 59 e e g63 (oP 59 e e g63 (oP 59 e e g63 (oP 59 e e g63 (oP 59 e e g63 (oP 59 e e g63 ?_))))))))
      exact oV (zj e g63 e) (hJ62 _ () h _ (zf 10 e e (za (j:=69) e hI ze) (.cons .here k4)))
     refine zn (j:=55) h e (fun g60 h=>?_) (fun g60 h=>?_)
     ·exact oK 55 e e e g60 (zs e) (oK 55 e e e g60 (zcR e e) (oV (zi e g60 e) (hJ59 _ () h _ (zf 3 e e (za (j:=58) e hI ze) (.cons .here k4)))))
     exact oP 55 e e g60 (oP 55 e e g60 (oV (zj e g60 e) (hJ59 _ () h _ (zf 3 e e (za (j:=58) e hI ze) (.cons .here k4)))))
    refine zn (j:=51) h e (fun g57 h=>?_) (fun g57 h=>?_)
    ·exact oK 51 e e e g57 (zs e) (oK 51 e e e g57 (zb1 e e) (oV (zi e g57 e) (hJ56 _ () h _ (zf 3 e e (za (j:=54) e hI ze) (.cons .here k4)))))
    exact oP 51 e e g57 (oP 51 e e g57 (oV (zj e g57 e) (hJ56 _ () h _ (zf 3 e e (za (j:=54) e hI ze) (.cons .here k4)))))
   refine zam (z8 (eL18 _ _ (zL (zE (wsr (oM e (oA e (rnf ?_))))))))
   refine zD (zjv (zgT 4 .here e (by first | rfl | simp)) ?_)
   refine zjv (zbW 4 e (zlE (t:=g17.2) (L:=(q17.1:List (List Int))))) ?_
   cases h
   exact zh (.tmp e .nil) .nil ⟨e,e⟩
  refine zn (j:=22) h e (fun g10 h=>?_) (fun g10 h=>?_)
  ·exact oK 22 e e e g10 (zI e GTyp.f0 zdf e (z:=y3.kind)) (oK 22 e e e g10 (zd ty3 e) (oK 22 e e e g10 (zbo e e) (oV (zi e g10 e) (hJ9 _ () h _ (zf 4 e e (za (j:=26) e hI ze) k2)))))
  exact oP 22 e e g10 (oP 22 e e g10 (oP 22 e e g10 (oV (zj e g10 e) (hJ9 _ () h _ (zf 4 e e (za (j:=26) e hI ze) k2)))))
 refine zn (j:=17) h e (fun g7 h=>?_) (fun g7 h=>?_)
 ·exact oK 17 e e e g7 (zI e GTyp.f0 zdf e (z:=y3.kind)) (oK 17 e e e g7 (zd ty3 e) (oK 17 e e e g7 (zbo e e) (oV (zi e g7 e) (hJ6 _ () h _ (zf 4 e e (za (j:=21) e hI ze) k2)))))
 exact oP 17 e e g7 (oP 17 e e g7 (oP 17 e e g7 (oV (zj e g7 e) (hJ6 _ () h _ (zf 4 e e (za (j:=21) e hI ze) k2)))))


theorem zl3:∀ {a_a:Tag} {a_b:Tag} {r:Bool},ziU a_a a_b=some r→Ctr Tryz.prog 42 [isv (a_a),isv (a_b)] [] (fun R H=>R=oneOf [isv (r)]∧H=[]):=by
 intro a_a a_b r h
 unfold ziU at h
 refine zr Tryz.func42 e fun w0 S0 hT=>wsr (oT (zaw (y:=a_a) e hI (oT (zaw (y:=a_b) e hI (oA e (rnf (zp (wsr (oV (zI e Tag.f0 ziP e (z:=a_a.cls)) ?_)))))))))
 refine oV (zd ty3 e) (oV (zI e Tag.f0 ziP e (z:=a_b.cls)) (oV (zd ty3 e) (oV (zbo e e) (rnf (zg h e (fun _ h=>?_) (fun _ h=>?_))))))
 ·refine wsr (oV (zI e Tag.f0 ziP e (z:=a_a.cls)) (oV (zd ty3 e) (oV (zI e Tag.f0 ziP e (z:=a_b.cls)) (oV (zd ty3 e) (oV (zay e e) (oA e (rnf (zD ?_))))))))
  refine zx ?_
  cases h
  exact zh (.tmp e .nil) .nil ⟨e,e⟩
 refine wkf (wsr (oV (zI e Tag.f1 zeW e (z:=a_a.num)) (oV (zd ty3 e) (oV (zI e Tag.f1 zeW e (z:=a_b.num)) (oV (zd ty3 e) (oV (zay e e) (oA e (rnf ?_))))))))
 refine zD ?_
 cases h
 exact zh (.tmp e .nil) .nil ⟨e,e⟩

end Go.Proofs.Q


namespace Go.Proofs.Q
open Go.Sy
set_option maxRecDepth 4000
theorem zgR:∀ {a_c:GChk} {a_i:Int} {a_v:Val} {zaW:Nat} {r:Bool × GChk},zdM a_c a_i a_v=some r→Ctr Tryz.prog 125 [ptrv zaW (Fld.id GChk),isv (a_i),isv (a_v)] [boxE zaW (a_c:GChk)] (fun R H=>R=oneOf [isv (r.1)]∧H=[boxE zaW (r.2)]):=by
 intro a_c a_i a_v zaW r h
 unfold zdM at h
 refine zr Tryz.func125 e fun w0 S0 hT=>wsr (oT (zaw (y:=a_v) e hI (oA e (rnf (wsr (oM e (oV (zw e) (oV (zY e GChk.f0 zef) ?_))))))))
 refine oV (zY e GTbd.f0 zen) (oV (zY e GTab.f3 zeU) (oT (zH (R:=isv (a_c.tabled.t.types)) ty24 e .here hI (oM e (zb h fun y1 hy1 h=>oV (zaz (l:=a_c.tabled.t.types) e hI e sl24 hy1) (oV (zd ty87 e) (oT (zag _ ze87 fun b2=>oT (zo (y':=(y1:GTyp)) ty87 e e hI .here e ?_)))))))))
 refine zaj (zaQ 7 .here e) (rnf (zp (wsr (oV (zI e Val.f5 ziS e (z:=a_v.more)) (oV (zd ty44 e) (oV (zaH (l:=a_v.more) e hI sl44) (oV (zaa e e) (rnf ?_))))))))
 refine zg h e (fun _ h=>?_) (fun _ h=>?_)
 ·refine wsr (oV (zI e Val.f4 zft e (z:=a_v.rule)) (oV (zd ty3 e) (oV (zaa e e) (oA e (rnf (zD (zx ?_)))))))
  cases h
  exact zh (.tmp e .nil) k1 ⟨e,e⟩
 refine wkf (zp (wsr (oV (zI e GTyp.f6 ziQ e (z:=y1.more)) (oV (zd ty4 e) (oV (za2 e) (oM e (zab (jb 42) je .nil h 9 e (fun q3 g3 h=>?_) (fun J4 h hJ4=>?_))))))))
 ·refine rnf (zg h e (fun _ h=>?_) (fun _ h=>?_))
  ·refine wsr (oA e (rnf (zD (zx ?_))))
   cases h
   exact zh (.tmp e .nil) k1 ⟨e,e⟩
  refine wkf (wsr (oM e (oV (zw e) (oV (zY e GChk.f0 zef) (oV (zY e GTbd.f0 zen) (oT (zH (R:=isv (a_c.tabled.t)) ty26 e .here hI (oM e (zb h fun y9 hy9 h=>?_)))))))))
  refine oT (zA (zhI hy9) hT (s2 e e) .nil (oV (zaH (l:=y9) e hI sl36) (oA e (rnf (wsr (oT (zag _ ze31 fun b10=>rnf (zp (wsr ?_)))))))))
  refine oV (zI e Val.f5 ziS e (z:=a_v.more)) (oV (zd ty44 e) (oV (zaH (l:=a_v.more) e hI sl44) (oM e (rnf (zB (zbx (ι:=Int × Int × Tag × GChk) (γ:=Unit) (fun q11 g11=>[(8,isv (q11.1)),(54,isv (q11.2.1))]) (fun q11 g11=>[boxE b10 (q11.2.2.1:Tag),boxE zaW (q11.2.2.2:GChk)]) h () (za (j:=8) e hI (za (j:=54) e hI ze)) k2 (fun L12 q11 g11 Q69 h hL12 eL12 rL12=>wsr (oV (zay e e) ?_))))))))
  refine rnf (zp (zg h e (fun _ h=>?_) (fun _ h=>?_)))
  ·refine wkf (zp (zdF (ι:=Int × Tag × GChk) (γ:=Unit) (fun q41 g41=>[(8,isv (q41.1))]) (fun q41 g41=>[boxE b10 (q41.2.1:Tag),boxE zaW (q41.2.2:GChk)]) k2 h (fun q41 g41 h=>?_) (fun J42 h hJ42=>?_)))
   ·exact zt (zO h fun q68 h=>oV (zan e e q68) (oM e (zF (hL12 _ () h _ (zf 6 e e (za (j:=8) e hI (za (j:=54) e hI ze)) k2)))))
   refine zB (wsr (oM e (zb h fun y43 hy43 h=>oV (zaz (l:=a_v.more) e hI e sl44 hy43) (oV (zd ty112 e) (oT (zag _ ze112 fun b44=>oA e (oT (zo (y':=(y43:Raw)) ty112 e e hI .here e ?_))))))))
   refine zaj (zaQ 11 .here e) (rnf (zp (wsr (oV (zI e Val.f4 zft e (z:=a_v.rule)) (oV (zd ty3 e) (oV (zaa e e) (rnf (zg h e (fun _ h=>?_) (fun _ h=>?_)))))))))
   ·refine zp (wsr (oV (zI e Raw.f0 zhp e (z:=y43.n)) (oV (zd ty3 e) (oM e (oV (zay e e) (oM e (zab (jb 70) je .nil h 4 e (fun q45 g45 h=>?_) (fun J46 h hJ46=>?_))))))))
    ·refine oM e (zab (jb 76) je .nil h 5 e (fun q48 g48 h=>?_) (fun J49 h hJ49=>?_))
     ·refine rnf (zg h e (fun _ h=>?_) (fun _ h=>?_))
      ·refine wsr (oA e (rnf (zD (zx (zx (zz (zx (rL12 _ ?_))))))))
       refine zz (zx ?_)
       cases h
       exact zh (.tmp e .nil) (.cons tH .nil) ⟨e,e⟩
      refine wkf (wsr (oV (zI e Raw.f0 zhp e (z:=y43.n)) (oV (zd ty3 e) (zO h fun q52 h=>oV (zan e e q52) (oA e (rnf (zam ?_)))))))
      exact z8 (zL (hJ42 _ () h _ (zf 21 e e (za (j:=8) e hI ze) k2)))
     refine zn (j:=71) h e (fun g50 h=>?_) (fun g50 h=>?_)
     ·exact oP 71 e e g50 (oP 71 e e g50 (oP 71 e e g50 (oP 71 e e g50 (oV (zi e g50 e) (hJ49 _ () h _ (zf 5 e e (za (j:=76) e hI ze) k2))))))
     exact oK 71 e e e g50 (zI e Raw.f1 zjw e (z:=y43.b)) (oK 71 e e e g50 (zd ty42 e) (zb h fun y51 hy51 h=>zai e e (dj:=71) e g50 (zA (ziH hy51) hT (s1 e) .nil (oK 71 e e e g50 (za2 e) (oV (zj e g50 e) (hJ49 _ () h _ (zf 5 e e (za (j:=76) e hI ze) k2)))))))
    refine zn (j:=66) h e (fun g47 h=>?_) (fun g47 h=>?_)
    ·exact oP 66 e e g47 (oP 66 e e g47 (oP 66 e e g47 (oV (zi e g47 e) (hJ46 _ () h _ (zf 4 e e (za (j:=70) e hI ze) k2)))))
    exact oK 66 e e e g47 (zI e Raw.f0 zhp e (z:=y43.n)) (oK 66 e e e g47 (zd ty3 e) (oK 66 e e e g47 (zcR e e) (oV (zj e g47 e) (hJ46 _ () h _ (zf 4 e e (za (j:=70) e hI ze) k2)))))
   refine wkf (wsr (oM e (oM e (oV (zI e Raw.f1 zjw e (z:=y43.b)) (oV (zd ty42 e) (zb h fun y53 hy53 h=>oT (zA (zdZ hy53) hT (s3 e e e) (.cons tH .nil) (oM e ?_))))))))
   refine oV (z7 e e) (oV (z7 e e) (oT (zag _ ze31 fun b54=>oT (zo (y':=(y53.1:Tag)) ty31 e e hI .here e (zaj (zaQ 12 .here e) (oA e (rnf (zp (wsr ?_)))))))))
   refine oM e (oV (za2 e) (oM e (zab (jb 94) je .nil h 4 e (fun q55 g55 h=>?_) (fun J56 h hJ56=>?_))))
   ·refine oM e (zab (jb 109) je .nil h 14 e (fun q58 g58 h=>?_) (fun J59 h hJ59=>?_))
    ·refine rnf (zg h e (fun _ h=>?_) (fun _ h=>?_))
     ·refine wsr (oA e (rnf (zD (zx (zz (zx (rL12 _ (zz ?_))))))))
      refine zx ?_
      cases h
      exact zh (.tmp e .nil) k1 ⟨e,e⟩
     exact wkf (zt (oV (zd ty31 e) (oT (zo (y':=(y53.1:Tag)) ty31 e e hI tH e (zF (zq (hJ42 _ () h _ (zf 27 e e (za (j:=8) e hI ze) k2))))))))
    refine zn (j:=95) h e (fun g60 h=>?_) (fun g60 h=>?_)
    ·refine oP 95 e e g60 (oP 95 e e g60 (oP 95 e e g60 (oP 95 e e g60 (zk e (dj:=99) e (zk e (dj:=99) e (oP 95 e e g60 (oP 95 e e g60 (zk e (dj:=103) e ?_))))))))
     exact zk e (dj:=103) e (zk e (dj:=103) e (zk e (dj:=103) e (oP 95 e e g60 (oV (zi e g60 e) (hJ59 _ () h _ (zf 14 e e (za (j:=109) e hI ze) k2))))))
    refine oK 95 e e e g60 (zI e GTyp.f0 zdf e (z:=y1.kind)) (oK 95 e e e g60 (zd ty3 e) (oK 95 e e e g60 (zaa e e) (oK 95 e e e g60 (zs e) (zab (jb 102) je .nil h 3 e (fun q61 g61 h=>?_) (fun J62 h hJ62=>?_)))))
    ·refine oK 95 e e e g60 (zs e) (zab (jb 108) je .nil h 5 e (fun q64 g64 h=>?_) (fun J65 h hJ65=>?_))
     ·exact oV (zj e g60 e) (hJ59 _ () h _ (zf 8 e e (za (j:=109) e hI ze) k2))
     refine zn (j:=103) h e (fun g66 h=>?_) (fun g66 h=>?_)
     ·exact zai e e (dj:=103) e g66 (zH (R:=isv (q11.2.2.1)) ty31 e tH hI (oK 103 e e e g66 (zd ty31 e) (zb h fun y67 hy67 h=>zai e e (dj:=103) e g66 (zA (zl3 hy67) hT (s2 e e) .nil (oK 103 e e e g66 (za2 e) (oK 95 e e e g60 (zi e g66 e) (hJ65 _ () h _ (zf 5 e e (za (j:=108) e hI ze) k2))))))))
     exact oP 103 e e g66 (oP 103 e e g66 (oP 103 e e g66 (oP 103 e e g66 (oK 95 e e e g60 (zj e g66 e) (hJ65 _ () h _ (zf 5 e e (za (j:=108) e hI ze) k2))))))
    refine zn (j:=99) h e (fun g63 h=>?_) (fun g63 h=>?_)
    ·exact oK 99 e e e g63 (zs e) (oK 99 e e e g63 (zb1 e e) (oK 95 e e e g60 (zi e g63 e) (hJ62 _ () h _ (zf 3 e e (za (j:=102) e hI ze) k2))))
    exact oP 99 e e g63 (oP 99 e e g63 (oK 95 e e e g60 (zj e g63 e) (hJ62 _ () h _ (zf 3 e e (za (j:=102) e hI ze) k2))))
   refine zn (j:=90) h e (fun g57 h=>?_) (fun g57 h=>?_)
   ·exact oP 90 e e g57 (oP 90 e e g57 (oP 90 e e g57 (oV (zi e g57 e) (hJ56 _ () h _ (zf 4 e e (za (j:=94) e hI ze) k2)))))
   exact oK 90 e e e g57 (zI e Raw.f0 zhp e (z:=y43.n)) (oK 90 e e e g57 (zd ty3 e) (oK 90 e e e g57 (zbo e e) (oV (zj e g57 e) (hJ56 _ () h _ (zf 4 e e (za (j:=94) e hI ze) k2)))))
  refine zam (z8 (eL12 _ _ (zL (zE (wsr (oA e (rnf (zD ?_))))))))
  cases h
  exact zh (.tmp e .nil) (.cons tH .nil) ⟨e,e⟩
 refine zn (j:=33) h e (fun g5 h=>?_) (fun g5 h=>?_)
 ·refine oP 33 e e g5 (oP 33 e e g5 (oP 33 e e g5 (oP 33 e e g5 (zk e (dj:=37) e (zk e (dj:=37) e (zk e (dj:=37) e (oP 33 e e g5 (oV (zi e g5 e) ?_))))))))
  exact hJ4 _ () h _ (jk 9 42 e e e)
 refine oK 33 e e e g5 (zI e Val.f4 zft e (z:=a_v.rule)) (oK 33 e e e g5 (zd ty3 e) (oK 33 e e e g5 (zbo e e) (oK 33 e e e g5 (zs e) (zab (jb 41) je .nil h 4 e (fun q6 g6 h=>?_) (fun J7 h hJ7=>?_)))))
 ·exact oV (zj e g5 e) (hJ4 _ () h _ (jk 6 42 e e e))
 refine zn (j:=37) h e (fun g8 h=>?_) (fun g8 h=>?_)
 ·exact oK 37 e e e g8 (zI e Val.f4 zft e (z:=a_v.rule)) (oK 37 e e e g8 (zd ty3 e) (oK 37 e e e g8 (zbo e e) (oK 33 e e e g5 (zi e g8 e) (hJ7 _ () h _ (jk 4 41 e e e)))))
 exact oP 37 e e g8 (oP 37 e e g8 (oP 37 e e g8 (oK 33 e e e g5 (zj e g8 e) (hJ7 _ () h _ (jk 4 41 e e e)))))


theorem zgV:∀ {a_v:Val} {r:Bool},ze4 a_v=some r→Ctr Tryz.prog 126 [isv (a_v)] [] (fun R H=>R=oneOf [isv (r)]∧H=[]):=by
 intro a_v r h
 unfold ze4 at h
 refine zr Tryz.func126 e fun w0 S0 hT=>wsr (oT (zaw (y:=a_v) e hI (oA e (rnf (wsr (oV (zI e Val.f0 zcy e (z:=a_v.kind)) (oV (zd ty3 e) (oV (zaa e e) ?_))))))))
 refine oM e (zab (jb 9) je .nil h 3 e (fun q1 g1 h=>?_) (fun J2 h hJ2=>?_))
 ·refine oA e (rnf (zD ?_))
  cases h
  exact zh (.tmp e .nil) .nil ⟨e,e⟩
 refine zn (j:=6) h e (fun g3 h=>?_) (fun g3 h=>?_)
 ·exact oK 6 e e e g3 (zd ty46 e) (zb h fun y4 hy4 h=>zai e e (dj:=6) e g3 (zA (zb8 hy4) hT (s2 e e) .nil (oV (zi e g3 e) (hJ2 _ () h _ (ji 3 9 e e e)))))
 exact oP 6 e e g3 (oP 6 e e g3 (oV (zj e g3 e) (hJ2 _ () h _ (ji 3 9 e e e))))


theorem zhQ:∀ {a_a:(List UInt8)} {a_b:(List UInt8)} {r:Bool},zfA a_a a_b=some r→Ctr Tryz.prog 96 [isv (a_a),isv (a_b)] [] (fun R H=>R=oneOf [isv (r)]∧H=[]):=by
 intro a_a a_b r h
 unfold zfA at h
 refine zr Tryz.func96 e fun w0 S0 hT=>wsr (oA e (rnf (wsr (oM e (oV (znE (l:=a_a) Tryz.underlying42 Tryz.underlying5 Tryz.underlying9 e hI) (oM e (oV (znE (l:=a_b) Tryz.underlying42 Tryz.underlying5 Tryz.underlying9 e hI) ?_)))))))
 refine oV (zce eq9 e e) (oA e (rnf (zD ?_)))
 cases h
 exact zh (.tmp e .nil) .nil ⟨e,e⟩


theorem zjl:∀ {a_a:Raw} {a_b:Raw} {r:Bool},zfL a_a a_b=some r→Ctr Tryz.prog 99 [isv (a_a),isv (a_b)] [] (fun R H=>R=oneOf [isv (r)]∧H=[]):=by
 intro a_a a_b r h
 unfold zfL at h
 refine zr Tryz.func99 e fun w0 S0 hT=>wsr (oT (zaw (y:=a_a) e hI (oT (zaw (y:=a_b) e hI (oA e (rnf (wsr (oV (zI e Raw.f0 zhp e (z:=a_a.n)) (oV (zd ty3 e) ?_)))))))))
 refine oV (zI e Raw.f0 zhp e (z:=a_b.n)) (oV (zd ty3 e) (oV (zaa e e) (oM e (zab (jb 16) je .nil h 6 e (fun q1 g1 h=>?_) (fun J2 h hJ2=>?_)))))
 ·refine oA e (rnf (zD ?_))
  cases h
  exact zh (.tmp e .nil) .nil ⟨e,e⟩
 refine zn (j:=10) h e (fun g3 h=>?_) (fun g3 h=>?_)
 ·exact oK 10 e e e g3 (zI e Raw.f1 zjw e (z:=a_a.b)) (oK 10 e e e g3 (zd ty42 e) (oK 10 e e e g3 (zI e Raw.f1 zjw e (z:=a_b.b)) (oK 10 e e e g3 (zd ty42 e) (zb h fun y4 hy4 h=>zai e e (dj:=10) e g3 (zA (zhQ hy4) hT (s2 e e) .nil (oV (zi e g3 e) (hJ2 _ () h _ (ji 6 16 e e e))))))))
 exact oP 10 e e g3 (oP 10 e e g3 (oP 10 e e g3 (oP 10 e e g3 (oP 10 e e g3 (oV (zj e g3 e) (hJ2 _ () h _ (ji 6 16 e e e)))))))


theorem zcj:∀ {a_s1:(List Raw)} {a_s2:(List Raw)} {r:Bool},zaT a_s1 a_s2=some r→Ctr Tryz.prog 98 [isv (a_s1),isv (a_s2),clov 99 []] [] (fun R H=>R=oneOf [isv (r)]∧H=[]):=by
 intro a_s1 a_s2 r h
 unfold zaT at h
 refine zr Tryz.func98 e fun w0 S0 hT=>wsr (oA e (rnf (zp (wsr (oM e (oV (zaH (l:=a_s1) e hI sl44) (oM e ?_)))))))
 refine oV (zaH (l:=a_s2) e hI sl44) (oV (zbo e e) (rnf (zg h e (fun _ h=>?_) (fun _ h=>?_))))
 ·refine wsr (oA e (rnf (zD (zx ?_))))
  cases h
  exact zh (.tmp e .nil) .nil ⟨e,e⟩
 refine wkf (zp (wsr (oM e (oV (zaH (l:=a_s1) e hI sl44) (oM e (rnf (zB (zbx (ι:=Int) (γ:=Unit) (fun q1 g1=>[(17,isv (q1))]) (fun q1 g1=>[]) h () (za (j:=17) e hI ze) .nil (fun L2 q1 g1 Q15 h hL2 eL2 rL2=>?_)))))))))
 refine wsr (oV (zay e e) (rnf (zp (zg h e (fun _ h=>?_) (fun _ h=>?_)))))
 ·refine wkf (zp (zB (wsr (oM e (zb h fun y9 hy9 h=>oV (zaz (l:=a_s1) e hI e sl44 hy9) (oV (zd ty112 e) (oT (zag _ ze112 fun b10=>?_))))))))
  refine oA e (oT (zo (y':=(y9:Raw)) ty112 e e hI .here e (zaj (zaQ 8 .here e) (rnf (wsr (oM e (oM e (zb h fun y11 hy11 h=>oV (zaz (l:=a_s2) e hI e sl44 hy11) ?_))))))))
  refine oV (zd ty112 e) (oT (zag _ ze112 fun b12=>oT (zo (y':=(y11:Raw)) ty112 e e hI .here e (zaj (zaQ 9 .here e) (rnf (wsr (oM e (oV (zd ty112 e) (oV (zd ty112 e) ?_)))))))))
  refine zb h fun y13 hy13 h=>oT (zhm e (s2 e e) (zjl hy13) hT .nil (fun R H' hR=>?_))
  obtain ⟨rfl,rfl⟩:=hR
  refine oV (za2 e) (rnf (zg h e (fun _ h=>?_) (fun _ h=>?_)))
  ·refine wsr (oA e (rnf (zD (zz (zx (rL2 _ (zz (zx ?_))))))))
   cases h
   exact zh (.tmp e .nil) .nil ⟨e,e⟩
  exact z6 (zq (zE (zt (zO h fun q14 h=>oV (zan e e q14) (oM e (zF (hL2 _ () h _ (ji 21 17 e e e))))))))
 refine zam (z8 (eL2 _ _ (zL (zE (wsr (oA e (rnf (zD ?_))))))))
 cases h
 exact zh (.tmp e .nil) .nil ⟨e,e⟩


def ze6 (f':Val→Val→Option (Bool)):Prop :=
 ∀ {a_a:Val} {a_b:Val} {r:Bool},f' a_a a_b=some r→Ctr Tryz.prog 67 [isv (a_a),isv (a_b)] [] (fun R H=>R=oneOf [isv (r)]∧H=[])
def zaF (f':(List Val)→(List Val)→Option (Bool)):Prop :=
 ∀ {a_s1:(List Val)} {a_s2:(List Val)} {r:Bool},f' a_s1 a_s2=some r→Ctr Tryz.prog 97 [isv (a_s1),isv (a_s2),clov 67 []] [] (fun R H=>R=oneOf [isv (r)]∧H=[])
theorem zkn {zcQ:Val→Val→Option (Bool)} {zP:(List Val)→(List Val)→Option (Bool)} (ziu:ze6 zcQ) (za1:zaF zP):∀ {a_a:Val} {a_b:Val} {r:Bool},zgl zcQ zP a_a a_b=some r→Ctr Tryz.prog 67 [isv (a_a),isv (a_b)] [] (fun R H=>R=oneOf [isv (r)]∧H=[]):=by
 intro a_a a_b r h
 unfold zgl at h
 refine zr Tryz.func67 e fun w0 S0 hT=>wsr (oT (zaw (y:=a_a) e hI (oT (zaw (y:=a_b) e hI (oA e (rnf (wsr (oV (zI e Val.f0 zcy e (z:=a_a.kind)) (oV (zd ty3 e) ?_)))))))))
 refine oV (zI e Val.f0 zcy e (z:=a_b.kind)) (oV (zd ty3 e) (oV (zaa e e) (oM e (zab (jb 16) je .nil h 6 e (fun q1 g1 h=>?_) (fun J2 h hJ2=>?_)))))
 ·refine oM e (zab (jb 23) je .nil h 6 e (fun q4 g4 h=>?_) (fun J5 h hJ5=>?_))
  ·refine oM e (zab (jb 30) je .nil h 6 e (fun q8 g8 h=>?_) (fun J9 h hJ9=>?_))
   ·refine oM e (zab (jb 37) je .nil h 6 e (fun q12 g12 h=>?_) (fun J13 h hJ13=>?_))
    ·refine oM e (zab (jb 44) je .nil h 6 e (fun q15 g15 h=>?_) (fun J16 h hJ16=>?_))
     ·refine oA e (rnf (zD ?_))
      cases h
      exact zh (.tmp e .nil) .nil ⟨e,e⟩
     refine zn (j:=38) h e (fun g17 h=>?_) (fun g17 h=>?_)
     ·exact oK 38 e e e g17 (zI e Val.f5 ziS e (z:=a_a.more)) (oK 38 e e e g17 (zd ty44 e) (oK 38 e e e g17 (zI e Val.f5 ziS e (z:=a_b.more)) (oK 38 e e e g17 (zd ty44 e) (zb h fun y18 hy18 h=>zai e e (dj:=38) e g17 (zA (zcj hy18) hT (s3 e e e) .nil (oV (zi e g17 e) (hJ16 _ () h _ (ji 6 44 e e e))))))))
     exact oP 38 e e g17 (oP 38 e e g17 (oP 38 e e g17 (oP 38 e e g17 (oP 38 e e g17 (oV (zj e g17 e) (hJ16 _ () h _ (ji 6 44 e e e)))))))
    refine zn (j:=31) h e (fun g14 h=>?_) (fun g14 h=>?_)
    ·exact oK 31 e e e g14 (zI e Val.f4 zft e (z:=a_a.rule)) (oK 31 e e e g14 (zd ty3 e) (oK 31 e e e g14 (zI e Val.f4 zft e (z:=a_b.rule)) (oK 31 e e e g14 (zd ty3 e) (oK 31 e e e g14 (zaa e e) (oV (zi e g14 e) (hJ13 _ () h _ (ji 6 37 e e e)))))))
    exact oP 31 e e g14 (oP 31 e e g14 (oP 31 e e g14 (oP 31 e e g14 (oP 31 e e g14 (oV (zj e g14 e) (hJ13 _ () h _ (ji 6 37 e e e)))))))
   refine zn (j:=24) h e (fun g10 h=>?_) (fun g10 h=>?_)
   ·exact oK 24 e e e g10 (zI e Val.f3 zet e (z:=a_a.l)) (oK 24 e e e g10 (zd ty43 e) (oK 24 e e e g10 (zI e Val.f3 zet e (z:=a_b.l)) (oK 24 e e e g10 (zd ty43 e) (zb h fun y11 hy11 h=>zai e e (dj:=24) e g10 (zA (za1 hy11) hT (s3 e e e) .nil (oV (zi e g10 e) (hJ9 _ () h _ (ji 6 30 e e e))))))))
   exact oP 24 e e g10 (oP 24 e e g10 (oP 24 e e g10 (oP 24 e e g10 (oP 24 e e g10 (oV (zj e g10 e) (hJ9 _ () h _ (ji 6 30 e e e)))))))
  refine zn (j:=17) h e (fun g6 h=>?_) (fun g6 h=>?_)
  ·exact oK 17 e e e g6 (zI e Val.f2 zc5 e (z:=a_a.b)) (oK 17 e e e g6 (zd ty42 e) (oK 17 e e e g6 (zI e Val.f2 zc5 e (z:=a_b.b)) (oK 17 e e e g6 (zd ty42 e) (zb h fun y7 hy7 h=>zai e e (dj:=17) e g6 (zA (zhQ hy7) hT (s2 e e) .nil (oV (zi e g6 e) (hJ5 _ () h _ (ji 6 23 e e e))))))))
  exact oP 17 e e g6 (oP 17 e e g6 (oP 17 e e g6 (oP 17 e e g6 (oP 17 e e g6 (oV (zj e g6 e) (hJ5 _ () h _ (ji 6 23 e e e)))))))
 refine zn (j:=10) h e (fun g3 h=>?_) (fun g3 h=>?_)
 ·exact oK 10 e e e g3 (zI e Val.f1 zcx e (z:=a_a.n)) (oK 10 e e e g3 (zd ty2 e) (oK 10 e e e g3 (zI e Val.f1 zcx e (z:=a_b.n)) (oK 10 e e e g3 (zd ty2 e) (oK 10 e e e g3 (zaa e e) (oV (zi e g3 e) (hJ2 _ () h _ (ji 6 16 e e e)))))))
 exact oP 10 e e g3 (oP 10 e e g3 (oP 10 e e g3 (oP 10 e e g3 (oP 10 e e g3 (oV (zj e g3 e) (hJ2 _ () h _ (ji 6 16 e e e)))))))

theorem zbZ {zcQ:Val→Val→Option (Bool)} {zP:(List Val)→(List Val)→Option (Bool)} (ziu:ze6 zcQ) (za1:zaF zP):∀ {a_s1:(List Val)} {a_s2:(List Val)} {r:Bool},zaG zcQ zP a_s1 a_s2=some r→Ctr Tryz.prog 97 [isv (a_s1),isv (a_s2),clov 67 []] [] (fun R H=>R=oneOf [isv (r)]∧H=[]):=by
 intro a_s1 a_s2 r h
 unfold zaG at h
 refine zr Tryz.func97 e fun w0 S0 hT=>wsr (oA e (rnf (zp (wsr (oM e (oV (zaH (l:=a_s1) e hI sl43) (oM e ?_)))))))
 refine oV (zaH (l:=a_s2) e hI sl43) (oV (zbo e e) (rnf (zg h e (fun _ h=>?_) (fun _ h=>?_))))
 ·refine wsr (oA e (rnf (zD (zx ?_))))
  cases h
  exact zh (.tmp e .nil) .nil ⟨e,e⟩
 refine wkf (zp (wsr (oM e (oV (zaH (l:=a_s1) e hI sl43) (oM e (rnf (zB (zbx (ι:=Int) (γ:=Unit) (fun q1 g1=>[(17,isv (q1))]) (fun q1 g1=>[]) h () (za (j:=17) e hI ze) .nil (fun L2 q1 g1 Q15 h hL2 eL2 rL2=>?_)))))))))
 refine wsr (oV (zay e e) (rnf (zp (zg h e (fun _ h=>?_) (fun _ h=>?_)))))
 ·refine wkf (zp (zB (wsr (oM e (zb h fun y9 hy9 h=>oV (zaz (l:=a_s1) e hI e sl43 hy9) (oV (zd ty46 e) (oT (zag _ ze46 fun b10=>?_))))))))
  refine oA e (oT (zo (y':=(y9:Val)) ty46 e e hI .here e (zaj (zaQ 8 .here e) (rnf (wsr (oM e (oM e (zb h fun y11 hy11 h=>oV (zaz (l:=a_s2) e hI e sl43 hy11) ?_))))))))
  refine oV (zd ty46 e) (oT (zag _ ze46 fun b12=>oT (zo (y':=(y11:Val)) ty46 e e hI .here e (zaj (zaQ 9 .here e) (rnf (wsr (oM e (oV (zd ty46 e) (oV (zd ty46 e) ?_)))))))))
  refine zb h fun y13 hy13 h=>oT (zhm e (s2 e e) (ziu hy13) hT .nil (fun R H' hR=>?_))
  obtain ⟨rfl,rfl⟩:=hR
  refine oV (za2 e) (rnf (zg h e (fun _ h=>?_) (fun _ h=>?_)))
  ·refine wsr (oA e (rnf (zD (zz (zx (rL2 _ (zz (zx ?_))))))))
   cases h
   exact zh (.tmp e .nil) .nil ⟨e,e⟩
  exact z6 (zq (zE (zt (zO h fun q14 h=>oV (zan e e q14) (oM e (zF (hL2 _ () h _ (ji 21 17 e e e))))))))
 refine zam (z8 (eL2 _ _ (zL (zE (wsr (oA e (rnf (zD ?_))))))))
 cases h
 exact zh (.tmp e .nil) .nil ⟨e,e⟩

theorem zfZ:∀ n,ze6 (zh5 n)∧zaF (zb2 n)
 | 0=>⟨fun h=>(by cases h),fun h=>(by cases h)⟩
 | n + 1=>by
  obtain ⟨h0,h1⟩:=zfZ n
  exact ⟨zkn h0 h1,zbZ h0 h1⟩
theorem zlk (n:Nat):ze6 (zh5 n):=(zfZ n).1
theorem zgi:∀ {a_c:GChk} {a_i:Int} {a_v:Val} {zaW:Nat} {r:Bool × GChk},zdi a_c a_i a_v=some r→Ctr Tryz.prog 128 [ptrv zaW (Fld.id GChk),isv (a_i),isv (a_v)] [boxE zaW (a_c:GChk)] (fun R H=>R=oneOf [isv (r.1)]∧H=[boxE zaW (r.2)]):=by
 intro a_c a_i a_v zaW r h
 unfold zdi at h
 refine zr Tryz.func128 e fun w0 S0 hT=>wsr (oT (zaw (y:=a_v) e hI (oA e (rnf (wsr (oM e (oV (zw e) (oV (zY e GChk.f0 zef) ?_))))))))
 refine oV (zY e GTbd.f0 zen) (oV (zY e GTab.f3 zeU) (oT (zH (R:=isv (a_c.tabled.t.types)) ty24 e .here hI (oM e (zb h fun y1 hy1 h=>oV (zaz (l:=a_c.tabled.t.types) e hI e sl24 hy1) (oV (zd ty87 e) (oT (zag _ ze87 fun b2=>oT (zo (y':=(y1:GTyp)) ty87 e e hI .here e ?_)))))))))
 refine zaj (zaQ 7 .here e) (rnf (zp (wsr (oM e (oV (zw e) (oV (zY e GChk.f0 zef) (oV (zY e GTbd.f0 zen) (oT (zH (R:=isv (a_c.tabled.t)) ty26 e .here hI ?_)))))))))
 refine oM e (zb h fun y3 hy3 h=>oT (zA (zhI hy3) hT (s2 e e) .nil (oV (zaH (l:=y3) e hI sl36) (oM e (rnf (zB (zbx (ι:=Int) (γ:=Unit) (fun q4 g4=>[(32,isv (q4))]) (fun q4 g4=>[]) h () (za (j:=32) e hI ze) .nil (fun L5 q4 g4 Q90 h hL5 eL5 rL5=>wsr ?_))))))))
 refine oV (zay e e) (rnf (zp (zg h e (fun _ h=>?_) (fun _ h=>?_))))
 ·refine wkf (zp (zdF (ι:=Unit) (γ:=Unit) (fun q48 g48=>[]) (fun q48 g48=>[]) .nil h (fun q48 g48 h=>?_) (fun J49 h hJ49=>?_)))
  ·exact zt (zO h fun q89 h=>oV (zan e e q89) (oM e (zF (hL5 _ () h _ (jk 4 32 e e e)))))
  refine zB (wsr (zb h fun y50 hy50 h=>oV (zaz (l:=y3) e hI e sl36 hy50) (oV (zd ty23 e) (oA e (rnf (zp (zp ?_)))))))
  refine zae (.v 0 (.v 1 (.v 2 (.v 3 (.v 4 (.v 5 (.v 6 (.v 7 (.v 8 .nil))))))))) moOrd (by kernel_rfl) ?_
  refine zC e (zI e GTyp.f4 zbR e (z:=y1.fields)) (zC e (zd ty85 e) (rvm e e (zb h fun y51 hy51 h=>zC e (zaz (l:=y50) e hI e sl23 hy51) (zC e (zd ty3 e) (zb h fun y52 hy52 h=>zC e (zaz (l:=y1.fields) e hI e sl85 hy52) (zC e (zI e GFld.f5 zlq e (z:=y52.group)) ?_))))))
  refine zC e (zd ty3 e) (zC e (zaa e e) (zaA (zE (zg h e (fun _ h=>?_) (fun _ h=>?_)))))
  ·exact zam (z8 (zL (hJ49 _ () h _ (jn 12 e e))))
  refine wkf (wsr (oA e (oA e (rnf (zp (wsr (oM e (oV (zaH (l:=y50) e hI sl23) ?_))))))))
  refine oM e (rnf (zB (zbx (ι:=Bool × Bool × Int) (γ:=Unit) (fun q53 g53=>[(10,isv (q53.1)),(11,isv (q53.2.1)),(47,isv (q53.2.2))]) (fun q53 g53=>[]) h () (za (j:=10) e hI (za (j:=11) e hI (za (j:=47) e hI ze))) .nil (fun L54 q53 g53 Q88 h hL54 eL54 rL54=>wsr (oV (zay e e) (rnf (zp (zg h e (fun _ h=>?_) (fun _ h=>?_)))))))))
  ·refine wkf (zp (zB (wsr (zb h fun y67 hy67 h=>oV (zaz (l:=y50) e hI e sl23 hy67) (oV (zd ty3 e) (oA e (rnf ?_)))))))
   refine wsr (oV (zI e Val.f3 zet e (z:=a_v.l)) (oV (zd ty43 e) (oM e (zb h fun y68 hy68 h=>oV (zaz (l:=a_v.l) e hI e sl43 hy68) (oV (zd ty46 e) (zb h fun y69 hy69 h=>oT (zA (zgV hy69) hT (s1 e) .nil ?_)))))))
   refine oV (za2 e) (oA e (rnf (wsr (oM e (oM e (zab (jb 61) je .nil h 2 e (fun q70 g70 h=>?_) (fun J71 h hJ71=>?_)))))))
   ·refine oA e (rnf (zt (oM e (oM e (zab (jb 84) je .nil h 21 e (fun q73 g73 h=>?_) (fun J74 h hJ74=>?_))))))
    ·refine oA e (zF (zq (zE (zt (zO h fun q84 h=>oV (zan e e q84) (oM e (zF ?_)))))))
     exact hL54 _ () h _ (zf 25 e e (za (j:=10) e hI (za (j:=11) e hI (za (j:=47) e hI ze))) k1)
    refine zn (j:=63) h e (fun g75 h=>?_) (fun g75 h=>?_)
    ·refine oP 63 e e g75 (oP 63 e e g75 (oP 63 e e g75 (zk e (dj:=66) e (zk e (dj:=66) e (zk e (dj:=66) e (zk e (dj:=66) e (zk e (dj:=66) e (zk e (dj:=66) e ?_))))))))
     refine zk e (dj:=66) e (oP 63 e e g75 (oP 63 e e g75 (zk e (dj:=75) e (zk e (dj:=75) e (zk e (dj:=75) e (zk e (dj:=75) e (zk e (dj:=75) e (zk e (dj:=75) e ?_))))))))
     exact zk e (dj:=75) e (oP 63 e e g75 (oV (zi e g75 e) (hJ74 _ () h _ (jk 21 84 e e e))))
    refine oK 63 e e e g75 (zs e) (oK 63 e e e g75 (za2 e) (oK 63 e e e g75 (zs e) (zab (jb 74) je .nil h 8 e (fun q76 g76 h=>?_) (fun J77 h hJ77=>?_))))
    ·refine oK 63 e e e g75 (zs e) (zab (jb 83) je .nil h 8 e (fun q80 g80 h=>?_) (fun J81 h hJ81=>?_))
     ·exact oV (zj e g75 e) (hJ74 _ () h _ (jk 7 84 e e e))
     refine zn (j:=75) h e (fun g82 h=>?_) (fun g82 h=>?_)
     ·refine oK 75 e e e g82 (zI e GTyp.f4 zbR e (z:=y1.fields)) (oK 75 e e e g82 (zd ty85 e) (oK 75 e e e g82 (zs e) (zb h fun y83 hy83 h=>oK 75 e e e g82 (zaz (l:=y1.fields) e hI e sl85 hy83) (oK 75 e e e g82 (zI e GFld.f3 ziM e (z:=y83.has)) (oK 75 e e e g82 (zd ty4 e) (oK 75 e e e g82 (za2 e) (oK 63 e e e g75 (zi e g82 e) ?_)))))))
      exact hJ81 _ () h _ (jk 8 83 e e e)
     exact oP 75 e e g82 (oP 75 e e g82 (oP 75 e e g82 (oP 75 e e g82 (oP 75 e e g82 (oP 75 e e g82 (oP 75 e e g82 (oK 63 e e e g75 (zj e g82 e) (hJ81 _ () h _ (jk 8 83 e e e)))))))))
    refine zn (j:=66) h e (fun g78 h=>?_) (fun g78 h=>?_)
    ·refine oK 66 e e e g78 (zI e GTyp.f4 zbR e (z:=y1.fields)) (oK 66 e e e g78 (zd ty85 e) (oK 66 e e e g78 (zs e) (zb h fun y79 hy79 h=>oK 66 e e e g78 (zaz (l:=y1.fields) e hI e sl85 hy79) (oK 66 e e e g78 (zI e GFld.f2 zkL e (z:=y79.optional)) (oK 66 e e e g78 (zd ty4 e) (oK 66 e e e g78 (za2 e) (oK 63 e e e g75 (zi e g78 e) ?_)))))))
     exact hJ77 _ () h _ (jk 8 74 e e e)
    exact oP 66 e e g78 (oP 66 e e g78 (oP 66 e e g78 (oP 66 e e g78 (oP 66 e e g78 (oP 66 e e g78 (oP 66 e e g78 (oK 63 e e e g75 (zj e g78 e) (hJ77 _ () h _ (jk 8 74 e e e)))))))))
   refine zn (j:=59) h e (fun g72 h=>?_) (fun g72 h=>?_)
   ·exact oP 59 e e g72 (oV (zi e g72 e) (hJ71 _ () h _ (jk 2 61 e e e)))
   exact oK 59 e e e g72 (zs e) (oV (zj e g72 e) (hJ71 _ () h _ (jk 2 61 e e e)))
  refine zam (z8 (eL54 _ _ (zL (zE (wsr (oM e (oM e (zab (jb 89) je .nil h 2 e (fun q85 g85 h=>?_) (fun J86 h hJ86=>?_)))))))))
  ·refine rnf (zg h e (fun _ h=>?_) (fun _ h=>?_))
   ·refine wsr (oA e (rnf (zD (zz (zx (rL5 _ (zz (zx ?_))))))))
    cases h
    exact zh (.tmp e .nil) k1 ⟨e,e⟩
   exact z6 (zq (hJ49 _ () h _ (jn 24 e e)))
  refine zn (j:=87) h e (fun g87 h=>?_) (fun g87 h=>?_)
  ·exact oK 87 e e e g87 (zs e) (oV (zi e g87 e) (hJ86 _ () h _ (jk 2 89 e e e)))
  exact oP 87 e e g87 (oV (zj e g87 e) (hJ86 _ () h _ (jk 2 89 e e e)))
 refine zam (z8 (eL5 _ _ (zL (zE (wsr (oA e (rnf (zD ?_))))))))
 cases h
 exact zh (.tmp e .nil) k1 ⟨e,e⟩


def za6 (f':Val→GChk→GTyp→Int→Option (Bool × GChk)):Prop :=
 ∀ {a_w_:Val} {a_a1:GChk} {a_a2:GTyp} {a_a3:Int} {zc6:Nat} {r:Bool × GChk},f' a_w_ a_a1 a_a2 a_a3=some r→Ctr Tryz.prog 124 [isv (a_w_),immv (PtrB.mk zc6),immv (a_a2),immv (a_a3)] [boxE zc6 (a_a1:GChk)] (fun R H=>R=oneOf [isv (r.1)]∧H=[boxE zc6 (r.2)])
def zbb (f':GChk→Int→Val→Int→Option (Bool × GChk)):Prop :=
 ∀ {a_c:GChk} {a_i:Int} {a_v:Val} {zG:Int} {zaW:Nat} {r:Bool × GChk},f' a_c a_i a_v zG=some r→Ctr Tryz.prog 55 [ptrv zaW (Fld.id GChk),isv (a_i),isv (a_v),isv (zG)] [boxE zaW (a_c:GChk)] (fun R H=>R=oneOf [isv (r.1)]∧H=[boxE zaW (r.2)])
def zbr (f':GChk→GTyp→Val→Int→Option (Bool × GChk)):Prop :=
 ∀ {a_c:GChk} {a_x:GTyp} {a_v:Val} {zG:Int} {zaW:Nat} {r:Bool × GChk},f' a_c a_x a_v zG=some r→Ctr Tryz.prog 87 [ptrv zaW (Fld.id GChk),isv (a_x),isv (a_v),isv (zG)] [boxE zaW (a_c:GChk)] (fun R H=>R=oneOf [isv (r.1)]∧H=[boxE zaW (r.2)])
def zal (f':(List Val)→GChk→GTyp→Int→Option (Bool × GChk)):Prop :=
 ∀ {a_s:(List Val)} {zb9:GChk} {zcF:GTyp} {zeP:Int} {zbl:Nat} {r:Bool × GChk},f' a_s zb9 zcF zeP=some r→Ctr Tryz.prog 123 [isv (a_s),clov 124 [immv (PtrB.mk zbl),immv (zcF),immv (zeP)]] [boxE zbl (zb9:GChk)] (fun R H=>R=oneOf [isv (r.1)]∧H=[boxE zbl (r.2)])
def zaq (f':(List Val)→GChk→GTyp→Int→Option (Int × GChk)):Prop :=
 ∀ {a_s:(List Val)} {zb9:GChk} {zcF:GTyp} {zeP:Int} {zbl:Nat} {r:Int × GChk},f' a_s zb9 zcF zeP=some r→Ctr Tryz.prog 163 [isv (a_s),clov 124 [immv (PtrB.mk zbl),immv (zcF),immv (zeP)]] [boxE zbl (zb9:GChk)] (fun R H=>R=oneOf [isv (r.1)]∧H=[boxE zbl (r.2)])
def zbd (f':GChk→Int→Val→Int→Option (Bool × GChk)):Prop :=
 ∀ {a_c:GChk} {a_i:Int} {a_v:Val} {zG:Int} {zaW:Nat} {r:Bool × GChk},f' a_c a_i a_v zG=some r→Ctr Tryz.prog 88 [ptrv zaW (Fld.id GChk),isv (a_i),isv (a_v),isv (zG)] [boxE zaW (a_c:GChk)] (fun R H=>R=oneOf [isv (r.1)]∧H=[boxE zaW (r.2)])
theorem zfQ {zR:Val→GChk→GTyp→Int→Option (Bool × GChk)} {zW:GChk→Int→Val→Int→Option (Bool × GChk)} {zX:GChk→GTyp→Val→Int→Option (Bool × GChk)} {zu:(List Val)→GChk→GTyp→Int→Option (Bool × GChk)} {zy:(List Val)→GChk→GTyp→Int→Option (Int × GChk)} {zV:GChk→Int→Val→Int→Option (Bool × GChk)} (zbn:za6 zR) (zba:zbb zW) (zbQ:zbr zX) (zas:zal zu) (zax:zaq zy) (zbu:zbd zV):∀ {a_w_:Val} {a_a1:GChk} {a_a2:GTyp} {a_a3:Int} {zc6:Nat} {r:Bool × GChk},zbP zR zW zX zu zy zV a_w_ a_a1 a_a2 a_a3=some r→Ctr Tryz.prog 124 [isv (a_w_),immv (PtrB.mk zc6),immv (a_a2),immv (a_a3)] [boxE zc6 (a_a1:GChk)] (fun R H=>R=oneOf [isv (r.1)]∧H=[boxE zc6 (r.2)]):=by
 intro a_w_ a_a1 a_a2 a_a3 zc6 r h
 unfold zbP at h
 refine zr Tryz.func124 e fun w0 S0 hT=>wsr (oT (zaw (y:=a_w_) e hI (oA e (rnf (wsr (oV (zjJ (α:=GChk) ty99 e) (oV (zI e GTyp.f7 zor e (z:=a_a2.of)) (oV (zd ty3 e) ?_))))))))
 refine oV (zd ty46 e) (oV (zd ty3 e) (zO h fun q1 h=>oV (zan e e q1) (zb h fun y2 hy2 h=>oT (zA (zba hy2) hT (s4 e e e e) k1 (oV (za2 e) (oA e (rnf ?_)))))))
 refine zD ?_
 cases h
 exact zh (.tmp e .nil) k1 ⟨e,e⟩

theorem zgN {zR:Val→GChk→GTyp→Int→Option (Bool × GChk)} {zW:GChk→Int→Val→Int→Option (Bool × GChk)} {zX:GChk→GTyp→Val→Int→Option (Bool × GChk)} {zu:(List Val)→GChk→GTyp→Int→Option (Bool × GChk)} {zy:(List Val)→GChk→GTyp→Int→Option (Int × GChk)} {zV:GChk→Int→Val→Int→Option (Bool × GChk)} (zbn:za6 zR) (zba:zbb zW) (zbQ:zbr zX) (zas:zal zu) (zax:zaq zy) (zbu:zbd zV):∀ {a_c:GChk} {a_i:Int} {a_v:Val} {zG:Int} {zaW:Nat} {r:Bool × GChk},zbI zR zW zX zu zy zV a_c a_i a_v zG=some r→Ctr Tryz.prog 55 [ptrv zaW (Fld.id GChk),isv (a_i),isv (a_v),isv (zG)] [boxE zaW (a_c:GChk)] (fun R H=>R=oneOf [isv (r.1)]∧H=[boxE zaW (r.2)]):=by
 intro a_c a_i a_v zG zaW r h
 unfold zbI at h
 refine zr Tryz.func55 e fun w0 S0 hT=>wsr (oT (zaw (y:=a_v) e hI (oA e (rnf (zp (wsr (oM e (oV (zay e e) ?_))))))))
 refine oM e (zab (jb 22) je .nil h 10 e (fun q1 g1 h=>?_) (fun J2 h hJ2=>?_))
 ·refine oM e (zab (jb 26) je .nil h 3 e (fun q4 g4 h=>?_) (fun J5 h hJ5=>?_))
  ·refine rnf (zg h e (fun _ h=>?_) (fun _ h=>?_))
   ·refine wsr (oA e (rnf (zD (zx ?_))))
    cases h
    exact zh (.tmp e .nil) k1 ⟨e,e⟩
   refine wkf (wsr (oM e (oV (zw e) (oV (zY e GChk.f0 zef) (oV (zY e GTbd.f0 zen) (oV (zY e GTab.f3 zeU) (oT (zH (R:=isv (a_c.tabled.t.types)) ty24 e .here hI (oM e ?_)))))))))
   refine zb h fun y7 hy7 h=>oV (zaz (l:=a_c.tabled.t.types) e hI e sl24 hy7) (oV (zd ty87 e) (oT (zag _ ze87 fun b8=>oT (zo (y':=(y7:GTyp)) ty87 e e hI .here e (zaj (zaQ 9 .here e) (rnf (zp (wsr ?_))))))))
   refine oV (zI e Val.f0 zcy e (z:=a_v.kind)) (oV (zd ty3 e) (oV (zaa e e) (rnf (zg h e (fun _ h=>?_) (fun _ h=>?_)))))
   ·refine wsr (oM e (oM e (oV (zd ty46 e) (zb h fun y9 hy9 h=>oT (zA (zf3 hy9) hT (s3 e e e) k1 (oA e (rnf (zD ?_))))))))
    refine zx ?_
    cases h
    exact zh (.tmp e .nil) k1 ⟨e,e⟩
   refine wkf (zp (wsr (oV (zI e Val.f0 zcy e (z:=a_v.kind)) (oV (zd ty3 e) (oV (zI e GTyp.f0 zdf e (z:=y7.kind)) (oV (zd ty3 e) (oV (zbo e e) (rnf ?_))))))))
   refine zg h e (fun _ h=>?_) (fun _ h=>?_)
   ·refine wsr (oA e (rnf (zD (zx ?_))))
    cases h
    exact zh (.tmp e .nil) k1 ⟨e,e⟩
   refine wkf (zp (wsr (oV (zI e GTyp.f0 zdf e (z:=y7.kind)) (oV (zd ty3 e) (rnf (zB (wsr (oV (zaa e e) ?_))))))))
   refine oA e (rnf (zg h e (fun _ h=>?_) (fun _ h=>?_)))
   ·refine wsr (oV (zd ty46 e) (zb h fun y10 hy10 h=>oT (zA (zb8 hy10) hT (s2 e e) .nil (oM e (zab (jb 63) je .nil h 9 e (fun q11 g11 h=>?_) (fun J12 h hJ12=>?_))))))
    ·refine oA e (rnf (zD (zz (zx ?_))))
     cases h
     exact zh (.tmp e .nil) k1 ⟨e,e⟩
    refine zn (j:=54) h e (fun g13 h=>?_) (fun g13 h=>?_)
    ·refine oK 54 e e e g13 (zI e Val.f1 zcx e (z:=a_v.n)) (oK 54 e e e g13 (zd ty2 e) (oK 54 e e e g13 (zaa e e) (oK 54 e e e g13 (zs e) (zab (jb 62) je .nil h 4 e (fun q14 g14 h=>?_) (fun J15 h hJ15=>?_)))))
     ·exact oV (zi e g13 e) (hJ12 _ () h _ (jk 6 63 e e e))
     refine zn (j:=58) h e (fun g16 h=>?_) (fun g16 h=>?_)
     ·exact oP 58 e e g16 (oP 58 e e g16 (oP 58 e e g16 (oK 54 e e e g13 (zi e g16 e) (hJ15 _ () h _ (jk 4 62 e e e)))))
     exact oK 58 e e e g16 (zI e Val.f1 zcx e (z:=a_v.n)) (oK 58 e e e g16 (zd ty2 e) (oK 58 e e e g16 (zaa e e) (oK 54 e e e g13 (zj e g16 e) (hJ15 _ () h _ (jk 4 62 e e e)))))
    refine oP 54 e e g13 (oP 54 e e g13 (oP 54 e e g13 (oP 54 e e g13 (zk e (dj:=58) e (zk e (dj:=58) e (zk e (dj:=58) e (oP 54 e e g13 (oV (zj e g13 e) ?_))))))))
    exact hJ12 _ () h _ (jk 9 63 e e e)
   refine wsr (oV (zaa e e) (oA e (rnf (zg h e (fun _ h=>?_) (fun _ h=>?_)))))
   ·refine wsr (oV (zd ty46 e) (zb h fun y17 hy17 h=>oT (zA (zb8 hy17) hT (s2 e e) .nil (oM e (zab (jb 79) je .nil h 11 e (fun q18 g18 h=>?_) (fun J19 h hJ19=>?_))))))
    ·refine oA e (rnf (zD (zz (zx ?_))))
     cases h
     exact zh (.tmp e .nil) k1 ⟨e,e⟩
    refine zn (j:=68) h e (fun g20 h=>?_) (fun g20 h=>?_)
    ·refine oK 68 e e e g20 (zI e GTyp.f2 zgv e (z:=y7.con)) (oK 68 e e e g20 (zI e GCon.f3 zk1 e (z:=y7.con.more)) (oK 68 e e e g20 (zd ty4 e) (oK 68 e e e g20 (zs e) (zab (jb 78) je .nil h 6 e (fun q21 g21 h=>?_) (fun J22 h hJ22=>?_)))))
     ·exact oV (zi e g20 e) (hJ19 _ () h _ (jk 6 79 e e e))
     refine zn (j:=72) h e (fun g23 h=>?_) (fun g23 h=>?_)
     ·exact oP 72 e e g23 (oP 72 e e g23 (oP 72 e e g23 (oP 72 e e g23 (oP 72 e e g23 (oK 68 e e e g20 (zi e g23 e) (hJ22 _ () h _ (jk 6 78 e e e)))))))
     exact oK 72 e e e g23 (zI e GTyp.f2 zgv e (z:=y7.con)) (oK 72 e e e g23 (zd ty83 e) (oK 72 e e e g23 (zI e Val.f1 zcx e (z:=a_v.n)) (oK 72 e e e g23 (zd ty2 e) (zb h fun y24 hy24 h=>zai e e (dj:=72) e g23 (zA (zeY hy24) hT (s2 e e) .nil (oK 68 e e e g20 (zj e g23 e) (hJ22 _ () h _ (jk 6 78 e e e))))))))
    refine oP 68 e e g20 (oP 68 e e g20 (oP 68 e e g20 (oP 68 e e g20 (zk e (dj:=72) e (zk e (dj:=72) e (zk e (dj:=72) e (zk e (dj:=72) e (zk e (dj:=72) e ?_))))))))
    exact oP 68 e e g20 (oV (zj e g20 e) (hJ19 _ () h _ (jk 11 79 e e e)))
   refine wsr (oV (zaa e e) (oA e (rnf (zg h e (fun _ h=>?_) (fun _ h=>?_)))))
   ·refine wsr (oV (zd ty46 e) (zb h fun y25 hy25 h=>oT (zA (zb8 hy25) hT (s2 e e) .nil (oM e (zab (jb 90) je .nil h 6 e (fun q26 g26 h=>?_) (fun J27 h hJ27=>?_))))))
    ·refine oA e (rnf (zD (zz (zx ?_))))
     cases h
     exact zh (.tmp e .nil) k1 ⟨e,e⟩
    refine zn (j:=84) h e (fun g28 h=>?_) (fun g28 h=>?_)
    ·exact oK 84 e e e g28 (zd ty87 e) (oK 84 e e e g28 (zI e Val.f1 zcx e (z:=a_v.n)) (oK 84 e e e g28 (zd ty2 e) (zb h fun y29 hy29 h=>zai e e (dj:=84) e g28 (zA (zip hy29) hT (s2 e e) .nil (oK 84 e e e g28 (zcR e e) (oV (zi e g28 e) (hJ27 _ () h _ (jk 6 90 e e e))))))))
    exact oP 84 e e g28 (oP 84 e e g28 (oP 84 e e g28 (oP 84 e e g28 (oP 84 e e g28 (oV (zj e g28 e) (hJ27 _ () h _ (jk 6 90 e e e)))))))
   refine wsr (oV (zaa e e) (oA e (rnf (zg h e (fun _ h=>?_) (fun _ h=>?_)))))
   ·refine wsr (oV (zd ty46 e) (zb h fun y30 hy30 h=>oT (zA (zb8 hy30) hT (s2 e e) .nil (oA e (rnf (zD (zz (zx ?_))))))))
    cases h
    exact zh (.tmp e .nil) k1 ⟨e,e⟩
   refine zp (wsr (oV (zaa e e) (oA e (rnf (zdF (jb 95) je .nil h (fun q31 g31 h=>?_) (fun J32 h hJ32=>?_))))))
   ·refine zg h e (fun _ h=>?_) (fun _ h=>?_)
    ·refine wsr (oM e (oV (zd ty87 e) (oV (zd ty46 e) (zb h fun y33 hy33 h=>oT (zA (zgn hy33) hT (s3 e e e) k1 (oA e (rnf (zD ?_))))))))
     refine zz (zx ?_)
     cases h
     exact zh (.tmp e .nil) k1 ⟨e,e⟩
    refine wsr (oV (zaa e e) (oA e (rnf (zg h e (fun _ h=>?_) (fun _ h=>?_)))))
    ·refine wsr (oM e (oV (zd ty87 e) (oV (zd ty46 e) (oM e (zb h fun y34 hy34 h=>oT (zA (zbQ hy34) hT (s4 e e e e) k1 (oA e (rnf ?_))))))))
     refine zD (zz (zx ?_))
     cases h
     exact zh (.tmp e .nil) k1 ⟨e,e⟩
    refine wsr (oV (zaa e e) (oA e (rnf (zg h e (fun _ h=>?_) (fun _ h=>?_)))))
    ·refine zp (zae (.v 0 (.t 1 (.v 2 (.v 3 (.v 4 (.v 5 (.v 6 (.v 7 (.v 8 (.v 9 (.v 10 (.v 11 (.v 12 (.v 13 (.v 14 (.v 15 (.v 16 (.v 17 (.v 18 (.v 19 (.v 20 (.v 21 (.v 22 (.v 23 (.v 24 (.v 25 (.v 26 (.v 27 (.v 28 (.v 29 (.v 30 (.v 31 (.v 32 (.v 33 (.v 34 (.v 35 (.t 36 (.v 37 (.v 38 .nil))))))))))))))))))))))))))))))))))))))) moOrd (by kernel_rfl) ?_)
     refine zC e (zd ty46 e) (zb h fun y35 hy35 h=>zaK e e (zA (zb8 hy35) hT (s2 e e) .nil (rvm e e (zdk (jb 117) je .nil h 4 e (fun q36 g36 h=>?_) (fun J37 h hJ37=>?_)))))
     ·refine rvm e e (zdk (jb 125) je .nil h 7 e (fun q39 g39 h=>?_) (fun J40 h hJ40=>?_))
      ·refine rvm e e (zdk (jb 131) je .nil h 5 e (fun q42 g42 h=>?_) (fun J43 h hJ43=>?_))
       ·refine rvm e e (zdk (ι:=Bool × GChk) (γ:=Unit) (fun q45 g45=>[(148,isv (q45.1))]) (fun q45 g45=>[boxE zaW (q45.2:GChk)]) k1 h 16 e (fun q45 g45 h=>?_) (fun J46 h hJ46=>?_))
        ·refine zC e (zaM e) (zaA (zE (zD (zz (zx ?_)))))
         cases h
         exact zh (.tmp e .nil) k1 ⟨e,e⟩
        refine zaJ (j:=132) h e (fun g47 h=>?_) (fun g47 h=>?_)
        ·refine rvt 132 e e e g47 (zs e) (rvt 132 e e e g47 (zI e GTyp.f4 zbR e (z:=y7.fields)) (rvt 132 e e e g47 (zd ty85 e) (rvt 132 e e e g47 (zI e Val.f1 zcx e (z:=a_v.n)) (rvt 132 e e e g47 (zd ty2 e) (zb h fun y48 hy48 h=>rvt 132 e e e g47 (zaz (l:=y7.fields) e hI e sl85 hy48) (rvt 132 e e e g47 (zI e GFld.f1 zdA e (z:=y48.ty)) (rvt 132 e e e g47 (zd ty3 e) ?_)))))))
         refine rvt 132 e e e g47 (zI e Val.f3 zet e (z:=a_v.l)) (rvt 132 e e e g47 (zd ty43 e) (zb h fun y49 hy49 h=>rvt 132 e e e g47 (zaz (l:=a_v.l) e hI e sl43 hy49) (rvt 132 e e e g47 (zd ty46 e) (rvt 132 e e e g47 (zs e) (zO h fun q50 h=>rvt 132 e e e g47 (zan e e q50) (zb h fun y51 hy51 h=>?_))))))
         exact zgI e e e (dj:=132) e g47 (zA (zba hy51) hT (s4 e e e e) k1 (zC e (zi e g47 e) (hJ46 _ () h _ (jk 16 148 e e e))))
        refine rpv 132 e e e g47 (rpv 132 e e e g47 (rpv 132 e e e g47 (rpv 132 e e e g47 (rpv 132 e e e g47 (rpv 132 e e e g47 (rpv 132 e e e g47 (rpv 132 e e e g47 (rpv 132 e e e g47 ?_))))))))
        exact rpv 132 e e e g47 (rpv 132 e e e g47 (rpv 132 e e e g47 (rpv 132 e e e g47 (rpv 132 e e e g47 (zcZ e e (dj:=132) e g47 (zC e (zj e g47 e) (hJ46 _ () h _ (jk 16 148 e e e))))))))
       refine zaJ (j:=126) h e (fun g44 h=>?_) (fun g44 h=>?_)
       ·exact rvt 126 e e e g44 (zI e Val.f3 zet e (z:=a_v.l)) (rvt 126 e e e g44 (zd ty43 e) (rvt 126 e e e g44 (zaH (l:=a_v.l) e hI sl43) (rvt 126 e e e g44 (zaa e e) (zC e (zi e g44 e) (hJ43 _ () h _ (jk 5 131 e e e))))))
       exact rpv 126 e e e g44 (rpv 126 e e e g44 (rpv 126 e e e g44 (rpv 126 e e e g44 (zC e (zj e g44 e) (hJ43 _ () h _ (jk 5 131 e e e))))))
      refine zaJ (j:=118) h e (fun g41 h=>?_) (fun g41 h=>?_)
      ·exact rvt 118 e e e g41 (zI e Val.f1 zcx e (z:=a_v.n)) (rvt 118 e e e g41 (zd ty2 e) (rvt 118 e e e g41 (zI e GTyp.f4 zbR e (z:=y7.fields)) (rvt 118 e e e g41 (zd ty85 e) (rvt 118 e e e g41 (zaH (l:=y7.fields) e hI sl85) (rvt 118 e e e g41 (zay e e) (zC e (zi e g41 e) (hJ40 _ () h _ (jk 7 125 e e e))))))))
      exact rpv 118 e e e g41 (rpv 118 e e e g41 (rpv 118 e e e g41 (rpv 118 e e e g41 (rpv 118 e e e g41 (rpv 118 e e e g41 (zC e (zj e g41 e) (hJ40 _ () h _ (jk 7 125 e e e))))))))
     refine zaJ (j:=113) h e (fun g38 h=>?_) (fun g38 h=>?_)
     ·exact rvt 113 e e e g38 (zI e Val.f1 zcx e (z:=a_v.n)) (rvt 113 e e e g38 (zd ty2 e) (rvt 113 e e e g38 (zcR e e) (zC e (zi e g38 e) (hJ37 _ () h _ (jk 4 117 e e e)))))
     exact rpv 113 e e e g38 (rpv 113 e e e g38 (rpv 113 e e e g38 (zC e (zj e g38 e) (hJ37 _ () h _ (jk 4 117 e e e)))))
    refine zp (wsr (oV (zaa e e) (oA e (rnf (zdF (jb 149) je .nil h (fun q52 g52 h=>?_) (fun J53 h hJ53=>?_))))))
    ·refine zg h e (fun _ h=>?_) (fun _ h=>?_)
     ·refine wsr (oM e (oM e (oV (zd ty46 e) (oM e (zb h fun y54 hy54 h=>oT (zA (zbu hy54) hT (s4 e e e e) k1 (oA e (rnf ?_))))))))
      refine zD (zz (zx ?_))
      cases h
      exact zh (.tmp e .nil) k1 ⟨e,e⟩
     refine z6 (zq (zE (wsr (oA e (rnf (zD ?_))))))
     cases h
     exact zh (.tmp e .nil) k1 ⟨e,e⟩
    refine zg h e (fun _ h=>?_) (fun _ h=>?_)
    ·exact z6 (hJ53 _ () h _ (jk 0 149 e e e))
    exact zt (oV (zaa e e) (oA e (zF (hJ53 _ () h _ (jk 2 149 e e e)))))
   refine zg h e (fun _ h=>?_) (fun _ h=>?_)
   ·exact z6 (hJ32 _ () h _ (jk 0 95 e e e))
   exact zt (oV (zaa e e) (oA e (zF (hJ32 _ () h _ (jk 2 95 e e e)))))
  refine zn (j:=23) h e (fun g6 h=>?_) (fun g6 h=>?_)
  ·exact oP 23 e e g6 (oP 23 e e g6 (oV (zi e g6 e) (hJ5 _ () h _ (jk 3 26 e e e))))
  exact oK 23 e e e g6 (zs e) (oK 23 e e e g6 (zb1 e e) (oV (zj e g6 e) (hJ5 _ () h _ (jk 3 26 e e e))))
 refine zn (j:=12) h e (fun g3 h=>?_) (fun g3 h=>?_)
 ·refine oP 12 e e g3 (oP 12 e e g3 (oP 12 e e g3 (oP 12 e e g3 (oP 12 e e g3 (oP 12 e e g3 (oP 12 e e g3 (oP 12 e e g3 (oP 12 e e g3 ?_))))))))
  exact oV (zi e g3 e) (hJ2 _ () h _ (jk 10 22 e e e))
 refine oK 12 e e e g3 (zs e) (oK 12 e e e g3 (zs e) (oK 12 e e e g3 (zw e) (oK 12 e e e g3 (zY e GChk.f0 zef) (oK 12 e e e g3 (zY e GTbd.f0 zen) (oK 12 e e e g3 (zY e GTab.f3 zeU) (zai e e (dj:=12) e g3 (zH (R:=isv (a_c.tabled.t.types)) ty24 e .here hI (oK 12 e e e g3 (zaH (l:=a_c.tabled.t.types) e hI sl24) (oK 12 e e e g3 (zcR e e) ?_)))))))))
 exact oV (zj e g3 e) (hJ2 _ () h _ (jk 10 22 e e e))

theorem zgO {zR:Val→GChk→GTyp→Int→Option (Bool × GChk)} {zW:GChk→Int→Val→Int→Option (Bool × GChk)} {zX:GChk→GTyp→Val→Int→Option (Bool × GChk)} {zu:(List Val)→GChk→GTyp→Int→Option (Bool × GChk)} {zy:(List Val)→GChk→GTyp→Int→Option (Int × GChk)} {zV:GChk→Int→Val→Int→Option (Bool × GChk)} (zbn:za6 zR) (zba:zbb zW) (zbQ:zbr zX) (zas:zal zu) (zax:zaq zy) (zbu:zbd zV):∀ {a_c:GChk} {a_x:GTyp} {a_v:Val} {zG:Int} {zaW:Nat} {r:Bool × GChk},zcc zR zW zX zu zy zV a_c a_x a_v zG=some r→Ctr Tryz.prog 87 [ptrv zaW (Fld.id GChk),isv (a_x),isv (a_v),isv (zG)] [boxE zaW (a_c:GChk)] (fun R H=>R=oneOf [isv (r.1)]∧H=[boxE zaW (r.2)]):=by
 intro a_c a_x a_v zG zaW r h
 unfold zcc at h
 refine zr Tryz.func87 e fun w0 S0 hT=>wsr (oT (zaw (y:=PtrB.mk zaW) e zmZ (oT (zaw (y:=a_x) e hI (oT (zaw (y:=a_v) e hI (oT (zaw (y:=zG) e hI (oA e (rnf (wsr ?_)))))))))))
 refine oV (zd ty46 e) (zb h fun y1 hy1 h=>oT (zA (zb8 hy1) hT (s2 e e) .nil (oM e (zab (jb 23) je .nil h 12 e (fun q2 g2 h=>?_) (fun J3 h hJ3=>?_)))))
 ·refine oM e (zab (ι:=Bool × GChk) (γ:=Unit) (fun q9 g9=>[(30,isv (q9.1))]) (fun q9 g9=>[boxE zaW (q9.2:GChk)]) k1 h 6 e (fun q9 g9 h=>?_) (fun J10 h hJ10=>?_))
  ·refine oA e (rnf (zD ?_))
   cases h
   exact zh (.tmp e .nil) k1 ⟨e,e⟩
  refine zn (j:=24) h e (fun g11 h=>?_) (fun g11 h=>?_)
  ·exact oK 24 e e e g11 (zI e Val.f3 zet e (z:=a_v.l)) (oK 24 e e e g11 (zd ty43 e) (oK 24 e e e g11 (zgd (s3 e e e)) (zb h fun y12 hy12 h=>zai e e (dj:=24) e g11 (zA (zas hy12) hT (s2 e e) k1 (oK 24 e e e g11 (za2 e) (oV (zi e g11 e) (hJ10 _ () h _ (jk 6 30 e e e))))))))
  exact oP 24 e e g11 (oP 24 e e g11 (oP 24 e e g11 (oP 24 e e g11 (oP 24 e e g11 (oV (zj e g11 e) (hJ10 _ () h _ (jk 6 30 e e e)))))))
 refine zn (j:=11) h e (fun g4 h=>?_) (fun g4 h=>?_)
 ·refine oK 11 e e e g4 (zI e GTyp.f2 zgv e (z:=a_x.con)) (oK 11 e e e g4 (zI e GCon.f3 zk1 e (z:=a_x.con.more)) (oK 11 e e e g4 (zd ty4 e) (oK 11 e e e g4 (zs e) (zab (jb 22) je .nil h 7 e (fun q5 g5 h=>?_) (fun J6 h hJ6=>?_)))))
  ·exact oV (zi e g4 e) (hJ3 _ () h _ (jk 6 23 e e e))
  refine zn (j:=15) h e (fun g7 h=>?_) (fun g7 h=>?_)
  ·exact oP 15 e e g7 (oP 15 e e g7 (oP 15 e e g7 (oP 15 e e g7 (oP 15 e e g7 (oP 15 e e g7 (oK 11 e e e g4 (zi e g7 e) (hJ6 _ () h _ (jk 7 22 e e e))))))))
  exact oK 15 e e e g7 (zI e GTyp.f2 zgv e (z:=a_x.con)) (oK 15 e e e g7 (zd ty83 e) (oK 15 e e e g7 (zI e Val.f3 zet e (z:=a_v.l)) (oK 15 e e e g7 (zd ty43 e) (oK 15 e e e g7 (zaH (l:=a_v.l) e hI sl43) (zb h fun y8 hy8 h=>zai e e (dj:=15) e g7 (zA (zeY hy8) hT (s2 e e) .nil (oK 11 e e e g4 (zj e g7 e) (hJ6 _ () h _ (jk 7 22 e e e)))))))))
 refine oP 11 e e g4 (oP 11 e e g4 (oP 11 e e g4 (oP 11 e e g4 (zk e (dj:=15) e (zk e (dj:=15) e (zk e (dj:=15) e (zk e (dj:=15) e (zk e (dj:=15) e ?_))))))))
 exact zk e (dj:=15) e (oP 11 e e g4 (oV (zj e g4 e) (hJ3 _ () h _ (jk 12 23 e e e))))

theorem zcP {zR:Val→GChk→GTyp→Int→Option (Bool × GChk)} {zW:GChk→Int→Val→Int→Option (Bool × GChk)} {zX:GChk→GTyp→Val→Int→Option (Bool × GChk)} {zu:(List Val)→GChk→GTyp→Int→Option (Bool × GChk)} {zy:(List Val)→GChk→GTyp→Int→Option (Int × GChk)} {zV:GChk→Int→Val→Int→Option (Bool × GChk)} (zbn:za6 zR) (zba:zbb zW) (zbQ:zbr zX) (zas:zal zu) (zax:zaq zy) (zbu:zbd zV):∀ {a_s:(List Val)} {zb9:GChk} {zcF:GTyp} {zeP:Int} {zbl:Nat} {r:Bool × GChk},zaB zR zW zX zu zy zV a_s zb9 zcF zeP=some r→Ctr Tryz.prog 123 [isv (a_s),clov 124 [immv (PtrB.mk zbl),immv (zcF),immv (zeP)]] [boxE zbl (zb9:GChk)] (fun R H=>R=oneOf [isv (r.1)]∧H=[boxE zbl (r.2)]):=by
 intro a_s zb9 zcF zeP zbl r h
 unfold zaB at h
 refine zr Tryz.func123 e fun w0 S0 hT=>wsr (oA e (rnf (wsr (oM e (oM e (zb h fun y1 hy1 h=>oT (zA (zax hy1) hT (s2 e e) k1 ?_)))))))
 refine oV (zcR e e) (oA e (rnf (zD ?_)))
 cases h
 exact zh (.tmp e .nil) k1 ⟨e,e⟩

theorem zc4 {zR:Val→GChk→GTyp→Int→Option (Bool × GChk)} {zW:GChk→Int→Val→Int→Option (Bool × GChk)} {zX:GChk→GTyp→Val→Int→Option (Bool × GChk)} {zu:(List Val)→GChk→GTyp→Int→Option (Bool × GChk)} {zy:(List Val)→GChk→GTyp→Int→Option (Int × GChk)} {zV:GChk→Int→Val→Int→Option (Bool × GChk)} (zbn:za6 zR) (zba:zbb zW) (zbQ:zbr zX) (zas:zal zu) (zax:zaq zy) (zbu:zbd zV):∀ {a_s:(List Val)} {zb9:GChk} {zcF:GTyp} {zeP:Int} {zbl:Nat} {r:Int × GChk},zaI zR zW zX zu zy zV a_s zb9 zcF zeP=some r→Ctr Tryz.prog 163 [isv (a_s),clov 124 [immv (PtrB.mk zbl),immv (zcF),immv (zeP)]] [boxE zbl (zb9:GChk)] (fun R H=>R=oneOf [isv (r.1)]∧H=[boxE zbl (r.2)]):=by
 intro a_s zb9 zcF zeP zbl r h
 unfold zaI at h
 refine zr Tryz.func163 e fun w0 S0 hT=>wsr (oA e (rnf (zp (wsr (oM e (oV (zaH (l:=a_s) e hI sl43) (oM e ?_)))))))
 refine rnf (zB (zbx (ι:=Int × GChk) (γ:=Unit) (fun q1 g1=>[(8,isv (q1.1))]) (fun q1 g1=>[boxE zbl (q1.2:GChk)]) h () (za (j:=8) e hI ze) k1 (fun L2 q1 g1 Q9 h hL2 eL2 rL2=>wsr (oV (zay e e) (rnf (zp (zg h e (fun _ h=>?_) (fun _ h=>?_))))))))
 ·refine wkf (zp (zB (wsr (oM e (oA e (rnf (wsr (oM e ?_))))))))
  refine oM e (oM e (zb h fun y6 hy6 h=>oV (zaz (l:=a_s) e hI e sl43 hy6) (oV (zd ty46 e) (zb h fun y7 hy7 h=>oT (zhm e (s1 e) (zbn hy7) hT k1 (fun R H' hR=>?_))))))
  obtain ⟨rfl,rfl⟩:=hR
  refine rnf (zg h e (fun _ h=>?_) (fun _ h=>?_))
  ·refine wsr (oM e (oA e (rnf (zD (zz (zx (rL2 _ (zz ?_))))))))
   refine zx ?_
   cases h
   exact zh (.tmp e .nil) k1 ⟨e,e⟩
  exact z6 (zq (zE (zt (zO h fun q8 h=>oV (zan e e q8) (oM e (zF (hL2 _ () h _ (jk 12 8 e e e))))))))
 refine zam (z8 (eL2 _ _ (zL (zE (wsr (oA e (rnf (zD ?_))))))))
 cases h
 exact zh (.tmp e .nil) k1 ⟨e,e⟩

theorem zf5 {zR:Val→GChk→GTyp→Int→Option (Bool × GChk)} {zW:GChk→Int→Val→Int→Option (Bool × GChk)} {zX:GChk→GTyp→Val→Int→Option (Bool × GChk)} {zu:(List Val)→GChk→GTyp→Int→Option (Bool × GChk)} {zy:(List Val)→GChk→GTyp→Int→Option (Int × GChk)} {zV:GChk→Int→Val→Int→Option (Bool × GChk)} (zbn:za6 zR) (zba:zbb zW) (zbQ:zbr zX) (zas:zal zu) (zax:zaq zy) (zbu:zbd zV):∀ {a_c:GChk} {a_i:Int} {a_v:Val} {zG:Int} {zaW:Nat} {r:Bool × GChk},zcS zR zW zX zu zy zV a_c a_i a_v zG=some r→Ctr Tryz.prog 88 [ptrv zaW (Fld.id GChk),isv (a_i),isv (a_v),isv (zG)] [boxE zaW (a_c:GChk)] (fun R H=>R=oneOf [isv (r.1)]∧H=[boxE zaW (r.2)]):=by
 intro a_c a_i a_v zG zaW r h
 unfold zcS at h
 refine zr Tryz.func88 e fun w0 S0 hT=>wsr (oT (zaw (y:=a_v) e hI (oA e (rnf (wsr (oM e (oV (zw e) (oV (zY e GChk.f0 zef) ?_))))))))
 refine oV (zY e GTbd.f0 zen) (oV (zY e GTab.f3 zeU) (oT (zH (R:=isv (a_c.tabled.t.types)) ty24 e .here hI (oM e (zb h fun y1 hy1 h=>oV (zaz (l:=a_c.tabled.t.types) e hI e sl24 hy1) (oV (zd ty87 e) (oT (zag _ ze87 fun b2=>oT (zo (y':=(y1:GTyp)) ty87 e e hI .here e ?_)))))))))
 refine zaj (zaQ 9 .here e) (rnf (zp (wsr (oV (zd ty46 e) (zb h fun y3 hy3 h=>oT (zA (zb8 hy3) hT (s2 e e) .nil (oV (za2 e) (oM e ?_))))))))
 refine zab (jb 33) je .nil h 8 e (fun q4 g4 h=>?_) (fun J5 h hJ5=>?_)
 ·refine oM e (zab (ι:=Bool × GChk) (γ:=Unit) (fun q7 g7=>[(40,isv (q7.1))]) (fun q7 g7=>[boxE zaW (q7.2:GChk)]) k1 h 6 e (fun q7 g7 h=>?_) (fun J8 h hJ8=>?_))
  ·refine rnf (zg h e (fun _ h=>?_) (fun _ h=>?_))
   ·refine wsr (oA e (rnf (zD (zx ?_))))
    cases h
    exact zh (.tmp e .nil) k1 ⟨e,e⟩
   refine wkf (zp (wsr (oV (zI e GTyp.f4 zbR e (z:=y1.fields)) (oV (zd ty85 e) (oV (zaH (l:=y1.fields) e hI sl85) (oM e (rnf (zB ?_))))))))
   refine zbx (ι:=Int × GChk) (γ:=Unit) (fun q11 g11=>[(44,isv (q11.1))]) (fun q11 g11=>[boxE zaW (q11.2:GChk)]) h () (za (j:=44) e hI ze) k1 (fun L12 q11 g11 Q57 h hL12 eL12 rL12=>wsr (oV (zay e e) (rnf (zp (zg h e (fun _ h=>?_) (fun _ h=>?_))))))
   ·refine wkf (zp (zdF (ι:=GChk) (γ:=Unit) (fun q35 g35=>[]) (fun q35 g35=>[boxE zaW (q35:GChk)]) k1 h (fun q35 g35 h=>?_) (fun J36 h hJ36=>?_)))
    ·exact zt (zO h fun q55 h=>oV (zan e e q55) (oM e (zF (hL12 _ () h _ (jk 4 44 e e e)))))
    refine zB (wsr (oM e (zb h fun y37 hy37 h=>oV (zaz (l:=y1.fields) e hI e sl85 hy37) (oV (zd ty92 e) (oT (zag _ ze92 fun b38=>oA e (oT (zo (y':=(y37:GFld)) ty92 e e hI .here e ?_))))))))
    refine zaj (zaQ 11 .here e) (rnf (wsr (oV (zI e Val.f3 zet e (z:=a_v.l)) (oV (zd ty43 e) (oM e (zb h fun y39 hy39 h=>oV (zaz (l:=a_v.l) e hI e sl43 hy39) (oV (zd ty46 e) ?_)))))))
    refine oT (zag _ ze46 fun b40=>oT (zo (y':=(y39:Val)) ty46 e e hI .here e (zaj (zaQ 12 .here e) (rnf (zB (wsr (oV (zI e Val.f0 zcy e (z:=y39.kind)) (oV (zd ty3 e) (oV (zaa e e) ?_)))))))))
    refine oA e (rnf (zg h e (fun _ h=>?_) (fun _ h=>?_)))
    ·refine wsr (oV (zd ty46 e) (zb h fun y41 hy41 h=>oT (zA (zgV hy41) hT (s1 e) .nil (oV (za2 e) (oM e (zab (jb 66) je .nil h 5 e (fun q42 g42 h=>?_) (fun J43 h hJ43=>?_)))))))
     ·refine rnf (zg h e (fun _ h=>?_) (fun _ h=>?_))
      ·refine wsr (oA e (rnf (zD (zz (zz (zx (rL12 _ (zz ?_))))))))
       refine zx ?_
       cases h
       exact zh (.tmp e .nil) k1 ⟨e,e⟩
      exact z6 (zq (zq (hJ36 _ () h _ (jn 22 e e))))
     refine zn (j:=61) h e (fun g44 h=>?_) (fun g44 h=>?_)
     ·exact oP 61 e e g44 (oP 61 e e g44 (oP 61 e e g44 (oP 61 e e g44 (oV (zi e g44 e) (hJ43 _ () h _ (jk 5 66 e e e))))))
     exact oK 61 e e e g44 (zd ty87 e) (oK 61 e e e g44 (zs e) (zb h fun y45 hy45 h=>zai e e (dj:=61) e g44 (zA (zhJ hy45) hT (s2 e e) .nil (oK 61 e e e g44 (za2 e) (oV (zj e g44 e) (hJ43 _ () h _ (jk 5 66 e e e)))))))
    refine wsr (oM e (oV (zI e GFld.f1 zdA e (z:=y37.ty)) (oV (zd ty3 e) (oV (zd ty46 e) (oM e (zO h fun q46 h=>oV (zan e e q46) (zb h fun y47 hy47 h=>?_)))))))
    refine oT (zA (zba hy47) hT (s4 e e e e) k1 (oV (za2 e) (oM e (zab (jb 85) je .nil h 9 e (fun q48 g48 h=>?_) (fun J49 h hJ49=>?_)))))
    ·refine oA e (rnf (zg h e (fun _ h=>?_) (fun _ h=>?_)))
     ·refine wsr (oA e (rnf (zD (zz (zz (zx (rL12 _ (zz ?_))))))))
      refine zx ?_
      cases h
      exact zh (.tmp e .nil) k1 ⟨e,e⟩
     exact z6 (zq (zq (hJ36 _ () h _ (jn 28 e e))))
    refine zn (j:=76) h e (fun g50 h=>?_) (fun g50 h=>?_)
    ·refine oP 76 e e g50 (oP 76 e e g50 (oP 76 e e g50 (zk e (dj:=79) e (zk e (dj:=79) e (zk e (dj:=79) e (zk e (dj:=79) e (oP 76 e e g50 (oV (zi e g50 e) ?_))))))))
     exact hJ49 _ () h _ (jk 9 85 e e e)
    refine oK 76 e e e g50 (zI e GFld.f3 ziM e (z:=y37.has)) (oK 76 e e e g50 (zd ty4 e) (oK 76 e e e g50 (zs e) (zab (jb 84) je .nil h 5 e (fun q51 g51 h=>?_) (fun J52 h hJ52=>?_))))
    ·exact oV (zj e g50 e) (hJ49 _ () h _ (jk 5 85 e e e))
    refine zn (j:=79) h e (fun g53 h=>?_) (fun g53 h=>?_)
    ·exact oK 79 e e e g53 (zd ty46 e) (oK 79 e e e g53 (zI e GFld.f4 zk4 e (z:=y37.dflt)) (oK 79 e e e g53 (zd ty46 e) (zb h fun y54 hy54 h=>zai e e (dj:=79) e g53 (zA (zlk fuel hy54) hT (s2 e e) .nil (oK 76 e e e g50 (zi e g53 e) (hJ52 _ () h _ (jk 5 84 e e e)))))))
    exact oP 79 e e g53 (oP 79 e e g53 (oP 79 e e g53 (oP 79 e e g53 (oK 76 e e e g50 (zj e g53 e) (hJ52 _ () h _ (jk 5 84 e e e))))))
   refine zam (z8 (eL12 _ _ (zL (zE (wsr (oM e (oM e (oV (zd ty46 e) ?_))))))))
   refine zb h fun y56 hy56 h=>oT (zA (zgi hy56) hT (s3 e e e) k1 (oA e (rnf (zD ?_))))
   cases h
   exact zh (.tmp e .nil) k1 ⟨e,e⟩
  refine zn (j:=34) h e (fun g9 h=>?_) (fun g9 h=>?_)
  ·exact oP 34 e e g9 (oP 34 e e g9 (oP 34 e e g9 (oP 34 e e g9 (oP 34 e e g9 (oV (zi e g9 e) (hJ8 _ () h _ (jk 6 40 e e e)))))))
  exact oK 34 e e e g9 (zs e) (oK 34 e e e g9 (zs e) (oK 34 e e e g9 (zd ty46 e) (zb h fun y10 hy10 h=>zai e e (dj:=34) e g9 (zA (zgR hy10) hT (s3 e e e) k1 (oK 34 e e e g9 (za2 e) (oV (zj e g9 e) (hJ8 _ () h _ (jk 6 40 e e e))))))))
 refine zn (j:=25) h e (fun g6 h=>?_) (fun g6 h=>?_)
 ·exact oP 25 e e g6 (oP 25 e e g6 (oP 25 e e g6 (oP 25 e e g6 (oP 25 e e g6 (oP 25 e e g6 (oP 25 e e g6 (oV (zi e g6 e) (hJ5 _ () h _ (jk 8 33 e e e)))))))))
 exact oK 25 e e e g6 (zI e Val.f3 zet e (z:=a_v.l)) (oK 25 e e e g6 (zd ty43 e) (oK 25 e e e g6 (zaH (l:=a_v.l) e hI sl43) (oK 25 e e e g6 (zI e GTyp.f4 zbR e (z:=y1.fields)) (oK 25 e e e g6 (zd ty85 e) (oK 25 e e e g6 (zaH (l:=y1.fields) e hI sl85) (oK 25 e e e g6 (zbo e e) (oV (zj e g6 e) (hJ5 _ () h _ (jk 8 33 e e e)))))))))

theorem zdb:∀ n,za6 (za4 n)∧zbb (zaC n)∧zbr (zbq n)∧zal (zah n)∧zaq (zao n)∧zbd (zbM n)
 | 0=>⟨fun h=>(by cases h),fun h=>(by cases h),fun h=>(by cases h),fun h=>(by cases h),fun h=>(by cases h),fun h=>(by cases h)⟩
 | n + 1=>by
  obtain ⟨h0,h1,h2,h3,h4,h5⟩:=zdb n
  exact ⟨zfQ h0 h1 h2 h3 h4 h5,zgN h0 h1 h2 h3 h4 h5,zgO h0 h1 h2 h3 h4 h5,zcP h0 h1 h2 h3 h4 h5,zc4 h0 h1 h2 h3 h4 h5,zf5 h0 h1 h2 h3 h4 h5⟩
theorem zhc (n:Nat):zbb (zaC n):=(zdb n).2.1
def zfO (f':Val→Option (Int)):Prop :=
 ∀ {a_v:Val} {r:Int},f' a_v=some r→Ctr Tryz.prog 28 [isv (a_v)] [] (fun R H=>R=oneOf [isv (r)]∧H=[])
theorem zjF {ze7:Val→Option (Int)} (zkj:zfO ze7):∀ {a_v:Val} {r:Int},zdC ze7 a_v=some r→Ctr Tryz.prog 28 [isv (a_v)] [] (fun R H=>R=oneOf [isv (r)]∧H=[]):=by
 intro a_v r h
 unfold zdC at h
 refine zr Tryz.func28 e fun w0 S0 hT=>wsr (oT (zaw (y:=a_v) e hI (oA e (rnf (wsr (oA e (rnf (zp ?_))))))))
 refine wsr (oV (zI e Val.f3 zet e (z:=a_v.l)) (oV (zd ty43 e) (oV (zaH (l:=a_v.l) e hI sl43) (oM e (rnf (zB (zbx (ι:=Int × Int) (γ:=Unit) (fun q1 g1=>[(3,isv (q1.1)),(9,isv (q1.2))]) (fun q1 g1=>[]) h () (za (j:=3) e hI (za (j:=9) e hI ze)) .nil (fun L2 q1 g1 Q13 h hL2 eL2 rL2=>wsr ?_))))))))
 refine oV (zay e e) (rnf (zp (zg h e (fun _ h=>?_) (fun _ h=>?_))))
 ·refine wkf (zp (zB (wsr (zb h fun y8 hy8 h=>oV (zaz (l:=a_v.l) e hI e sl43 hy8) (oV (zd ty46 e) (oT (zag _ ze46 fun b9=>oT (zo (y':=(y8:Val)) ty46 e e hI .here e ?_))))))))
  refine zaj (zaQ 5 .here e) (rnf (zt (oM e (oV (zd ty46 e) (zb h fun y10 hy10 h=>oT (zA (zkj hy10) hT (s1 e) .nil (zO h fun q11 h=>oV (zan e e q11) ?_)))))))
  refine oA e (zF (zq (zE (zt (zO h fun q12 h=>oV (zan e e q12) (oM e (zF ?_)))))))
  exact hL2 _ () h _ (zf 14 e e (za (j:=3) e hI (za (j:=9) e hI ze)) .nil)
 refine zam (z8 (eL2 _ _ (zL (zE (wsr (oM e (oA e (rnf ?_))))))))
 refine zD ?_
 cases h
 exact zh (.tmp e .nil) .nil ⟨e,e⟩

theorem zfC:∀ n,zfO (zdl n)
 | 0=>fun h=>(by cases h)
 | n + 1=>zjF (zfC n)
theorem zhO (n:Nat):zfO (zdl n):=(zfC n)

theorem zeo:∀ {a_t:GTab} {a_i:Int} {a_v:Val} {r:Bool},zcs a_t a_i a_v=some r→Ctr Tryz.prog 25 [isv (a_t),isv (a_i),isv (a_v)] [] (fun R H=>R=oneOf [isv (r)]∧H=[]):=by
 intro a_t a_i a_v r h
 unfold zcs at h
 refine zr Tryz.func25 e fun w0 S0 hT=>wsr (oT (zaw (y:=a_t) e hI (oT (zaw (y:=a_v) e hI (oA e (rnf (wsr (oV (zd ty26 e) (oV (zar (z:=(GTbd.mk a_t)) e bu101 ze101 (.cons GTbd.f0 zen e hI .nil)) ?_)))))))))
 refine oV (zar (z:=(GChk.mk (GTbd.mk a_t) false)) e bu103 ze103 (.cons GChk.f0 zef e hI .nil)) (oT (zjZ (y:=(GChk.mk (GTbd.mk a_t) false)) e hI fun b1=>oA e (rnf (wsr (oM e (oM e (oV (zd ty46 e) (zb h fun y2 hy2 h=>?_))))))))
 refine oT (zA (zhc fuel hy2) hT (s4 e e e e) k1 (oM e (zab (jb 20) je .nil h 4 e (fun q3 g3 h=>?_) (fun J4 h hJ4=>?_))))
 ·refine oA e (rnf (zD ?_))
  cases h
  exact zh (.tmp e .nil) .nil ⟨e,e⟩
 refine zn (j:=16) h e (fun g5 h=>?_) (fun g5 h=>?_)
 ·exact oK 16 e e e g5 (zd ty46 e) (zb h fun y6 hy6 h=>zai e e (dj:=16) e g5 (zA (zhO fuel hy6) hT (s1 e) .nil (oK 16 e e e g5 (zhL e e) (oV (zi e g5 e) (hJ4 _ () h _ (jk 4 20 e e e))))))
 exact oP 16 e e g5 (oP 16 e e g5 (oP 16 e e g5 (oV (zj e g5 e) (hJ4 _ () h _ (jk 4 20 e e e)))))


theorem zkk:∀  {r:Bool},zd1 =some r→Ctr Tryz.prog 24 [] [] (fun R H=>R=oneOf [isv (r)]∧H=[]):=by
 intro  r h
 unfold zd1 at h
 refine zr Tryz.func24 e fun w0 S0 hT=>wsr (oA e (rnf (wsr (zb h fun y1 hy1 h=>oT (zA (zfK hy1) hT (s1 e) .nil (oM e (oV (z7 e e) ?_)))))))
 refine oV (z7 e e) (oT (zag _ ze26 fun b2=>oT (zo (y':=(y1.1:GTab)) ty26 e e hI .here e (zaj (zaQ 1 .here e) (oA e (rnf (wsr (oM e (oM e ?_)))))))))
 refine zab (jb 12) je .nil h 4 e (fun q3 g3 h=>?_) (fun J4 h hJ4=>?_)
 ·refine oM e (zab (jb 18) je .nil h 5 e (fun q7 g7 h=>?_) (fun J8 h hJ8=>?_))
  ·refine oM e (zab (jb 23) je .nil h 4 e (fun q11 g11 h=>?_) (fun J12 h hJ12=>?_))
   ·refine oA e (rnf (zD ?_))
    cases h
    exact zh (.tmp e .nil) .nil ⟨e,e⟩
   refine zn (j:=19) h e (fun g13 h=>?_) (fun g13 h=>?_)
   ·exact oK 19 e e e g13 (zar (z:=(Val.mk (4:Int) (0:Int) ([]:(List UInt8)) ([]:(List Val)) (0:Int) ([]:(List Raw)))) e bu46 ze46 (.cons Val.f0 zcy e hI .nil)) (zb h fun y14 hy14 h=>zai e e (dj:=19) e g13 (zA (zhO fuel hy14) hT (s1 e) .nil (oK 19 e e e g13 (zaa e e) (oV (zi e g13 e) (hJ12 _ () h _ (ji 4 23 e e e))))))
   exact oP 19 e e g13 (oP 19 e e g13 (oP 19 e e g13 (oV (zj e g13 e) (hJ12 _ () h _ (ji 4 23 e e e)))))
  refine zn (j:=13) h e (fun g9 h=>?_) (fun g9 h=>?_)
  ·exact oK 13 e e e g9 (zd ty26 e) (oK 13 e e e g9 (zar (z:=(Val.mk (2:Int) (8:Int) ([]:(List UInt8)) ([]:(List Val)) (0:Int) ([]:(List Raw)))) e bu46 ze46 (.cons Val.f0 zcy e hI (.cons Val.f1 zcx e hI .nil))) (zb h fun y10 hy10 h=>zai e e (dj:=13) e g9 (zA (zeo hy10) hT (s3 e e e) .nil (oK 13 e e e g9 (za2 e) (oV (zi e g9 e) (hJ8 _ () h _ (ji 5 18 e e e)))))))
  exact oP 13 e e g9 (oP 13 e e g9 (oP 13 e e g9 (oP 13 e e g9 (oV (zj e g9 e) (hJ8 _ () h _ (ji 5 18 e e e))))))
 refine zn (j:=8) h e (fun g5 h=>?_) (fun g5 h=>?_)
 ·exact oK 8 e e e g5 (zd ty26 e) (oK 8 e e e g5 (zar (z:=(Val.mk (2:Int) (7:Int) ([]:(List UInt8)) ([]:(List Val)) (0:Int) ([]:(List Raw)))) e bu46 ze46 (.cons Val.f0 zcy e hI (.cons Val.f1 zcx e hI .nil))) (zb h fun y6 hy6 h=>zai e e (dj:=8) e g5 (zA (zeo hy6) hT (s3 e e e) .nil (oV (zi e g5 e) (hJ4 _ () h _ (ji 4 12 e e e))))))
 exact oP 8 e e g5 (oP 8 e e g5 (oP 8 e e g5 (oV (zj e g5 e) (hJ4 _ () h _ (ji 4 12 e e e)))))

end Go.Proofs.Q


namespace Go.Proofs.Q
open Go.Sy
set_option maxRecDepth 4000
def zia (f':UInt64→Option (Str)):Prop :=
 ∀ {a_v:UInt64} {r:Str},f' a_v=some r→Ctr Tryz.prog 23 [isv (a_v)] [] (fun R H=>R=oneOf [isv (r)]∧H=[])
theorem zlL {zhs:UInt64→Option (Str)} (zkb:zia zhs):∀ {a_v:UInt64} {r:Str},zeu zhs a_v=some r→Ctr Tryz.prog 23 [isv (a_v)] [] (fun R H=>R=oneOf [isv (r)]∧H=[]):=by
 intro a_v r h
 unfold zeu at h
 refine zr Tryz.func23 e fun w0 S0 hT=>wsr (oA e (rnf (zp (wsr (oM e (oV (zkW e e) (rnf ?_)))))))
 refine zg h e (fun _ h=>?_) (fun _ h=>?_)
 ·refine wsr (oM e (oV (zjp e e) (oV (zmP Tryz.underlying41 Tryz.underlying5 e) (oT (zZ (l:=([((48:UInt64) + a_v).toUInt8]:(List UInt8))) el42 (.cons e hI .nil) e e (oV (znE (l:=([((48:UInt64) + a_v).toUInt8]:(List UInt8))) Tryz.underlying42 Tryz.underlying5 Tryz.underlying9 e zQ) (oA e (rnf (zD ?_)))))))))
  refine zx ?_
  cases h
  exact zh (.tmp e .nil) .nil ⟨e,e⟩
 refine wkf (zp (zdF (ι:=Str) (γ:=Unit) (fun q2 g2=>[(2,isv (q2))]) (fun q2 g2=>[]) .nil h (fun q2 g2 h=>?_) (fun J3 h hJ3=>?_)))
 ·refine zD ?_
  cases h
  exact zh (.tmp e .nil) .nil ⟨e,e⟩
 refine zae (.v 0 (.v 1 (.v 3 (.v 4 (.v 5 (.v 6 (.alt 2 (.t 7 (.v 8 (.v 9 (.v 10 .nil)))) (.t 7 (.v 8 (.t 2 (.v 9 (.v 10 .nil)))))))))))) moOrd (by kernel_rfl) ?_
 refine rvm e e (zaf h fun q4 h=>zC e (zo8 e e q4) (rvm e e (zaf h fun q5 h=>zC e (zjt e e q5) (zC e (zjp e e) (zC e (zmP Tryz.underlying41 Tryz.underlying5 e) (zb h fun y6 hy6 h=>?_))))))
 refine zaf h fun q8 h=>zfv ?_ ?_
 ·exact zaK e e (zA (zkb hy6) hT (s1 e) .nil (zaK e e (zZ (l:=([((48:UInt64) + (a_v % (10:UInt64))).toUInt8]:(List UInt8))) el42 (.cons e hI .nil) e e (zC e (znE (l:=([((48:UInt64) + (a_v % (10:UInt64))).toUInt8]:(List UInt8))) Tryz.underlying42 Tryz.underlying5 Tryz.underlying9 e zQ) (zC e (zfj e e q8) (zC e (zaM e) (zaA (hJ3 _ () h _ (ji 11 2 e e e)))))))))
 exact zaK e e (zZ (l:=([((48:UInt64) + (a_v % (10:UInt64))).toUInt8]:(List UInt8))) el42 (.cons e hI .nil) e e (zC e (znE (l:=([((48:UInt64) + (a_v % (10:UInt64))).toUInt8]:(List UInt8))) Tryz.underlying42 Tryz.underlying5 Tryz.underlying9 e zQ) (zaK e e (zA (zkb hy6) hT (s1 e) .nil (zC e (zfj e e q8) (zC e (zaM e) (zaA (hJ3 _ () h _ (ji 11 2 e e e)))))))))

theorem zg7:∀ n,zia (zcp n)
 | 0=>fun h=>(by cases h)
 | n + 1=>zlL (zg7 n)
theorem zjW (n:Nat):zia (zcp n):=(zg7 n)
end Go.Proofs.Q


namespace Go.Proofs.Q
open Go.Sy
set_option maxRecDepth 4000
theorem zh3:∀ {zgW:Int} {zfp:Int} {a_v:Int} {a_n_:Int} {zhT:Bool} {r:Bool},zdq zgW zfp a_v a_n_ zhT=some r→Ctr Tryz.prog 4 [isv (zgW),isv (zfp),isv (a_v),isv (a_n_),isv (zhT)] [] (fun R H=>R=oneOf [isv (r)]∧H=[]):=by
 intro zgW zfp a_v a_n_ zhT r h
 unfold zdq at h
 refine zr Tryz.func4 e fun w0 S0 hT=>wsr (oA e (rnf (wsr (oM e (oV (zlQ Tryz.underlying3 Tryz.underlying39 e) (zaf h fun q1 h=>oV (zjt e e q1) ?_))))))
 refine zO h fun q2 h=>oV (zh8 Tryz.underlying39 Tryz.underlying3 e q2) (oM e (oV (zlQ Tryz.underlying3 Tryz.underlying39 e) (zaf h fun q3 h=>oV (zjt e e q3) (zO h fun q4 h=>oV (zh8 Tryz.underlying39 Tryz.underlying3 e q4) (oA e ?_)))))
 refine oA e (rnf (wsr (oM e (oM e (oV (zob e e) (oM e (oM e (oV (zoe e e) ?_))))))))
 refine oA e (oA e (rnf (wsr (oM e (oV (zlQ Tryz.underlying3 Tryz.underlying39 e) (zaf h fun q5 h=>oV (zjt e e q5) (zO h fun q6 h=>?_)))))))
 refine oV (zh8 Tryz.underlying39 Tryz.underlying3 e q6) (oA e (rnf (wsr (oA e (rnf (zp (wsr (oM e ?_))))))))
 refine rnf (zdF (ι:=Str) (γ:=Unit) (fun q7 g7=>[(11,isv (q7))]) (fun q7 g7=>[]) .nil h (fun q7 g7 h=>?_) (fun J8 h hJ8=>?_))
 ·refine wsr (oM e (oV (zlQ Tryz.underlying3 Tryz.underlying41 e) (zb h fun y9 hy9 h=>oT (zA (zjW fuel hy9) hT (s1 e) .nil (zaf h fun q10 h=>oV (zfj e e q10) (oM e (oV (zlQ Tryz.underlying3 Tryz.underlying41 e) ?_)))))))
  refine zb h fun y11 hy11 h=>oT (zA (zjW fuel hy11) hT (s1 e) .nil (zaf h fun q12 h=>oV (zfj e e q12) (oA e (rnf (wsr (oM e (zaf h fun q13 h=>?_)))))))
  refine oV (zfj e e q13) (oM e (zaf h fun q14 h=>oV (zfj e e q14) (zaf h fun q15 h=>oV (zfj e e q15) (oM e (zaf h fun q16 h=>oV (zfj e e q16) ?_)))))
  refine oM e (zaf h fun q17 h=>oV (zfj e e q17) (zaf h fun q18 h=>oV (zfj e e q18) (oM e (zaf h fun q19 h=>oV (zfj e e q19) (oM e ?_)))))
  refine zaf h fun q20 h=>oV (zfj e e q20) (zaf h fun q21 h=>oV (zfj e e q21) (zb h fun y22 hy22 h=>oT (zA (zfK hy22) hT (s1 e) .nil (oM e (oV (z7 e e) (oV (z7 e e) ?_))))))
  refine oT (zag _ ze26 fun b23=>oT (zo (y':=(y22.1:GTab)) ty26 e e hI .here e (zaj (zaQ 13 .here e) (oA e (rnf (wsr (oM e (zak h fun q24 h=>oT (zkq el42 ze5 Tryz.underlying42 e e q24.1 e q24.2 fun v25=>?_)))))))))
  refine oA e (rnf (wsr (oM e (zak h fun q26 h=>oT (zkq el43 ze46 Tryz.underlying43 e e q26.1 e q26.2 fun v27=>oA e (rnf (zp ?_)))))))
  refine wsr (oM e (oV (zh9 sl43 e) (oM e (rnf (zB (zbx (ι:=(List Val) × Int) (γ:=Unit) (fun q28 g28=>[(71,isv (q28.2)),(16,vecv v27 (q28.1.length))]) (fun q28 g28=>[vecE v27 (q28.1:List Val)]) h () (za (j:=71) e hI (za (j:=16) e (vecvE (by first | rfl | simp)) ze)) k1 (fun L29 q28 g28 Q132 h hL29 eL29 rL29=>?_)))))))
  refine wsr (oV (zay e e) (rnf (zp (zg h e (fun _ h=>?_) (fun _ h=>?_)))))
  ·refine wkf (zp (zB (wsr (oM e (oA e (rnf (zt (oM e ?_))))))))
   refine oM e (oV (zar (z:=(Val.mk (4:Int) (0:Int) ([]:(List UInt8)) ([]:(List Val)) (0:Int) ([]:(List Raw)))) e bu46 ze46 (.cons Val.f0 zcy e hI .nil)) (zak h fun q98 h=>oV (zcu (α:=Val) sl43 e e q98.1 q98.2) (zb h fun y99 hy99 h=>oT (zeO ty46 e e .here hy99 (zF (zq (zE ?_)))))))
   exact zt (zO h fun q100 h=>oV (zan e e q100) (oM e (zF (hL29 _ () h _ (zf 11 e e (za (j:=71) e hI (za (j:=16) e (vecvE (by first | rfl | simp)) ze)) k2)))))
  refine zam (z8 (eL29 _ _ (zL (zE (wsr (oM e (oM e (zab (jb 89) je .nil h 9 e (fun q101 g101 h=>?_) (fun J102 h hJ102=>?_)))))))))
  ·refine oA e (rnf (zp (zae (.t 0 (.v 1 (.v 2 (.v 3 (.v 4 (.v 5 (.v 6 (.v 7 (.v 8 (.v 9 (.v 10 (.v 11 (.v 13 (.t 12 (.v 14 (.v 15 (.v 16 (.v 17 (.v 18 (.v 19 (.v 20 (.v 21 (.v 22 (.v 23 (.v 24 (.v 25 (.v 26 (.v 27 (.v 28 (.v 29 (.v 30 (.v 31 (.v 32 (.v 33 (.v 35 (.t 34 (.v 36 (.v 37 (.v 38 (.v 39 (.v 40 (.v 41 (.v 42 (.v 43 (.v 44 (.v 45 (.v 47 (.t 46 (.v 48 (.v 49 (.v 50 .nil))))))))))))))))))))))))))))))))))))))))))))))))))) moOrd (by kernel_rfl) ?_)))
   refine zb h fun y107 hy107 h=>zaK e e (zA (zkk hy107) hT .nil .nil (rvm e e (zdk (jb 93) je .nil h 2 e (fun q108 g108 h=>?_) (fun J109 h hJ109=>?_))))
   ·refine rvm e e (zdk (jb 115) je .nil h 21 e (fun q111 g111 h=>?_) (fun J112 h hJ112=>?_))
    ·refine rvm e e (zdk (jb 127) je (.cons tH .nil) h 11 e (fun q122 g122 h=>?_) (fun J123 h hJ123=>?_))
     ·refine rvm e e (zdk (jb 139) je k1 h 11 e (fun q127 g127 h=>?_) (fun J128 h hJ128=>?_))
      ·refine zC e (zaM e) (zaA (zE (zD ?_)))
       cases h
       exact zh (.tmp e .nil) .nil ⟨e,e⟩
      refine zaJ (j:=128) h e (fun g129 h=>?_) (fun g129 h=>?_)
      ·refine rvt 128 e e e g129 (zd ty26 e) (rvt 128 e e e g129 (zI e GTab.f2 zhY e (z:=y22.1.roots)) (rvt 128 e e e g129 (zd ty23 e) (zb h fun y130 hy130 h=>rvt 128 e e e g129 (zaz (l:=y22.1.roots) e hI e sl23 hy130) (rvt 128 e e e g129 (zd ty3 e) (rvt 128 e e e g129 (zs e) (zfi (zgT 134 .here e (by first | rfl | simp)) ?_))))))
       exact rvt 128 e e e g129 (zar (z:=(Val.mk (10:Int) (0:Int) ([]:(List UInt8)) q28.1 (0:Int) ([]:(List Raw)))) e bu46 ze46 (.cons Val.f0 zcy e hI (.cons Val.f3 zet e hI .nil))) (rvt 128 e e e g129 (zs e) (zb h fun y131 hy131 h=>zgI e e e (dj:=128) e g129 (zA (zeo hy131) hT (s3 e e e) .nil (rvt 128 e e e g129 (zce eq4 e e) (zC e (zi e g129 e) (hJ128 _ () h _ (ji 12 139 e e e)))))))
      refine rpv 128 e e e g129 (rpv 128 e e e g129 (rpv 128 e e e g129 (rpv 128 e e e g129 (rpv 128 e e e g129 (rpv 128 e e e g129 (rpv 128 e e e g129 (rpv 128 e e e g129 (zcZ e e (dj:=128) e g129 ?_))))))))
      exact rpv 128 e e e g129 (zC e (zj e g129 e) (hJ128 _ () h _ (ji 11 139 e e e)))
     refine zaJ (j:=116) h e (fun g124 h=>?_) (fun g124 h=>?_)
     ·refine rvt 116 e e e g124 (zd ty26 e) (rvt 116 e e e g124 (zI e GTab.f2 zhY e (z:=y22.1.roots)) (rvt 116 e e e g124 (zd ty23 e) (zb h fun y125 hy125 h=>rvt 116 e e e g124 (zaz (l:=y22.1.roots) e hI e sl23 hy125) (rvt 116 e e e g124 (zd ty3 e) (rvt 116 e e e g124 (zs e) (zfi (zgT 122 tH e (by first | rfl | simp)) ?_))))))
      exact rvt 116 e e e g124 (zar (z:=(Val.mk (5:Int) (0:Int) (List.replicate ((((UInt64.ofNat (a_n_ % 18446744073709551616).toNat) % (250:UInt64)).toNat:Int)).toNat (0:UInt8)) ([]:(List Val)) (0:Int) ([]:(List Raw)))) e bu46 ze46 (.cons Val.f0 zcy e hI (.cons Val.f2 zc5 e hI .nil))) (rvt 116 e e e g124 (zs e) (zb h fun y126 hy126 h=>zgI e e e (dj:=116) e g124 (zA (zeo hy126) hT (s3 e e e) .nil (rvt 116 e e e g124 (zce eq4 e e) (zC e (zi e g124 e) (hJ123 _ () h _ (jk 12 127 e e e)))))))
     refine rpv 116 e e e g124 (rpv 116 e e e g124 (rpv 116 e e e g124 (rpv 116 e e e g124 (rpv 116 e e e g124 (rpv 116 e e e g124 (rpv 116 e e e g124 (rpv 116 e e e g124 (zcZ e e (dj:=116) e g124 ?_))))))))
     exact rpv 116 e e e g124 (zC e (zj e g124 e) (hJ123 _ () h _ (jk 11 127 e e e)))
    refine zaJ (j:=94) h e (fun g113 h=>?_) (fun g113 h=>?_)
    ·refine rvt 94 e e e g113 (zd ty26 e) (rvt 94 e e e g113 (zI e GTab.f2 zhY e (z:=y22.1.roots)) (rvt 94 e e e g113 (zd ty23 e) (zb h fun y114 hy114 h=>rvt 94 e e e g113 (zaz (l:=y22.1.roots) e hI e sl23 hy114) (rvt 94 e e e g113 (zd ty3 e) (rvt 94 e e e g113 (zs e) (rvt 94 e e e g113 (zar (z:=(Val.mk (2:Int) a_v ([]:(List UInt8)) ([]:(List Val)) (0:Int) ([]:(List Raw)))) e bu46 ze46 (.cons Val.f0 zcy e hI (.cons Val.f1 zcx e hI .nil))) (rvt 94 e e e g113 (zs e) ?_)))))))
     refine zb h fun y115 hy115 h=>zgI e e e (dj:=94) e g113 (zA (zeo hy115) hT (s3 e e e) .nil (rvt 94 e e e g113 (zs e) (zdk (jb 113) je .nil h 9 e (fun q116 g116 h=>?_) (fun J117 h hJ117=>?_))))
     ·exact rvt 94 e e e g113 (zce eq4 e e) (zC e (zi e g113 e) (hJ112 _ () h _ (zf 13 e e (za (j:=115) e hI ze) k2)))
     refine zaJ (j:=104) h e (fun g118 h=>?_) (fun g118 h=>?_)
     ·refine rpv 104 e e e g118 (rpv 104 e e e g118 (rpv 104 e e e g118 (rpv 104 e e e g118 (zbL e e (dj:=108) e (zbL e e (dj:=108) e (zbL e e (dj:=108) e (rpv 104 e e e g118 (rvt 94 e e e g113 (zi e g118 e) ?_))))))))
      exact hJ117 _ () h _ (zf 9 e e (za (j:=113) e hI ze) k2)
     refine rvt 104 e e e g118 (zs e) (rvt 104 e e e g118 (zs e) (rvt 104 e e e g118 (zcR e e) (rvt 104 e e e g118 (zs e) (zdk (jb 112) je .nil h 4 e (fun q119 g119 h=>?_) (fun J120 h hJ120=>?_)))))
     ·exact rvt 94 e e e g113 (zj e g118 e) (hJ117 _ () h _ (zf 6 e e (za (j:=113) e hI ze) k2))
     refine zaJ (j:=108) h e (fun g121 h=>?_) (fun g121 h=>?_)
     ·exact rvt 108 e e e g121 (zs e) (rvt 108 e e e g121 (zs e) (rvt 108 e e e g121 (zhL e e) (rvt 104 e e e g118 (zi e g121 e) (hJ120 _ () h _ (zf 4 e e (za (j:=112) e hI ze) k2)))))
     exact rpv 108 e e e g121 (rpv 108 e e e g121 (rpv 108 e e e g121 (rvt 104 e e e g118 (zj e g121 e) (hJ120 _ () h _ (zf 4 e e (za (j:=112) e hI ze) k2)))))
    refine rpv 94 e e e g113 (rpv 94 e e e g113 (rpv 94 e e e g113 (rpv 94 e e e g113 (rpv 94 e e e g113 (rpv 94 e e e g113 (rpv 94 e e e g113 (rpv 94 e e e g113 (zcZ e e (dj:=94) e g113 ?_))))))))
    refine rpv 94 e e e g113 (zbL e e (dj:=104) e (zbL e e (dj:=104) e (zbL e e (dj:=104) e (zbL e e (dj:=104) e (zbL e e (dj:=108) e (zbL e e (dj:=108) e (zbL e e (dj:=108) e (zbL e e (dj:=104) e ?_))))))))
    exact rpv 94 e e e g113 (rpv 94 e e e g113 (zC e (zj e g113 e) (hJ112 _ () h _ (zf 21 e e (za (j:=115) e hI ze) k2))))
   refine zaJ (j:=91) h e (fun g110 h=>?_) (fun g110 h=>?_)
   ·exact rvt 91 e e e g110 (zs e) (zC e (zi e g110 e) (hJ109 _ () h _ (zf 2 e e (za (j:=93) e hI ze) k2)))
   exact rpv 91 e e e g110 (zC e (zj e g110 e) (hJ109 _ () h _ (zf 2 e e (za (j:=93) e hI ze) k2)))
  refine zn (j:=80) h e (fun g103 h=>?_) (fun g103 h=>?_)
  ·refine oP 80 e e g103 (oP 80 e e g103 (oP 80 e e g103 (oP 80 e e g103 (zk e (dj:=84) e (zk e (dj:=84) e (zk e (dj:=84) e (oP 80 e e g103 (oV (zi e g103 e) ?_))))))))
   exact hJ102 _ () h _ (zf 9 e e (za (j:=89) e hI ze) k2)
  refine oK 80 e e e g103 (zs e) (oK 80 e e e g103 (zs e) (oK 80 e e e g103 (zcR e e) (oK 80 e e e g103 (zs e) (zab (jb 88) je .nil h 4 e (fun q104 g104 h=>?_) (fun J105 h hJ105=>?_)))))
  ·exact oV (zj e g103 e) (hJ102 _ () h _ (zf 6 e e (za (j:=89) e hI ze) k2))
  refine zn (j:=84) h e (fun g106 h=>?_) (fun g106 h=>?_)
  ·exact oK 84 e e e g106 (zs e) (oK 84 e e e g106 (zs e) (oK 84 e e e g106 (zhL e e) (oK 80 e e e g103 (zi e g106 e) (hJ105 _ () h _ (zf 4 e e (za (j:=88) e hI ze) k2)))))
  exact oP 84 e e g106 (oP 84 e e g106 (oP 84 e e g106 (oK 80 e e e g103 (zj e g106 e) (hJ105 _ () h _ (zf 4 e e (za (j:=88) e hI ze) k2)))))
 refine zg h e (fun _ h=>?_) (fun _ h=>?_)
 ·exact zt (oA e (zF (hJ8 _ () h _ (ji 1 11 e e e))))
 exact z6 (hJ8 _ () h _ (ji 0 11 e e e))

end Go.Proofs.Q

