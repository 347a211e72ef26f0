/- Walks, printed by mill.py. -/
import Derived.Test.YtnnijoepfgnlfaaGreatDoorVsA
import Derived.Test.YtnnijoepfgnlfaaGreatDoorVsB
import Derived.Test.YtnnijoepfgnlfaaGreatDoorVsC
import Derived.Test.YtnnijoepfgnlfaaGreatDoorVsD
set_option linter.unusedVariables false
set_option linter.unusedSimpArgs false

namespace Go.Proofs.Q
open Go.Sy
set_option maxRecDepth 4000
theorem zlS:∀ {zfQ:(List (List Tag))} {r:Bool},zfb zfQ=some r→Ctr Tryz.prog 194 [isv (zfQ)] [] (fun R H=>R=oneOf [isv (r)]∧H=[]):=by
 intro zfQ r h
 unfold zfb at h
 refine zq Tryz.func194 e fun w0 S0 hT=>wsr (oA e (rnf (wsr (oA e (rnf (zn (wsr ?_)))))))
 refine oA e (rnf (zB (zhc (zaQ) (za4 (ι:=(List Tag) × Int) (γ:=Tok) (fun q1 g1=>[(3,appv g1 (q1.1)),(4,isv (q1.2))]) (fun q1 g1=>[tokE g1]) h (none) (zd (j:=3) e zb1 (zd (j:=4) e hI ze)) k1 (fun L2 q1 g1 Q55 h hL2 eL2 rL2=>zn (wsr (oM e (oM e ?_))))))))
 refine oV (zaq (l:=zfQ) e hI sl242) (oV (zao e e) (rnf (zf h e (fun _ h=>?_) (fun _ h=>?_))))
 ·refine wkf (zn (zB (wsr (oA e (rnf (zB (za4 (ι:=(List Tag) × Int) (γ:=Tok) (fun q29 g29=>[(3,appv g29 (q29.1)),(5,isv (q29.2))]) (fun q29 g29=>[tokE g29]) h (g1) (zd (j:=3) e hI (zd (j:=5) e hI ze)) k1 (fun L30 q29 g29 Q53 h hL30 eL30 rL30=>zn ?_))))))))
  refine wsr (oM e (oM e (oM e (zb h fun y42 hy42 h=>oV (zam (l:=zfQ) e hI e sl242 hy42) (oV (za ty78 e) (oV (zaq (l:=y42) e hI sl78) (oV (zao e e) ?_)))))))
  refine rnf (zf h e (fun _ h=>?_) (fun _ h=>?_))
  ·refine wkf (zn (zB (zn (wsr (oM e (oM e (oM e (zb h fun y43 hy43 h=>?_))))))))
   refine oV (zam (l:=zfQ) e hI e sl242 hy43) (oV (za ty78 e) (oM e (zb h fun y44 hy44 h=>oV (zam (l:=y43) e hI e sl78 hy44) (oV (za ty31 e) (zb h fun y45 hy45 h=>oT (zx (zig hy45) hT (.cons e zM (s1 e)) .nil (rnf ?_)))))))
   refine zf h e (fun _ h=>?_) (fun _ h=>?_)
   ·refine wsr (oA e (rnf (zA (zo (zw (zo (rL30 _ (zw ?_))))))))
    refine zw (zo (rL2 _ (zw (zo ?_))))
    cases h
    exact zh (.tmp e .nil) .nil ⟨e,e⟩
   refine wkf (zr (oM e (oM e (oM e (zb h fun y46 hy46 h=>oV (zam (l:=zfQ) e hI e sl242 hy46) (oV (za ty78 e) (oM e ?_)))))))
   refine zb h fun y47 hy47 h=>oV (zam (l:=y46) e hI e sl78 hy47) (oV (za ty31 e) (oT (z7 (l:=([y47]:(List Tag))) el78 (.cons e hI .nil) e e (zas h fun q50 h=>oT (zbv (l:=q29.1) (m:=([y47]:(List Tag))) zgK e hI e zM .here q50 fun t49=>oA e (zG (zt ?_)))))))
   exact zD (zr (oM e (zJ h fun q51 h=>oV (zah e e q51) (oA e (zG (hL30 _ (t49) h _ (zg 32 e e (zd (j:=3) e hI (zd (j:=5) e hI ze)) k1)))))))
  refine zaj (zX (eL30 _ _ (zI (zt (zD (zr (oM e (zJ h fun q52 h=>?_))))))))
  exact oV (zah e e q52) (oA e (zG (hL2 _ (g29) h _ (zg 19 e e (zd (j:=3) e hI (zd (j:=4) e hI ze)) k1))))
 refine zaj (zX (eL2 _ _ (zI (zD (wsr (oA e (rnf (zA ?_))))))))
 cases h
 exact zh (.tmp e .nil) .nil ⟨e,e⟩


theorem zfm:∀ {a_x:GMk} {a_l:(List GFld)} {zkf:Bool} {zL:Nat} {zal:Vt} {r:Bool × GMk},zcb a_x a_l zkf=some r→Ctr Tryz.prog 186 [ptrv zL (Fld.id (GMod × Vh × Int)),isv (a_l),isv (zkf)] [boxE zL ((a_x.m,(Vh.mk zal a_x.l.length),a_x.e):(GMod × Vh × Int)),vecE zal (a_x.l:List GTyp)] (fun R H=>R=oneOf [isv (r.1)]∧H=[boxE zL ((r.2.m,(Vh.mk zal r.2.l.length),r.2.e)),vecE zal (r.2.l)]):=by
 intro a_x a_l zkf zL zal r h
 unfold zcb at h
 refine zq Tryz.func186 e fun w0 S0 hT=>wsr (oA e (rnf (wsr (oA e (rnf (zn (wsr ?_)))))))
 refine oA e (rnf (zB (zhc (zaQ) (za4 (ι:=(List (List Tag)) × Int) (γ:=Tok) (fun q2 g2=>[(0,ptrv zL (Fld.id (GMod × Vh × Int))),(7,appv g2 (q2.1)),(8,isv (q2.2))]) (fun q2 g2=>[tokE g2]) h (none) (zd (j:=0) e hI (zd (j:=7) e zb1 (zd (j:=8) e hI ze))) k1 (fun L3 q2 g2 Q43 h hL3 eL3 rL3=>zn (wsr (oM e (oM e ?_))))))))
 refine oV (zaq (l:=a_l) e hI sl85) (oV (zao e e) (rnf (zf h e (fun _ h=>?_) (fun _ h=>?_))))
 ·refine wkf (zn (zB (zn (zn (zdM 0 tH e (fun o23 hn24=>z8 (.v 0 (.v 1 (.v 2 (.v 3 (.v 4 (.v 5 (.v 6 (.v 7 (.v 8 (.t 9 (.v 10 (.v 11 (.v 12 (.v 13 (.v 14 (.v 15 (.v 16 (.v 17 .nil)))))))))))))))))) moOrd (by kernel_rfl) ?_))))))
  refine rvm e e (zy e (zbQ e) (zy e (zhl e zb2 zcW) (zy e (zd6 (R:=vecv zal (a_x.l.length)) ty24 e (List.Mem.head _) isvV1) (rvm e e (rvm e e (zb h fun y25 hy25 h=>zy e (zam (l:=a_l) e hI e sl85 hy25) (zy e (zE e GFld.f1 zdb e (z:=y25.ty)) ?_)))))))
  refine zy e (za ty3 e) (zb h fun y26 hy26 h=>zay e e (zx (zoG fuel hy26) hT (.cons e (fun _ _ h=>vecvE (by first | rfl | simp) _ _ h) (s1 e)) (.cons tH .nil) ?_))
  refine rvm e e (zcZ (jb 32) je .nil h 7 e (fun q27 g27 h=>?_) (fun J28 h hJ28=>?_))
  ·refine zau (za9 0 hn24 e (zD (zf h e (fun _ h=>?_) (fun _ h=>?_))))
   ·refine wsr (oA e (rnf (zA (zo (zw (zo (rL3 _ (zw ?_))))))))
    refine zo ?_
    cases h
    exact zh (.tmp e .nil) k2 ⟨e,e⟩
   refine wkf (zdM 0 .here e (fun o33 hn34=>z8 (.v 0 (.v 1 (.v 2 (.v 3 (.v 4 (.v 5 (.v 6 (.v 7 (.v 8 (.v 9 (.t 10 (.t 11 (.t 12 (.v 13 .nil)))))))))))))) moOrd (by kernel_rfl) ?_))
   refine rvm e e (rvm e e (zy e (zbQ e) (zy e (zhl e zb2 zcW) (zy e (zd6 (R:=vecv zal (a_x.l.length)) ty24 e (List.Mem.head _) isvV1) (rvm e e (rvm e e (zb h fun y35 hy35 h=>zy e (zam (l:=a_l) e hI e sl85 hy35) ?_)))))))
   refine zy e (zE e GFld.f1 zdb e (z:=y35.ty)) (zy e (za ty3 e) (zb h fun y36 hy36 h=>zay e e (zx (zmT fuel hy36) hT (.cons e (fun _ _ h=>vecvE (by first | rfl | simp) _ _ h) (s1 e)) k1 ?_)))
   refine zay e e (z7 (l:=([y36]:(List (List Tag)))) el242 (.cons e hI .nil) e e (zas h fun q39 h=>zay e e (zbv (l:=q2.1) (m:=([y36]:(List (List Tag)))) zqd e hI e zM tH q39 fun t38=>zy e (zaI e) (zau (za9 0 hn34 e (zt (zD (zr ?_))))))))
   exact oM e (zJ h fun q40 h=>oV (zah e e q40) (oA e (zG (hL3 _ (t38) h _ (zg 40 e e (zd (j:=0) e hI (zd (j:=7) e hI (zd (j:=8) e hI ze))) (.cons tH k2))))))
  refine zaG (j:=25) h e (fun g29 h=>?_) (fun g29 h=>?_)
  ·refine rvt 25 e e e g29 (zu e) (rvt 25 e e e g29 (zu e) (zcZ (jb 31) je .nil h 4 e (fun q30 g30 h=>?_) (fun J31 h hJ31=>?_)))
   ·exact zy e (zi e g29 e) (hJ28 _ () h _ (zg 4 e e (zd (j:=32) e hI ze) k2))
   refine zaG (j:=27) h e (fun g32 h=>?_) (fun g32 h=>?_)
   ·exact rpv 27 e e e g32 (rpv 27 e e e g32 (rpv 27 e e e g32 (rvt 25 e e e g29 (zi e g32 e) (hJ31 _ () h _ (zg 4 e e (zd (j:=31) e hI ze) k2)))))
   exact rvt 27 e e e g32 (zu e) (rvt 27 e e e g32 (zaq (l:=a_l) e hI sl85) (rvt 27 e e e g32 (zbn e e) (rvt 25 e e e g29 (zj e g32 e) (hJ31 _ () h _ (zg 4 e e (zd (j:=31) e hI ze) k2)))))
  exact rpv 25 e e e g29 (rpv 25 e e e g29 (zbO e e (dj:=27) e (zbO e e (dj:=27) e (zbO e e (dj:=27) e (rpv 25 e e e g29 (zy e (zj e g29 e) (hJ28 _ () h _ (zg 7 e e (zd (j:=32) e hI ze) k2))))))))
 refine zaj (zX (eL3 _ _ (zI (zD (wsr (oM e (zb h fun y41 hy41 h=>oT (zx (zlS hy41) hT (.cons e zM .nil) .nil ?_))))))))
 refine oA e (rnf (zA ?_))
 cases h
 exact zh (.tmp e .nil) (.cons tH (.cons tH .nil)) ⟨e,e⟩


theorem zkT:∀ {a_t:GTyp} {r:(List Bool)},zf6 a_t=some r→Ctr Tryz.prog 183 [isv (a_t)] [] (fun R H=>R=oneOf [isv (r)]∧H=[]):=by
 intro a_t r h
 unfold zf6 at h
 refine zq Tryz.func183 e fun w0 S0 hT=>wsr (oT (zai (y:=a_t) e hI (oA e (rnf (wsr (oA e (rnf (zn ?_))))))))
 refine wsr (oA e (rnf (zB (zhc (zaQ) (za4 (ι:=(List Bool) × Int) (γ:=Tok) (fun q1 g1=>[(3,appv g1 (q1.1)),(4,isv (q1.2))]) (fun q1 g1=>[tokE g1]) h (none) (zd (j:=3) e zb1 (zd (j:=4) e hI ze)) k1 (fun L2 q1 g1 Q28 h hL2 eL2 rL2=>zn (wsr (oM e ?_))))))))
 refine oV (zE e GTyp.f4 za2 e (z:=a_t.fields)) (oV (za ty85 e) (oV (zaq (l:=a_t.fields) e hI sl85) (oV (zao e e) (rnf (zf h e (fun _ h=>?_) (fun _ h=>?_))))))
 ·refine wkf (zn (zB (zr (oM e (oV (zE e GTyp.f4 za2 e (z:=a_t.fields)) (oV (za ty85 e) (oM e (zb h fun y15 hy15 h=>?_))))))))
  refine oV (zam (l:=a_t.fields) e hI e sl85 hy15) (oV (zE e GFld.f2 zkz e (z:=y15.optional)) (oV (za ty4 e) (oM e (zQ (jb 26) je .nil h 7 e (fun q16 g16 h=>?_) (fun J17 h hJ17=>?_)))))
  ·refine oM e (zQ (jb 32) je .nil h 5 e (fun q20 g20 h=>?_) (fun J21 h hJ21=>?_))
   ·refine oT (z7 (l:=([q20]:(List Bool))) el49 (.cons e hI .nil) e e (zas h fun q25 h=>oT (zbv (l:=q1.1) (m:=([q20]:(List Bool))) zr8 e hI e zM .here q25 fun t24=>oA e (zG (zt (zD (zr (oM e ?_))))))))
    exact zJ h fun q26 h=>oV (zah e e q26) (oA e (zG (hL2 _ (t24) h _ (zg 24 e e (zd (j:=3) e hI (zd (j:=4) e hI ze)) k1))))
   refine zm (j:=27) h e (fun g22 h=>?_) (fun g22 h=>?_)
   ·exact oP 27 e e g22 (oP 27 e e g22 (oP 27 e e g22 (oP 27 e e g22 (oV (zi e g22 e) (hJ21 _ () h _ (jk 5 32 e e e))))))
   exact oK 27 e e e g22 (zu e) (oK 27 e e e g22 (zE e GTyp.f5 zfR e (z:=a_t.root)) (oK 27 e e e g22 (za ty3 e) (oK 27 e e e g22 (zck e e) (oV (zj e g22 e) (hJ21 _ () h _ (jk 5 32 e e e))))))
  refine zm (j:=19) h e (fun g18 h=>?_) (fun g18 h=>?_)
  ·exact oP 19 e e g18 (oP 19 e e g18 (oP 19 e e g18 (oP 19 e e g18 (oP 19 e e g18 (oP 19 e e g18 (oV (zi e g18 e) (hJ17 _ () h _ (jk 7 26 e e e))))))))
  exact oK 19 e e e g18 (zE e GTyp.f4 za2 e (z:=a_t.fields)) (oK 19 e e e g18 (za ty85 e) (oK 19 e e e g18 (zu e) (zb h fun y19 hy19 h=>oK 19 e e e g18 (zam (l:=a_t.fields) e hI e sl85 hy19) (oK 19 e e e g18 (zE e GFld.f3 zhL e (z:=y19.has)) (oK 19 e e e g18 (za ty4 e) (oV (zj e g18 e) (hJ17 _ () h _ (jk 7 26 e e e))))))))
 refine zaj (zX (eL2 _ _ (zI (zD (wsr (oM e (oA e (rnf ?_))))))))
 refine zA ?_
 cases h
 exact zh (.as e zM .nil) .nil ⟨e,e⟩


theorem zlF:∀ {a_t:GTyp} {r:Int},zhn a_t=some r→Ctr Tryz.prog 165 [isv (a_t)] [] (fun R H=>R=oneOf [isv (r)]∧H=[]):=by
 intro a_t r h
 unfold zhn at h
 refine zq Tryz.func165 e fun w0 S0 hT=>wsr (oT (zai (y:=a_t) e hI (oA e (rnf (wsr (oV (za ty87 e) (zb h fun y1 hy1 h=>oT (zx (zkT hy1) hT (s1 e) .nil ?_))))))))
 refine oA e (rnf (wsr (oV (zE e GTyp.f5 zfR e (z:=a_t.root)) (oV (za ty3 e) (oA e (rnf (zn (zB ?_))))))))
 refine za4 (ι:=Int) (γ:=Unit) (fun q2 g2=>[(4,isv (q2))]) (fun q2 g2=>[]) h () (zd (j:=4) e hI ze) .nil (fun L3 q2 g2 Q16 h hL3 eL3 rL3=>zn (wsr (oM e (oV (zbn e e) (oM e (zQ (jb 17) je .nil h 6 e (fun q10 g10 h=>?_) (fun J11 h hJ11=>?_)))))))
 ·refine rnf (zf h e (fun _ h=>?_) (fun _ h=>?_))
  ·refine wkf (zB (zr (oM e (zJ h fun q15 h=>oV (zda e e q15) (oA e (zG (zt ?_)))))))
   exact hL3 _ () h _ (ji 8 4 e e e)
  refine zaj (zX (eL3 _ _ (zI (zD (wsr (oM e (oA e (rnf ?_))))))))
  refine zA ?_
  cases h
  exact zh (.tmp e .nil) .nil ⟨e,e⟩
 refine zm (j:=11) h e (fun g12 h=>?_) (fun g12 h=>?_)
 ·exact oK 11 e e e g12 (zu e) (oK 11 e e e g12 (zu e) (zJ h fun q13 h=>oK 11 e e e g12 (zda e e q13) (zb h fun y14 hy14 h=>oK 11 e e e g12 (zam (l:=y1) e hI e sl49 hy14) (oK 11 e e e g12 (za ty4 e) (oV (zi e g12 e) (hJ11 _ () h _ (ji 6 17 e e e)))))))
 exact oP 11 e e g12 (oP 11 e e g12 (oP 11 e e g12 (oP 11 e e g12 (oP 11 e e g12 (oV (zj e g12 e) (hJ11 _ () h _ (ji 6 17 e e e)))))))


theorem zka:∀ {a_x:GMk} {a_t:GTyp} {zL:Nat} {zal:Vt} {r:Bool × GMk},zdq a_x a_t=some r→Ctr Tryz.prog 176 [ptrv zL (Fld.id (GMod × Vh × Int)),isv (a_t)] [boxE zL ((a_x.m,(Vh.mk zal a_x.l.length),a_x.e):(GMod × Vh × Int)),vecE zal (a_x.l:List GTyp)] (fun R H=>R=oneOf [isv (r.1)]∧H=[boxE zL ((r.2.m,(Vh.mk zal r.2.l.length),r.2.e)),vecE zal (r.2.l)]):=by
 intro a_x a_t zL zal r h
 unfold zdq at h
 refine zq Tryz.func176 e fun w0 S0 hT=>wsr (oT (zai (y:=a_t) e hI (oA e (rnf (zn (wsr (oV (zE e GTyp.f0 zbI e (z:=a_t.kind)) (oV (za ty3 e) ?_))))))))
 refine oV (zaV e e) (rnf (zf h e (fun _ h=>?_) (fun _ h=>?_)))
 ·refine wsr (oM e (oV (zE e GTyp.f4 za2 e (z:=a_t.fields)) (oV (za ty85 e) (oV (zE e GTyp.f6 ziu e (z:=a_t.more)) (oV (za ty4 e) (zb h fun y2 hy2 h=>oT (zx (zfm hy2) hT (s3 e e e) k2 (oA e ?_))))))))
  refine rnf (zA (zo ?_))
  cases h
  exact zh (.tmp e .nil) k2 ⟨e,e⟩
 refine wkf (wsr (oV (za ty87 e) (zb h fun y3 hy3 h=>oT (zx (zkT hy3) hT (s1 e) .nil (oA e (rnf (zn (wsr ?_))))))))
 refine oA e (rnf (zB (za4 (ι:=Int × GMk) (γ:=Unit) (fun q4 g4=>[(6,isv (q4.1))]) (fun q4 g4=>[boxE zL ((q4.2.m,(Vh.mk zal q4.2.l.length),q4.2.e):(GMod × Vh × Int)),vecE zal (q4.2.l:List GTyp)]) h () (zd (j:=6) e hI ze) k2 (fun L5 q4 g4 Q66 h hL5 eL5 rL5=>zn (wsr (oM e (oV (zE e GTyp.f4 za2 e (z:=a_t.fields)) (oV (za ty85 e) ?_))))))))
 refine oV (zaq (l:=a_t.fields) e hI sl85) (oV (zao e e) (rnf (zf h e (fun _ h=>?_) (fun _ h=>?_))))
 ·refine wkf (zn (zdF (ι:=GMk) (γ:=Unit) (fun q36 g36=>[]) (fun q36 g36=>[boxE zL ((q36.m,(Vh.mk zal q36.l.length),q36.e):(GMod × Vh × Int)),vecE zal (q36.l:List GTyp)]) k2 h (fun q36 g36 h=>?_) (fun J37 h hJ37=>?_)))
  ·exact zr (oM e (zJ h fun q59 h=>oV (zah e e q59) (oA e (zG (hL5 _ () h _ (zg 9 e e (zd (j:=6) e hI ze) k2))))))
  refine zB (zn (wsr (oM e (oM e (zb h fun y38 hy38 h=>oV (zam (l:=y3) e hI e sl49 hy38) (oV (za ty4 e) (oV (zaD e) ?_)))))))
  refine rnf (zf h e (fun _ h=>?_) (fun _ h=>?_))
  ·exact zaj (zX (zI (hJ37 _ () h _ (zg 5 e e ze k2))))
  refine wkf (wsr (oM e (zJ h fun q39 h=>oV (zah e e q39) (oA e (rnf (zn (zB ?_)))))))
  refine za4 (ι:=Int) (γ:=Unit) (fun q40 g40=>[(7,isv (q40))]) (fun q40 g40=>[]) h () (zd (j:=7) e hI ze) .nil (fun L41 q40 g40 Q58 h hL41 eL41 rL41=>zn (wsr (oM e (oV (zE e GTyp.f4 za2 e (z:=a_t.fields)) (oV (za ty85 e) (oV (zaq (l:=a_t.fields) e hI sl85) (oV (zao e e) (oM e ?_))))))))
  refine zQ (jb 43) je .nil h 5 e (fun q50 g50 h=>?_) (fun J51 h hJ51=>?_)
  ·refine rnf (zf h e (fun _ h=>?_) (fun _ h=>?_))
   ·refine wkf (zB (zr (oM e (zJ h fun q54 h=>oV (zah e e q54) (oA e (zG (zt ?_)))))))
    exact hL41 _ () h _ (zg 11 e e (zd (j:=7) e hI ze) k2)
   refine zaj (zX (eL41 _ _ (zI (zD (wsr (oM e (oV (zE e GTyp.f4 za2 e (z:=a_t.fields)) (oV (za ty85 e) ?_))))))))
   refine oM e (oM e (zJ h fun q55 h=>oV (zah e e q55) (oV (zE e GTyp.f4 za2 e (z:=a_t.fields)) (oV (za ty85 e) (oV (zaq (l:=a_t.fields) e hI sl85) (oV (zsg e e) (zap h fun q56 h=>?_)))))))
   refine oV (zfk (l:=a_t.fields) e hI sl85 (.inr ⟨_,e,e⟩) (.inr ⟨_,e,e⟩) q56.1 q56.2.1 q56.2.2) (zb h fun y57 hy57 h=>oT (zx (zfm hy57) hT (s3 e e e) k2 (oV (zaD e) (rnf (zf h e (fun _ h=>?_) (fun _ h=>?_))))))
   ·refine wsr (oA e (rnf (zA (zw (zo (rL5 _ (zw (zo ?_))))))))
    cases h
    exact zh (.tmp e .nil) k2 ⟨e,e⟩
   exact zZ (zt (hJ37 _ () h _ (zg 29 e e ze k2)))
  refine zm (j:=38) h e (fun g52 h=>?_) (fun g52 h=>?_)
  ·exact oK 38 e e e g52 (zu e) (oK 38 e e e g52 (zu e) (zb h fun y53 hy53 h=>oK 38 e e e g52 (zam (l:=y3) e hI e sl49 hy53) (oK 38 e e e g52 (za ty4 e) (oV (zi e g52 e) (hJ51 _ () h _ (zg 5 e e (zd (j:=43) e hI ze) k2))))))
  exact oP 38 e e g52 (oP 38 e e g52 (oP 38 e e g52 (oP 38 e e g52 (oV (zj e g52 e) (hJ51 _ () h _ (zg 5 e e (zd (j:=43) e hI ze) k2))))))
 refine zaj (zX (eL5 _ _ (zI (zD (zn (z8 (.v 0 (.v 1 (.v 2 (.v 3 (.v 4 (.v 5 (.v 6 (.v 7 (.t 8 (.v 9 (.t 10 (.v 11 (.v 12 .nil))))))))))))) moOrd (by kernel_rfl) ?_))))))
 refine zy e (zE e GTyp.f6 ziu e (z:=a_t.more)) (zy e (za ty4 e) (zy e (zaD e) (rvm e e (zcZ (ι:=Bool × GMk) (γ:=Unit) (fun q60 g60=>[(70,isv (q60.1))]) (fun q60 g60=>[boxE zL ((q60.2.m,(Vh.mk zal q60.2.l.length),q60.2.e):(GMod × Vh × Int)),vecE zal (q60.2.l:List GTyp)]) k2 h 8 e (fun q60 g60 h=>?_) (fun J61 h hJ61=>?_)))))
 ·refine zy e (zaI e) (zau (zD (zA ?_)))
  cases h
  exact zh (.tmp e .nil) k2 ⟨e,e⟩
 refine zaG (j:=62) h e (fun g62 h=>?_) (fun g62 h=>?_)
 ·exact rpv 62 e e e g62 (rpv 62 e e e g62 (rpv 62 e e e g62 (rpv 62 e e e g62 (zcp e e (dj:=62) e g62 (rpv 62 e e e g62 (zcp e e (dj:=62) e g62 (zy e (zi e g62 e) (hJ61 _ () h _ (zg 8 e e (zd (j:=70) e hI ze) k2)))))))))
 refine rvt 62 e e e g62 (zu e) (rvt 62 e e e g62 (zE e GTyp.f4 za2 e (z:=a_t.fields)) (rvt 62 e e e g62 (za ty85 e) (rvt 62 e e e g62 (za ty87 e) (zb h fun y63 hy63 h=>zfW e e e (dj:=62) e g62 (zx (zlF hy63) hT (s1 e) .nil (zap h fun q64 h=>rvt 62 e e e g62 (zfk (l:=a_t.fields) e hI sl85 (.inr ⟨_,e,e⟩) (.inl ⟨e,e⟩) q64.1 q64.2.1 q64.2.2) (zb h fun y65 hy65 h=>?_)))))))
 exact zfW e e e (dj:=62) e g62 (zx (zfm hy65) hT (s3 e e e) k2 (zy e (zj e g62 e) (hJ61 _ () h _ (zg 8 e e (zd (j:=70) e hI ze) k2))))


def zdi (f':GMk→Int→GNode→Int→Option (GMk)):Prop :=
 ∀ {a_x:GMk} {a_i:Int} {a_n_:GNode} {zH:Int} {zL:Nat} {zal:Vt} {r:GMk},f' a_x a_i a_n_ zH=some r→Ctr Tryz.prog 154 [ptrv zL (Fld.id (GMod × Vh × Int)),isv (a_i),isv (a_n_),isv (zH)] [boxE zL ((a_x.m,(Vh.mk zal a_x.l.length),a_x.e):(GMod × Vh × Int)),vecE zal (a_x.l:List GTyp)] (fun R H=>∃ u1:Vt,R=oneOf []∧H=[boxE zL ((r.m,(Vh.mk u1 r.l.length),r.e)),vecE u1 (r.l)])
def zc5 (f':GMk→Int→Int→Option (Int × GMk)):Prop :=
 ∀ {a_x:GMk} {a_k:Int} {zH:Int} {zL:Nat} {zal:Vt} {r:Int × GMk},f' a_x a_k zH=some r→Ctr Tryz.prog 77 [ptrv zL (Fld.id (GMod × Vh × Int)),isv (a_k),isv (zH)] [boxE zL ((a_x.m,(Vh.mk zal a_x.l.length),a_x.e):(GMod × Vh × Int)),vecE zal (a_x.l:List GTyp)] (fun R H=>∃ u1:Vt,R=oneOf [isv (r.1)]∧H=[boxE zL ((r.2.m,(Vh.mk u1 r.2.l.length),r.2.e)),vecE u1 (r.2.l)])
def zdT (f':GMk→GNode→Int→Option (Int × GMk)):Prop :=
 ∀ {a_x:GMk} {a_n_:GNode} {zH:Int} {zL:Nat} {zal:Vt} {r:Int × GMk},f' a_x a_n_ zH=some r→Ctr Tryz.prog 113 [ptrv zL (Fld.id (GMod × Vh × Int)),isv (a_n_),isv (zH)] [boxE zL ((a_x.m,(Vh.mk zal a_x.l.length),a_x.e):(GMod × Vh × Int)),vecE zal (a_x.l:List GTyp)] (fun R H=>∃ u1:Vt,R=oneOf [isv (r.1)]∧H=[boxE zL ((r.2.m,(Vh.mk u1 r.2.l.length),r.2.e)),vecE u1 (r.2.l)])
theorem zi9 {zaX:GMk→Int→GNode→Int→Option (GMk)} {zaW:GMk→Int→Int→Option (Int × GMk)} {za7:GMk→GNode→Int→Option (Int × GMk)} (zeC:zdi zaX) (zb8:zc5 zaW) (zfo:zdT za7):∀ {a_x:GMk} {a_i:Int} {a_n_:GNode} {zH:Int} {zL:Nat} {zal:Vt} {r:GMk},zcC zaX zaW za7 a_x a_i a_n_ zH=some r→Ctr Tryz.prog 154 [ptrv zL (Fld.id (GMod × Vh × Int)),isv (a_i),isv (a_n_),isv (zH)] [boxE zL ((a_x.m,(Vh.mk zal a_x.l.length),a_x.e):(GMod × Vh × Int)),vecE zal (a_x.l:List GTyp)] (fun R H=>∃ u1:Vt,R=oneOf []∧H=[boxE zL ((r.m,(Vh.mk u1 r.l.length),r.e)),vecE u1 (r.l)]):=by
 intro a_x a_i a_n_ zH zL zal r h
 unfold zcC at h
 refine zq Tryz.func154 e fun w0 S0 hT=>wsr (oT (zai (y:=a_n_) e hI (rnf (wsr (oM e (oV (zz e) (oV (zae e zfv zhH) (oV (zae e GMod.f1 zm3) ?_))))))))
 refine oT (zK (R:=isv (a_x.m.tagging)) ty3 e .here hI (oV (zaV e e) (oA e (rnf (zn (wsr (oA e (rnf (zB ?_)))))))))
 refine za4 (ι:=Bool × Int) (γ:=Unit) (fun q2 g2=>[(0,ptrv zL (Fld.id (GMod × Vh × Int))),(8,isv (q2.1)),(9,isv (q2.2))]) (fun q2 g2=>[]) h () (zd (j:=0) e hI (zd (j:=8) e hI (zd (j:=9) e hI ze))) .nil (fun L3 q2 g2 Q336 h hL3 eL3 rL3=>zn (wsr (oM e (oV (zE e GNode.f5 zdZ e (z:=a_n_.fields)) (oV (za ty85 e) (oV (zaq (l:=a_n_.fields) e hI sl85) (oV (zao e e) (rnf ?_))))))))
 refine zf h e (fun _ h=>?_) (fun _ h=>?_)
 ·refine wkf (zn (zB (wsr (oV (zE e GNode.f5 zdZ e (z:=a_n_.fields)) (oV (za ty85 e) (oM e (zb h fun y170 hy170 h=>oV (zam (l:=a_n_.fields) e hI e sl85 hy170) ?_)))))))
  refine oV (za ty92 e) (oT (zac _ ze92 fun b171=>oT (zp (y':=(y170:GFld)) ty92 e e hI .here e (zY (zaE 10 .here e) (rnf (zdM 0 .here e (fun o172 hn173=>z8 (.v 0 (.v 1 (.v 2 (.v 3 (.v 4 (.v 5 (.v 6 (.v 7 (.v 8 (.v 9 (.v 10 (.v 11 (.v 12 (.v 13 (.v 14 .nil))))))))))))))) moOrd (by kernel_rfl) ?_)))))))
  refine rvm e e (rvm e e (zcZ (jb 46) je .nil h 12 e (fun q174 g174 h=>?_) (fun J175 h hJ175=>?_)))
  ·refine zy e (zaI e) (zau (za9 0 hn173 e (zt (zD (zr (oM e (zJ h fun q178 h=>oV (zah e e q178) ?_)))))))
   exact oA e (zG (hL3 _ () h _ (zg 24 e e (zd (j:=0) e hI (zd (j:=8) e hI (zd (j:=9) e hI ze))) k2)))
  refine zaG (j:=34) h e (fun g176 h=>?_) (fun g176 h=>?_)
  ·refine rpv 34 e e e g176 (rpv 34 e e e g176 (rpv 34 e e e g176 (rpv 34 e e e g176 (rpv 34 e e e g176 (rpv 34 e e e g176 (rpv 34 e e e g176 (rpv 34 e e e g176 (rpv 34 e e e g176 ?_))))))))
   exact rpv 34 e e e g176 (rpv 34 e e e g176 (zy e (zi e g176 e) (hJ175 _ () h _ (jk 12 46 e e e))))
  refine rvt 34 e e e g176 (zu e) (rvt 34 e e e g176 (zbQ e) (rvt 34 e e e g176 (zhl e zfv zhH) (rvt 34 e e e g176 (zhl e GMod.f4 zhZ) (rvt 34 e e e g176 (zd6 (R:=isv (a_x.m.nodes)) ty71 e (List.Mem.head _) hI) (rvt 34 e e e g176 (zE e GFld.f1 zdb e (z:=y170.ty)) (rvt 34 e e e g176 (za ty3 e) (zb h fun y177 hy177 h=>rvt 34 e e e g176 (zam (l:=a_x.m.nodes) e hI e sl71 hy177) ?_)))))))
  exact rvt 34 e e e g176 (zE e GNode.f2 zgR e (z:=y177.mark)) (rvt 34 e e e g176 (zE e GMark.f0 zmL e (z:=y177.mark.has)) (rvt 34 e e e g176 (za ty4 e) (zy e (zj e g176 e) (hJ175 _ () h _ (jk 12 46 e e e)))))
 refine zaj (zX (eL3 _ _ (zI (zD (zn (wsr (oV (zE e GNode.f0 zb5 e (z:=a_n_.kind)) (oV (za ty3 e) ?_))))))))
 refine oV (zP e e) (oM e (zQ (jb 55) je .nil h 5 e (fun q179 g179 h=>?_) (fun J180 h hJ180=>?_)))
 ·refine oM e (zQ (jb 60) je .nil h 4 e (fun q182 g182 h=>?_) (fun J183 h hJ183=>?_))
  ·refine rnf (zdF (ι:=GMk) (γ:=Unit) (fun q185 g185=>[]) (fun q185 g185=>[boxE zL ((q185.m,(Vh.mk zal q185.l.length),q185.e):(GMod × Vh × Int)),vecE zal (q185.l:List GTyp)]) k2 h (fun q185 g185 h=>?_) (fun J186 h hJ186=>?_))
   ·refine wsr (oA e (rnf (zn (wsr (oA e (rnf (zB (zhc (zaQ) ?_))))))))
    refine za4 (ι:=(List GFld) × Int × GMk) (γ:=Tok × Vt) (fun q188 g188=>[(11,appv g188.1 (q188.1)),(12,isv (q188.2.1))]) (fun q188 g188=>[tokE g188.1,boxE zL ((q188.2.2.m,(Vh.mk g188.2 q188.2.2.l.length),q188.2.2.e):(GMod × Vh × Int)),vecE g188.2 (q188.2.2.l:List GTyp)]) h (none,zal) (zd (j:=11) e zb1 (zd (j:=12) e hI ze)) k3 (fun L189 q188 g188 Q335 h hL189 eL189 rL189=>zn (wsr (oM e (oV (zE e GNode.f5 zdZ e (z:=a_n_.fields)) (oV (za ty85 e) (oV (zaq (l:=a_n_.fields) e hI sl85) (oV (zao e e) (oM e ?_))))))))
    refine zQ (jb 74) je .nil h 6 e (fun q262 g262 h=>?_) (fun J263 h hJ263=>?_)
    ·refine rnf (zf h e (fun _ h=>?_) (fun _ h=>?_))
     ·refine wkf (zn (zB (wsr (oV (zE e GNode.f5 zdZ e (z:=a_n_.fields)) (oV (za ty85 e) (oM e (zb h fun y265 hy265 h=>oV (zam (l:=a_n_.fields) e hI e sl85 hy265) ?_)))))))
      refine oV (za ty92 e) (oT (zac _ ze92 fun b266=>oT (zp (y':=(y265:GFld)) ty92 e e hI .here e (rnf (zn (wsr (oA e (rnf (zB ?_)))))))))
      refine za4 (ι:=Int × GMk) (γ:=Unit) (fun q267 g267=>[(13,ptrv b266 (Fld.id GFld)),(14,isv (q267.1))]) (fun q267 g267=>[boxE zL ((q267.2.m,(Vh.mk g188.2 q267.2.l.length),q267.2.e):(GMod × Vh × Int)),vecE g188.2 (q267.2.l:List GTyp)]) h () (zd (j:=13) e hI (zd (j:=14) e hI ze)) (.cons tI (.cons tI .nil)) (fun L268 q267 g267 Q327 h hL268 eL268 rL268=>zn (wsr (oM e (oM e (oV (zao e e) (rnf (zf h e (fun _ h=>?_) (fun _ h=>?_))))))))
      ·refine wkf (zn (zdF (ι:=GMk) (γ:=Unit) (fun q298 g298=>[(13,ptrv b266 (Fld.id GFld))]) (fun q298 g298=>[boxE zL ((q298.m,(Vh.mk g188.2 q298.l.length),q298.e):(GMod × Vh × Int)),vecE g188.2 (q298.l:List GTyp)]) k2 h (fun q298 g298 h=>?_) (fun J299 h hJ299=>?_)))
       ·exact zr (oM e (zJ h fun q304 h=>oV (zah e e q304) (oA e (zG (hL268 _ () h _ (zg 9 e e (zd (j:=13) e hI (zd (j:=14) e hI ze)) k4))))))
       refine zB (zn (zdM 13 tI e (fun o300 hn301=>z8 (.v 0 (.v 1 (.v 2 (.v 3 (.v 4 (.v 5 (.v 6 (.v 7 (.v 8 .nil))))))))) moOrd (by kernel_rfl) ?_)))
       refine zy e (zE e GNode.f5 zdZ e (z:=a_n_.fields)) (zy e (za ty85 e) (rvm e e (zb h fun y302 hy302 h=>zy e (zam (l:=a_n_.fields) e hI e sl85 hy302) (zy e (zE e GFld.f0 zou e (z:=y302.name)) (zy e (za ty9 e) (zy e (zhl e GFld.f0 zou) (zy e (zd6 (R:=isv (y265.name)) ty9 e (List.Mem.head _) hI) ?_)))))))
       refine zy e (zcs eq9 e e) (zau (za9 13 hn301 e (zD (zf h e (fun _ h=>?_) (fun _ h=>?_)))))
       ·exact zr (oM e (zb h fun y303 hy303 h=>oT (zx (zbA hy303) hT (s2 e e) (.cons tH (.cons tH .nil)) (zG (zt (hJ299 _ () h _ (zg 13 e e (zd (j:=13) e hI ze) k4)))))))
       exact zZ (zt (hJ299 _ () h _ (zg 11 e e (zd (j:=13) e hI ze) (.cons tH (.cons tH k2)))))
      refine zaj (zX (eL268 _ _ (zI (zD (wsr (oM e (oV (zae e GFld.f1 zdb) (oT (zK (R:=isv (y265.ty)) ty3 e tI hI ?_)))))))))
      refine oM e (zJ h fun q305 h=>oV (zah e e q305) (zb h fun y306 hy306 h=>oT (zR (zb8 hy306) hT (s3 e e e) k2 (fun R H' hR=>?_))))
      obtain ⟨v307,rfl,rfl⟩:=hR
      refine oV (zae e GFld.f1 zdb) (oT (zp (y':=({ y265 with ty:=y306.1 }:GFld)) ty3 e e hI tI e (rnf (zn (wsr (oM e (oV (zz e) (oV (zae e zcK zel) (oT (zK (R:=isv (y306.2.e)) ty65 e tH hI ?_))))))))))
      refine oV (zP e e) (oM e (zQ (jb 113) je .nil h 3 e (fun q308 g308 h=>?_) (fun J309 h hJ309=>?_)))
      ·refine rnf (zdF (ι:=GFld × GMk) (γ:=Unit) (fun q311 g311=>[]) (fun q311 g311=>[boxE b266 (q311.1:GFld),boxE zL ((q311.2.m,(Vh.mk v307 q311.2.l.length),q311.2.e):(GMod × Vh × Int)),vecE v307 (q311.2.l:List GTyp)]) k3 h (fun q311 g311 h=>?_) (fun J312 h hJ312=>?_))
       ·refine zn (wsr (oM e (oV (zz e) (oV (zae e zcK zel) (oT (zK (R:=isv (q311.2.e)) ty65 e tH hI (oV (zP e e) (oM e (zQ (jb 129) je .nil h 3 e (fun q314 g314 h=>?_) (fun J315 h hJ315=>?_))))))))))
        ·refine rnf (zdF (ι:=GMk) (γ:=Unit) (fun q317 g317=>[(13,ptrv b266 (Fld.id GFld))]) (fun q317 g317=>[boxE zL ((q317.m,(Vh.mk v307 q317.l.length),q317.e):(GMod × Vh × Int)),vecE v307 (q317.l:List GTyp)]) (.cons tH (.cons tH .nil)) h (fun q317 g317 h=>?_) (fun J318 h hJ318=>?_))
         ·refine zr (oM e (oT (zK (R:=isv (q311.1)) ty92 e tI hI (oT (z7 (l:=([q311.1]:(List GFld))) el85 (.cons e hI .nil) e e (zas h fun q325 h=>oT (zbv (l:=q188.1) (m:=([q311.1]:(List GFld))) zni e hI e zM (.there tI) q325 fun t324=>oA e (zG (zt ?_)))))))))
          exact zD (zr (oM e (zJ h fun q326 h=>oV (zah e e q326) (oA e (zG (hL189 _ (t324,v307) h _ (zg 51 e e (zd (j:=11) e hI (zd (j:=12) e hI ze)) k3)))))))
         refine zf h e (fun _ h=>?_) (fun _ h=>?_)
         ·refine zdM 13 .here e (fun o319 hn320=>z8 (.v 0 (.v 1 (.v 2 (.v 3 (.v 4 (.v 5 (.v 6 (.t 7 (.t 8 .nil))))))))) moOrd (by kernel_rfl) ?_)
          refine rvm e e (zy e (zhl e GFld.f1 zdb) (zy e (zd6 (R:=isv (q311.1.ty)) ty3 e (List.Mem.head _) hI) (rvm e e (rvm e e (zy e (zhl e GFld.f1 zdb) (zy e (zd6 (R:=isv (q311.1.ty)) ty3 e (List.Mem.head _) hI) (zb h fun y321 hy321 h=>zay e e (zx (zhd hy321) hT (s2 e e) k2 ?_))))))))
          exact zb h fun y322 hy322 h=>zay e e (zx (zht hy322) hT (s4 e e e e) k2 (zau (za9 13 hn320 e (hJ318 _ () h _ (zg 11 e e (zd (j:=13) e hI ze) (.cons tH (.cons tH k2)))))))
         exact zZ (hJ318 _ () h _ (zg 0 e e (zd (j:=13) e hI ze) (.cons tH (.cons tH k2))))
        refine zm (j:=126) h e (fun g316 h=>?_) (fun g316 h=>?_)
        ·exact oK 126 e e e g316 (zu e) (oK 126 e e e g316 (zaD e) (oV (zi e g316 e) (hJ315 _ () h _ (zg 3 e e (zd (j:=129) e hI ze) k4))))
        exact oP 126 e e g316 (oP 126 e e g316 (oV (zj e g316 e) (hJ315 _ () h _ (zg 3 e e (zd (j:=129) e hI ze) k4))))
       refine zf h e (fun _ h=>?_) (fun _ h=>?_)
       ·refine zr (oM e (oV (zae e GFld.f1 zdb) (oT (zK (R:=isv (y306.1)) ty3 e .here hI (oV (zae e GFld.f4 zlg) (oT (zK (R:=isv (y265.dflt)) ty46 e .here hI (zb h fun y313 hy313 h=>oT (zx (zif hy313) hT (s3 e e e) (.cons tH (.cons tH .nil)) (oV (zae e GFld.f4 zlg) ?_))))))))))
        exact oT (zp (y':=({ { y265 with ty:=y306.1 } with dflt:=y313.1 }:GFld)) ty46 e e hI tI e (zG (hJ312 _ () h _ (zg 7 e e ze k4))))
       exact zZ (hJ312 _ () h _ (zg 0 e e ze k4))
      refine zm (j:=110) h e (fun g310 h=>?_) (fun g310 h=>?_)
      ·exact oK 110 e e e g310 (zae e GFld.f3 zhL) (zad e e (dj:=110) e g310 (zK (R:=isv (y265.has)) ty4 e .here hI (oV (zi e g310 e) (hJ309 _ () h _ (zg 3 e e (zd (j:=113) e hI ze) k4)))))
      exact oP 110 e e g310 (oP 110 e e g310 (oV (zj e g310 e) (hJ309 _ () h _ (zg 3 e e (zd (j:=113) e hI ze) k4))))
     refine zaj (zX (eL189 _ _ (zI (zD (wsr (oM e (oV (zz e) (oV (zae e zcK zel) ?_))))))))
     refine oT (zK (R:=isv (q188.2.2.e)) ty65 e tH hI (oV (zP e e) (rnf (zf h e (fun _ h=>?_) (fun _ h=>?_)))))
     ·refine wsr (oM e (oV (zz e) (oV (zae e zb2 zcW) (oT (zK (R:=vecv g188.2 (q188.2.2.l.length)) ty24 e tH isvV1 (oM e (oM e (zap h fun q328 h=>oV (zcu (α:=GTyp) sl24 e e q328.1 q328.2) ?_))))))))
      refine oV (zi6 e GTyp.f4 za2) (zb h fun y329 hy329 h=>zY (zaR 153 e (zM)) (oT (zfG ty85 e e tI hy329 (zY (zi2 (y:=((q188.2.2.m,(Vh.mk g188.2 (q188.2.2.l.set a_i.toNat ({ y329 with fields:=q188.1 })).length),q188.2.2.e):(GMod × Vh × Int))) tI (fun S=>(Cv.pair Cv.id (Cv.pair (Cv.vhe (by first | rfl | simp)) Cv.id)))) ?_))))
      refine rnf (wsr (oM e (oM e (oV (zz e) (oV (zae e zb2 zcW) (oT (zK (R:=vecv g188.2 ((q188.2.2.l.set a_i.toNat ({ y329 with fields:=q188.1 })).length)) ty24 e .here isvV1 (oM e (zap h fun q330 h=>?_)))))))))
      refine oV (zcu (α:=GTyp) sl24 e e q330.1 q330.2) (zb h fun y331 hy331 h=>oT (zcX ty87 e tH hy331 ?_))
      refine zb h fun y332 hy332 h=>oT (zx (zka hy332) hT (s2 e e) k2 (oV (zaD e) (rnf (zf h e (fun _ h=>?_) (fun _ h=>?_)))))
      ·refine zr (oM e (zb h fun y333 hy333 h=>oT (zx (zbA hy333) hT (s2 e e) k2 (zG (zaU .nil k2 ?_)))))
       cases h
       exact ⟨g188.2,e,e⟩
      refine zZ (zaU .nil k2 ?_)
      cases h
      exact ⟨g188.2,e,e⟩
     refine zZ (zaU .nil (.cons tH (.cons tH .nil)) ?_)
     cases h
     exact ⟨g188.2,e,e⟩
    refine zm (j:=68) h e (fun g264 h=>?_) (fun g264 h=>?_)
    ·exact oK 68 e e e g264 (zu e) (oK 68 e e e g264 (zz e) (oK 68 e e e g264 (zae e zcK zel) (zad e e (dj:=68) e g264 (zK (R:=isv (q188.2.2.e)) ty65 e tH hI (oK 68 e e e g264 (zP e e) (oV (zi e g264 e) (hJ263 _ () h _ (zg 6 e e (zd (j:=74) e hI ze) k3))))))))
    exact oP 68 e e g264 (oP 68 e e g264 (oP 68 e e g264 (oP 68 e e g264 (oP 68 e e g264 (oV (zj e g264 e) (hJ263 _ () h _ (zg 6 e e (zd (j:=74) e hI ze) k3)))))))
   refine zf h e (fun _ h=>?_) (fun _ h=>?_)
   ·exact zr (oM e (zb h fun y187 hy187 h=>oT (zx (zbA hy187) hT (s2 e e) k2 (zG (hJ186 _ () h _ (zg 2 e e ze k2))))))
   exact zZ (hJ186 _ () h _ (zg 0 e e ze k2))
  refine zm (j:=56) h e (fun g184 h=>?_) (fun g184 h=>?_)
  ·exact oK 56 e e e g184 (zE e GNode.f7 zfZ e (z:=a_n_.more)) (oK 56 e e e g184 (za ty4 e) (oK 56 e e e g184 (zaD e) (oV (zi e g184 e) (hJ183 _ () h _ (zg 4 e e (zd (j:=60) e hI ze) k2)))))
  exact oP 56 e e g184 (oP 56 e e g184 (oP 56 e e g184 (oV (zj e g184 e) (hJ183 _ () h _ (zg 4 e e (zd (j:=60) e hI ze) k2)))))
 refine zm (j:=50) h e (fun g181 h=>?_) (fun g181 h=>?_)
 ·exact oK 50 e e e g181 (zE e GNode.f5 zdZ e (z:=a_n_.fields)) (oK 50 e e e g181 (za ty85 e) (oK 50 e e e g181 (zaq (l:=a_n_.fields) e hI sl85) (oK 50 e e e g181 (zP e e) (oV (zi e g181 e) (hJ180 _ () h _ (zg 5 e e (zd (j:=55) e hI ze) k2))))))
 exact oP 50 e e g181 (oP 50 e e g181 (oP 50 e e g181 (oP 50 e e g181 (oV (zj e g181 e) (hJ180 _ () h _ (zg 5 e e (zd (j:=55) e hI ze) k2))))))

theorem zkl {zaX:GMk→Int→GNode→Int→Option (GMk)} {zaW:GMk→Int→Int→Option (Int × GMk)} {za7:GMk→GNode→Int→Option (Int × GMk)} (zeC:zdi zaX) (zb8:zc5 zaW) (zfo:zdT za7):∀ {a_x:GMk} {a_k:Int} {zH:Int} {zL:Nat} {zal:Vt} {r:Int × GMk},zc3 zaX zaW za7 a_x a_k zH=some r→Ctr Tryz.prog 77 [ptrv zL (Fld.id (GMod × Vh × Int)),isv (a_k),isv (zH)] [boxE zL ((a_x.m,(Vh.mk zal a_x.l.length),a_x.e):(GMod × Vh × Int)),vecE zal (a_x.l:List GTyp)] (fun R H=>∃ u1:Vt,R=oneOf [isv (r.1)]∧H=[boxE zL ((r.2.m,(Vh.mk u1 r.2.l.length),r.2.e)),vecE u1 (r.2.l)]):=by
 intro a_x a_k zH zL zal r h
 unfold zc3 at h
 refine zq Tryz.func77 e fun w0 S0 hT=>wsr (oA e (rnf (zn (wsr (oM e (oV (zz e) (oV (zae e zcK zel) ?_)))))))
 refine oT (zK (R:=isv (a_x.e)) ty65 e .here hI (oV (zaV e e) (rnf (zf h e (fun _ h=>?_) (fun _ h=>?_)))))
 ·refine wsr (oA e (rnf (zA (zo (zh (.tmp e .nil) k2 ?_)))))
  cases h
  exact ⟨zal,e,e⟩
 refine wkf (wsr (oM e (oV (zz e) (oV (zae e zfv zhH) (oV (zae e GMod.f4 zhZ) (oT (zK (R:=isv (a_x.m.nodes)) ty71 e .here hI (oM e (zb h fun y2 hy2 h=>?_)))))))))
 refine oV (zam (l:=a_x.m.nodes) e hI e sl71 hy2) (oV (za ty167 e) (oT (zac _ ze167 fun b3=>oT (zp (y':=(y2:GNode)) ty167 e e hI .here e (zY (zaE 7 .here e) (rnf (wsr (oA e (rnf ?_)))))))))
 refine zn (wsr (oV (zE e GNode.f0 zb5 e (z:=y2.kind)) (oV (za ty3 e) (oV (zP e e) (rnf (zdF (ι:=Int × GMk) (γ:=Vt) (fun q4 g4=>[(8,isv (q4.1))]) (fun q4 g4=>[boxE zL ((q4.2.m,(Vh.mk g4 q4.2.l.length),q4.2.e):(GMod × Vh × Int)),vecE g4 (q4.2.l:List GTyp)]) k2 h (fun q4 g4 h=>?_) (fun J5 h hJ5=>?_)))))))
 ·refine zn (wsr (oM e (oV (zz e) (oV (zae e zcK zel) (oT (zK (R:=isv (q4.2.e)) ty65 e .here hI (oV (zP e e) (oM e (zQ (jb 56) je .nil h 4 e (fun q14 g14 h=>?_) (fun J15 h hJ15=>?_))))))))))
  ·refine rnf (zdF (ι:=GMk) (γ:=Unit) (fun q17 g17=>[]) (fun q17 g17=>[boxE zL ((q17.m,(Vh.mk g4 q17.l.length),q17.e):(GMod × Vh × Int)),vecE g4 (q17.l:List GTyp)]) k2 h (fun q17 g17 h=>?_) (fun J18 h hJ18=>?_))
   ·refine wsr (oM e (oA e (rnf (zA (zh (.tmp e .nil) k2 ?_)))))
    cases h
    exact ⟨g4,e,e⟩
   refine zf h e (fun _ h=>?_) (fun _ h=>?_)
   ·refine wsr (oA e (rnf (zn (zdF (ι:=Int × GMk) (γ:=Unit) (fun q19 g19=>[(9,isv (q19.1))]) (fun q19 g19=>[boxE zL ((q19.2.m,(Vh.mk g4 q19.2.l.length),q19.2.e):(GMod × Vh × Int)),vecE g4 (q19.2.l:List GTyp)]) k2 h (fun q19 g19 h=>?_) (fun J20 h hJ20=>?_)))))
    ·refine zr (oM e (oM e (oV (zE e GNode.f2 zgR e (z:=y2.mark)) (oV (zE e GMark.f1 zph e (z:=y2.mark.number)) (oV (za ty3 e) (oM e (zb h fun y25 hy25 h=>oT (zx (zht hy25) hT (s4 e e e e) k2 ?_))))))))
     exact zG (hJ18 _ () h _ (zg 9 e e ze k2))
    refine zB (wsr (oV (zE e GNode.f2 zgR e (z:=y2.mark)) (oV (zE e GMark.f2 zld e (z:=y2.mark.mode)) (oV (za ty3 e) (oV (zP e e) (oA e (rnf (zf h e (fun _ h=>?_) (fun _ h=>?_)))))))))
    ·exact zr (oA e (zG (zt (hJ20 _ () h _ (zg 6 e e (zd (j:=9) e hI ze) k2)))))
    refine wsr (oV (zE e GNode.f2 zgR e (z:=y2.mark)) (oV (zE e GMark.f2 zld e (z:=y2.mark.mode)) (oV (za ty3 e) (oV (zP e e) (oM e (zQ (jb 74) je .nil h 7 e (fun q21 g21 h=>?_) (fun J22 h hJ22=>?_)))))))
    ·refine oA e (rnf (zf h e (fun _ h=>?_) (fun _ h=>?_)))
     ·exact zr (oM e (oM e (zb h fun y24 hy24 h=>oT (zx (zhd hy24) hT (s2 e e) k2 (oA e (zG (zt (hJ20 _ () h _ (zg 16 e e (zd (j:=9) e hI ze) k2)))))))))
     exact zZ (zt (hJ20 _ () h _ (zg 12 e e (zd (j:=9) e hI ze) k2)))
    refine zm (j:=67) h e (fun g23 h=>?_) (fun g23 h=>?_)
    ·exact oK 67 e e e g23 (zu e) (oK 67 e e e g23 (zz e) (oK 67 e e e g23 (zae e zfv zhH) (oK 67 e e e g23 (zae e GMod.f1 zm3) (zad e e (dj:=67) e g23 (zK (R:=isv (q4.2.m.tagging)) ty3 e .here hI (oK 67 e e e g23 (zaV e e) (oV (zi e g23 e) (hJ22 _ () h _ (zg 7 e e (zd (j:=74) e hI ze) k2)))))))))
    exact oP 67 e e g23 (oP 67 e e g23 (oP 67 e e g23 (oP 67 e e g23 (oP 67 e e g23 (oP 67 e e g23 (oV (zj e g23 e) (hJ22 _ () h _ (zg 7 e e (zd (j:=74) e hI ze) k2))))))))
   exact zZ (hJ18 _ () h _ (zg 0 e e ze k2))
  refine zm (j:=52) h e (fun g16 h=>?_) (fun g16 h=>?_)
  ·exact oK 52 e e e g16 (zE e GNode.f2 zgR e (z:=y2.mark)) (oK 52 e e e g16 (zE e GMark.f0 zmL e (z:=y2.mark.has)) (oK 52 e e e g16 (za ty4 e) (oV (zi e g16 e) (hJ15 _ () h _ (zg 4 e e (zd (j:=56) e hI ze) k2)))))
  exact oP 52 e e g16 (oP 52 e e g16 (oP 52 e e g16 (oV (zj e g16 e) (hJ15 _ () h _ (zg 4 e e (zd (j:=56) e hI ze) k2)))))
 refine zf h e (fun _ h=>?_) (fun _ h=>?_)
 ·refine z8 (.v 0 (.v 1 (.v 2 (.v 3 (.v 4 (.v 6 (.v 7 (.v 8 (.v 10 (.v 11 (.v 15 (.alt 5 (.t 9 (.t 12 (.v 13 (.v 14 (.t 16 (.v 17 .nil)))))) (.t 9 (.alt 5 (.t 12 (.v 13 (.v 14 (.t 16 (.v 17 .nil))))) (.t 12 (.t 5 (.v 13 (.v 14 (.t 16 (.v 17 .nil)))))))))))))))))))) moOrd (by kernel_rfl) ?_
  refine rvm e e (rvm e e (zy e (zz e) (zy e (zae e zfv zhH) (zy e (zae e GMod.f3 zl4) (rvm e e (zy e (zz e) (zy e (zae e zfv zhH) (zy e (zE e GNode.f1 zmJ e (z:=y2.name)) ?_))))))))
  refine zy e (za ty9 e) (rvm e e (zb h fun y6 hy6 h=>zb h fun y7 hy7 h=>zb h fun y8 hy8 h=>zfr ?_ ?_))
  ·refine zay e e (zK (R:=isv (a_x.m.types)) ty23 e .here hI (zay e e (zK (R:=isv (a_x.m)) ty73 e .here hI (zay e e (zx (zhX hy6) hT (s2 e e) .nil (zy e (zam (l:=a_x.m.types) e hI e sl23 hy7) (zy e (za ty3 e) (zay e e (zR (zb8 hy8) hT (s3 e e e) k2 (fun R H' hR=>?_))))))))))
   obtain ⟨v9,rfl,rfl⟩:=hR
   exact zy e (zaI e) (zau (hJ5 _ (v9) h _ (zg 18 e e (zd (j:=8) e hI ze) k2)))
  refine zay e e (zK (R:=isv (a_x.m)) ty73 e .here hI (zfr ?_ ?_))
  ·refine zay e e (zK (R:=isv (a_x.m.types)) ty23 e .here hI (zay e e (zx (zhX hy6) hT (s2 e e) .nil (zy e (zam (l:=a_x.m.types) e hI e sl23 hy7) (zy e (za ty3 e) (zay e e (zR (zb8 hy8) hT (s3 e e e) k2 (fun R H' hR=>?_))))))))
   obtain ⟨v10,rfl,rfl⟩:=hR
   exact zy e (zaI e) (zau (hJ5 _ (v10) h _ (zg 18 e e (zd (j:=8) e hI ze) k2)))
  refine zay e e (zx (zhX hy6) hT (s2 e e) .nil (zay e e (zK (R:=isv (a_x.m.types)) ty23 e .here hI (zy e (zam (l:=a_x.m.types) e hI e sl23 hy7) (zy e (za ty3 e) (zay e e (zR (zb8 hy8) hT (s3 e e e) k2 (fun R H' hR=>?_))))))))
  obtain ⟨v11,rfl,rfl⟩:=hR
  exact zy e (zaI e) (zau (hJ5 _ (v11) h _ (zg 18 e e (zd (j:=8) e hI ze) k2)))
 refine zr (oM e (oV (za ty167 e) (oM e (zb h fun y12 hy12 h=>oT (zR (zfo hy12) hT (s3 e e e) k2 (fun R H' hR=>?_))))))
 obtain ⟨v13,rfl,rfl⟩:=hR
 exact oA e (zG (hJ5 _ (v13) h _ (zg 5 e e (zd (j:=8) e hI ze) k2)))

theorem zj0 {zaX:GMk→Int→GNode→Int→Option (GMk)} {zaW:GMk→Int→Int→Option (Int × GMk)} {za7:GMk→GNode→Int→Option (Int × GMk)} (zeC:zdi zaX) (zb8:zc5 zaW) (zfo:zdT za7):∀ {a_x:GMk} {a_n_:GNode} {zH:Int} {zL:Nat} {zal:Vt} {r:Int × GMk},zc4 zaX zaW za7 a_x a_n_ zH=some r→Ctr Tryz.prog 113 [ptrv zL (Fld.id (GMod × Vh × Int)),isv (a_n_),isv (zH)] [boxE zL ((a_x.m,(Vh.mk zal a_x.l.length),a_x.e):(GMod × Vh × Int)),vecE zal (a_x.l:List GTyp)] (fun R H=>∃ u1:Vt,R=oneOf [isv (r.1)]∧H=[boxE zL ((r.2.m,(Vh.mk u1 r.2.l.length),r.2.e)),vecE u1 (r.2.l)]):=by
 intro a_x a_n_ zH zL zal r h
 unfold zc4 at h
 refine zq Tryz.func113 e fun w0 S0 hT=>wsr (oT (zai (y:=a_n_) e hI (oA e (rnf (zn (wsr (oM e (oV (zbn e e) ?_))))))))
 refine oM e (zQ (jb 20) je .nil h 7 e (fun q2 g2 h=>?_) (fun J3 h hJ3=>?_))
 ·refine rnf (zf h e (fun _ h=>?_) (fun _ h=>?_))
  ·refine wsr (oM e (zb h fun y5 hy5 h=>oT (zx (zbA hy5) hT (s2 e e) k2 (rnf (wsr (oA e (rnf (zA ?_))))))))
   refine zo (zh (.tmp e .nil) k2 ?_)
   cases h
   exact ⟨zal,e,e⟩
  refine wkf (wsr (oM e (oV (zz e) (oV (zae e zb2 zcW) (oT (zK (R:=vecv zal (a_x.l.length)) ty24 e .here isvV1 (oV (ziG sl24 e) (oA e (rnf ?_)))))))))
  refine wsr (oV (zE e GNode.f0 zb5 e (z:=a_n_.kind)) (oV (za ty3 e) (oV (zE e GNode.f3 ziN e (z:=a_n_.con)) (oV (za ty83 e) (oV (zE e GNode.f6 zgM e (z:=a_n_.root)) (oV (za ty3 e) (oV (zE e GNode.f7 zfZ e (z:=a_n_.more)) (oV (za ty4 e) ?_))))))))
  refine oV (zar (z:=(GTyp.mk a_n_.kind ([]:(List Tag)) a_n_.con ([]:(List GItem)) ([]:(List GFld)) a_n_.root a_n_.more (0:Int))) e bu87 ze87 (.cons GTyp.f0 zbI e hI (.cons GTyp.f2 zeu e hI (.cons GTyp.f5 zfR e hI (.cons GTyp.f6 ziu e hI .nil))))) (oT (zac _ ze87 fun b6=>oT (zp (y':=((GTyp.mk a_n_.kind ([]:(List Tag)) a_n_.con ([]:(List GItem)) ([]:(List GFld)) a_n_.root a_n_.more (0:Int)):GTyp)) ty87 e e hI .here e (rnf (zn (wsr (oV (zE e GNode.f0 zb5 e (z:=a_n_.kind)) (oV (za ty3 e) (oV (zaV e e) ?_)))))))))
  refine rnf (zdF (ι:=GTyp) (γ:=Unit) (fun q7 g7=>[]) (fun q7 g7=>[boxE b6 (q7:GTyp)]) k1 h (fun q7 g7 h=>?_) (fun J8 h hJ8=>?_))
  ·refine zn (zdF (ι:=GMk) (γ:=Vt) (fun q11 g11=>[(8,anyv)]) (fun q11 g11=>[boxE zL ((q11.m,(Vh.mk g11 q11.l.length),q11.e):(GMod × Vh × Int)),vecE g11 (q11.l:List GTyp)]) (.cons tH (.cons tH .nil)) h (fun q11 g11 h=>?_) (fun J12 h hJ12=>?_))
   ·refine zn (wsr (oV (zE e GNode.f0 zb5 e (z:=a_n_.kind)) (oV (za ty3 e) (rnf (zdF (ι:=GMk) (γ:=Vt) (fun q20 g20=>[]) (fun q20 g20=>[boxE zL ((q20.m,(Vh.mk g20 q20.l.length),q20.e):(GMod × Vh × Int)),vecE g20 (q20.l:List GTyp)]) k2 h (fun q20 g20 h=>?_) (fun J21 h hJ21=>?_))))))
    ·refine wsr (oM e (oA e (rnf (zA (zh (.tmp e .nil) k2 ?_)))))
     cases h
     exact ⟨g20,e,e⟩
    refine zB (zn (wsr (oV (zP e e) (oA e (rnf (zdF (jb 57) je .nil h (fun q22 g22 h=>?_) (fun J23 h hJ23=>?_)))))))
    ·refine zf h e (fun _ h=>?_) (fun _ h=>?_)
     ·refine wsr (oV (zE e GNode.f3 ziN e (z:=a_n_.con)) (oV (za ty83 e) (oV (zE e GNode.f0 zb5 e (z:=a_n_.kind)) (oV (za ty3 e) (oV (zaV e e) (zb h fun y24 hy24 h=>oT (zx (znZ hy24) hT (s2 e e) .nil (oA e ?_))))))))
      refine rnf (zn (wsr (oM e (oV (zaV e e) (rnf (zdF (ι:=GMk) (γ:=Unit) (fun q25 g25=>[]) (fun q25 g25=>[boxE zL ((q25.m,(Vh.mk g11 q25.l.length),q25.e):(GMod × Vh × Int)),vecE g11 (q25.l:List GTyp)]) k2 h (fun q25 g25 h=>?_) (fun J26 h hJ26=>?_)))))))
      ·refine wsr (oV (zE e GNode.f0 zb5 e (z:=a_n_.kind)) (oV (za ty3 e) (oV (zP e e) (rnf (zf h e (fun _ h=>?_) (fun _ h=>?_))))))
       ·refine wsr (oM e (oV (zE e GNode.f8 zmM e (z:=a_n_.of)) (oV (za ty3 e) (oM e (zJ h fun q28 h=>oV (zah e e q28) (zb h fun y29 hy29 h=>oT (zR (zb8 hy29) hT (s3 e e e) k2 (fun R H' hR=>?_))))))))
        obtain ⟨v30,rfl,rfl⟩:=hR
        refine oA e (rnf (wsr (oM e (oV (zz e) (oV (zae e zcK zel) (oT (zK (R:=isv (y29.2.e)) ty65 e .here hI (oV (zP e e) (rnf ?_)))))))))
        refine zf h e (fun _ h=>?_) (fun _ h=>?_)
        ·refine zr (oM e (oV (zz e) (oV (zae e zb2 zcW) (oT (zK (R:=vecv v30 (y29.2.l.length)) ty24 e .here isvV1 (oM e (oM e (zap h fun q31 h=>oV (zcu (α:=GTyp) sl24 e e q31.1 q31.2) ?_))))))))
         refine oV (zi6 e GTyp.f7 zoT) (zb h fun y32 hy32 h=>oT (zfG ty3 e e tH hy32 (zY (zi2 (y:=((y29.2.m,(Vh.mk v30 (y29.2.l.set (((a_x.l.length:Nat):Int).toNat) ({ y32 with of:=y29.1 })).length),y29.2.e):(GMod × Vh × Int))) tH (fun S=>(Cv.pair Cv.id (Cv.pair (Cv.vhe (by first | rfl | simp)) Cv.id)))) ?_)))
         exact zG (zt (hJ21 _ (v30) h _ (zg 35 e e ze k3)))
        exact zZ (zt (hJ21 _ (v30) h _ (zg 27 e e ze k3)))
       exact zZ (zt (hJ21 _ (g11) h _ (zg 15 e e ze k3)))
      refine zf h e (fun _ h=>?_) (fun _ h=>?_)
      ·exact zr (oM e (oM e (zb h fun y27 hy27 h=>oT (zx (zbA hy27) hT (s2 e e) k2 (zG (hJ26 _ () h _ (zg 3 e e ze k3)))))))
      exact zZ (hJ26 _ () h _ (zg 0 e e ze k3))
     refine wsr (oV (zP e e) (oA e (rnf (zf h e (fun _ h=>?_) (fun _ h=>?_)))))
     ·refine z8 (.v 0 (.v 1 (.v 2 (.v 4 (.v 5 (.v 6 (.alt 3 (.t 7 (.v 8 (.v 9 (.t 10 .nil)))) (.t 7 (.t 3 (.v 8 (.v 9 (.t 10 .nil)))))))))))) moOrd (by kernel_rfl) ?_
      refine rvm e e (zy e (zz e) (zy e (zae e zb2 zcW) (rvm e e (rvm e e (zy e (za ty167 e) (zb h fun y33 hy33 h=>zap h fun q34 h=>zap h fun q35 h=>?_))))))
      refine zb h fun y36 hy36 h=>zfr ?_ ?_
      ·refine zay e e (zK (R:=vecv g11 (q11.l.length)) ty24 e .here isvV1 (zay e e (zx (zgO hy33) hT (s2 e e) k2 (zy e (zcu (α:=GTyp) sl24 e e q35.1 q35.2) (zy e (zi6 e GTyp.f3 zh5) (zay e e (zfG ty84 e e tH hy36 (ze8 (zi2 (y:=((y33.2.m,(Vh.mk g11 (y33.2.l.set (((a_x.l.length:Nat):Int).toNat) ({ y36 with items:=y33.1 })).length),y33.2.e):(GMod × Vh × Int))) tH (fun S=>(Cv.pair Cv.id (Cv.pair (Cv.vhe (by first | rfl | simp)) Cv.id)))) ?_))))))))
       exact zau (zt (hJ21 _ (g11) h _ (zg 15 e e ze k3)))
      refine zay e e (zx (zgO hy33) hT (s2 e e) k2 (zay e e (zK (R:=vecv g11 (y33.2.l.length)) ty24 e .here isvV1 (zy e (zcu (α:=GTyp) sl24 e e (by omega) (by omega)) ?_))))
      refine zy e (zi6 e GTyp.f3 zh5) (zay e e (zfG ty84 e e tH hy36 (ze8 (zi2 (y:=((y33.2.m,(Vh.mk g11 (y33.2.l.set (((a_x.l.length:Nat):Int).toNat) ({ y36 with items:=y33.1 })).length),y33.2.e):(GMod × Vh × Int))) tH (fun S=>(Cv.pair Cv.id (Cv.pair (Cv.vhe (by first | rfl | simp)) Cv.id)))) ?_)))
      exact zau (zt (hJ21 _ (g11) h _ (zg 15 e e ze k3)))
     refine zn (wsr (oV (zP e e) (oA e (rnf (zdF (jb 107) je .nil h (fun q37 g37 h=>?_) (fun J38 h hJ38=>?_))))))
     ·refine zf h e (fun _ h=>?_) (fun _ h=>?_)
      ·refine zr (oM e (oM e (oV (za ty167 e) (oM e (zb h fun y39 hy39 h=>oT (zR (zeC hy39) hT (s4 e e e e) k2 (fun R H' hR=>?_)))))))
       obtain ⟨v40,rfl,rfl⟩:=hR
       exact zG (zt (hJ21 _ (v40) h _ (zg 13 e e ze k3)))
      exact zZ (zt (hJ21 _ (g11) h _ (zg 8 e e ze k3)))
     refine zf h e (fun _ h=>?_) (fun _ h=>?_)
     ·exact zZ (hJ38 _ () h _ (zg 0 e e (zd (j:=107) e hI ze) k3))
     refine wsr (oV (zP e e) (oA e (rnf (zf h e (fun _ h=>?_) (fun _ h=>?_)))))
     ·exact zZ (hJ38 _ () h _ (zg 2 e e (zd (j:=107) e hI ze) k3))
     exact zr (oV (zP e e) (oA e (zG (hJ38 _ () h _ (zg 4 e e (zd (j:=107) e hI ze) k3)))))
    refine zf h e (fun _ h=>?_) (fun _ h=>?_)
    ·exact zZ (hJ23 _ () h _ (zg 0 e e (zd (j:=57) e hI ze) k3))
    refine wsr (oV (zP e e) (oA e (rnf (zf h e (fun _ h=>?_) (fun _ h=>?_)))))
    ·exact zZ (hJ23 _ () h _ (zg 2 e e (zd (j:=57) e hI ze) k3))
    refine wsr (oV (zP e e) (oA e (rnf (zf h e (fun _ h=>?_) (fun _ h=>?_)))))
    ·exact zZ (hJ23 _ () h _ (zg 4 e e (zd (j:=57) e hI ze) k3))
    exact zr (oV (zP e e) (oA e (zG (hJ23 _ () h _ (zg 6 e e (zd (j:=57) e hI ze) k3)))))
   refine zdM 8 .here e (fun o13 hn14=>z8 (.v 0 (.v 1 (.v 2 (.v 3 (.v 5 (.alt 4 (.t 6 (.t 7 (.v 8 (.v 9 (.t 10 .nil))))) (.t 6 (.t 4 (.t 7 (.v 8 (.v 9 (.t 10 .nil)))))))))))) moOrd (by kernel_rfl) ?_)
   refine rvm e e (rvm e e (zy e (zz e) (zy e (zae e zb2 zcW) (zy e (zd6 (R:=isv (q7)) ty87 e (List.Mem.head _) hI) (zas h fun q17 h=>zfr ?_ ?_)))))
   ·refine zay e e (zK (R:=vecv zal (a_x.l.length)) ty24 e .here isvV1 (zay e e (z7 (l:=([q7]:(List GTyp))) el24 (.cons e hI .nil) e e (zay e e (ziQ (m:=([q7]:(List GTyp))) zps e e zM tH (by first | rfl | simp) q17 fun v16=>?_)))))
    exact zy e (zz e) (zy e (zae e zb2 zcW) (zay e e (zp (y':=((a_x.m,(Vh.mk v16 (a_x.l ++ ([q7]:(List GTyp))).length),a_x.e):(GMod × Vh × Int))) ty24 e e isvV2 tH e (zau (za9 8 hn14 e (hJ12 _ (v16) h _ (zg 12 e e (zd (j:=8) e (fun _ _ _=>trivial) ze) (.cons tH (.cons tH k1)))))))))
   refine zay e e (z7 (l:=([q7]:(List GTyp))) el24 (.cons e hI .nil) e e (zay e e (zK (R:=vecv zal (a_x.l.length)) ty24 e .here isvV1 (zay e e (ziQ (m:=([q7]:(List GTyp))) zps e e zM tH (by first | rfl | simp) q17 fun v19=>?_)))))
   exact zy e (zz e) (zy e (zae e zb2 zcW) (zay e e (zp (y':=((a_x.m,(Vh.mk v19 (a_x.l ++ ([q7]:(List GTyp))).length),a_x.e):(GMod × Vh × Int))) ty24 e e isvV2 tH e (zau (za9 8 hn14 e (hJ12 _ (v19) h _ (zg 12 e e (zd (j:=8) e (fun _ _ _=>trivial) ze) (.cons tH (.cons tH k1)))))))))
  refine zf h e (fun _ h=>?_) (fun _ h=>?_)
  ·refine zr (oV (zE e GNode.f0 zb5 e (z:=a_n_.kind)) (oV (za ty3 e) (zb h fun y9 hy9 h=>oT (zx (zk3 hy9) hT (s1 e) .nil (oT (z7 (l:=([y9]:(List Tag))) el78 (.cons e hI .nil) e e (oV (zae e GTyp.f1 zfU) (oT (zp (y':=((GTyp.mk a_n_.kind ([y9]:(List Tag)) a_n_.con ([]:(List GItem)) ([]:(List GFld)) a_n_.root a_n_.more (0:Int)):GTyp)) ty78 e e zM .here e (zG ?_))))))))))
   exact hJ8 _ () h _ (zg 5 e e ze k3)
  exact zZ (hJ8 _ () h _ (zg 0 e e ze k3))
 refine zm (j:=13) h e (fun g4 h=>?_) (fun g4 h=>?_)
 ·exact oP 13 e e g4 (oP 13 e e g4 (oP 13 e e g4 (oP 13 e e g4 (oP 13 e e g4 (oP 13 e e g4 (oV (zi e g4 e) (hJ3 _ () h _ (zg 7 e e (zd (j:=20) e hI ze) k2))))))))
 exact oK 13 e e e g4 (zu e) (oK 13 e e e g4 (zz e) (oK 13 e e e g4 (zae e zb2 zcW) (zad e e (dj:=13) e g4 (zK (R:=vecv zal (a_x.l.length)) ty24 e .here isvV1 (oK 13 e e e g4 (ziG sl24 e) (oK 13 e e e g4 (zck e e) (oV (zj e g4 e) (hJ3 _ () h _ (zg 7 e e (zd (j:=20) e hI ze) k2)))))))))

theorem zeP:∀ n,zdi (zd3 n)∧zc5 (zeZ n)∧zdT (zeS n)
 | 0=>⟨fun h=>(by cases h),fun h=>(by cases h),fun h=>(by cases h)⟩
 | n + 1=>by
  obtain ⟨h0,h1,h2⟩:=zeP n
  exact ⟨zi9 h0 h1 h2,zkl h0 h1 h2,zj0 h0 h1 h2⟩
theorem zho (n:Nat):zc5 (zeZ n):=(zeP n).2.1
theorem zoJ:∀ {a_m:GMod} {r:GTab × Int × Int},zhf a_m=some r→Ctr Tryz.prog 40 [isv (a_m)] [] (fun R H=>R=oneOf [isv (r.1),isv (r.2.1),isv (r.2.2)]∧H=[]):=by
 intro a_m r h
 unfold zhf at h
 refine zq Tryz.func40 e fun w0 S0 hT=>wsr (oT (zai (y:=a_m) e hI (oT (zac _ ze26 fun b1=>oA e (oA e (rnf (wsr (oV (za ty73 e) ?_))))))))
 refine zb h fun y2 hy2 h=>oT (zx (znK hy2) hT (s1 e) .nil (oM e (oV (zO e e) (oV (zO e e) (oV (zO e e) (oA e (oA e (oA e ?_))))))))
 refine rnf (zn (wsr (oM e (oV (zaV e e) (rnf (zf h e (fun _ h=>?_) (fun _ h=>?_)))))))
 ·refine wsr (oV (zar (z:=(GTab.mk (Str.mk []) ([]:(List Str)) ([]:(List Int)) ([]:(List GTyp)))) e bu26 ze26 .nil) (oM e (oM e (oT (zp (y':=((GTab.mk (Str.mk []) ([]:(List Str)) ([]:(List Int)) ([]:(List GTyp))):GTab)) ty26 e e hI .here e (oA e (oA e (rnf (zA ?_)))))))))
  refine zo ?_
  cases h
  exact zh (.cell e .here ty26 (.tmp e (.tmp e .nil))) .nil ⟨e,e⟩
 refine wkf (wsr (oV (za ty73 e) (oV (zar (z:=((a_m,(Vh.mk none 0),(0:Int)):(GMod × Vh × Int))) e bu141 zr5 (.cons zfv zhH e hI .nil)) (oT (zlV (y:=((a_m,(Vh.mk none 0),(0:Int)):(GMod × Vh × Int))) e hI fun b3=>zY (zeT (α:=GTyp)) (oA e (rnf (zn ?_))))))))
 refine zdF (ι:=GTab) (γ:=Nat × Tok) (fun q5 g5=>[(9,ptrv g5.1 (Fld.id (Str × (List Str) × (TList Int) × (List GTyp))))]) (fun q5 g5=>[boxE g5.1 ((q5.name,q5.names,(TList.mk g5.2 q5.roots),q5.types):(Str × (List Str) × (TList Int) × (List GTyp))),tokE g5.2]) .nil h (fun q5 g5 h=>?_) (fun J6 h hJ6=>?_)
 ·refine zn (wsr (oA e (rnf (zB (za4 (ι:=Int × GTab × GMk) (γ:=Tok × Vt) (fun q16 g16=>[(10,isv (q16.1))]) (fun q16 g16=>[boxE g5.1 ((q16.2.1.name,q16.2.1.names,(TList.mk g16.1 q16.2.1.roots),q16.2.1.types):(Str × (List Str) × (TList Int) × (List GTyp))),tokE g16.1,boxE b3 ((q16.2.2.m,(Vh.mk g16.2 q16.2.2.l.length),q16.2.2.e):(GMod × Vh × Int)),vecE g16.2 (q16.2.2.l:List GTyp)]) h (g5.2,none) (zd (j:=10) e hI ze) (.cons .here (.cons .here (.cons tH k1))) (fun L17 q16 g16 Q50 h hL17 eL17 rL17=>zn (wsr (oM e ?_))))))))
  refine oV (zE e GMod.f2 zeV e (z:=a_m.names)) (oV (za ty22 e) (oV (zaq (l:=a_m.names) e hI sl22) (oV (zao e e) (rnf (zf h e (fun _ h=>?_) (fun _ h=>?_))))))
  ·refine wkf (zn (zB (zn (zdF (ι:=GTab × GMk) (γ:=Tok × Vt) (fun q34 g34=>[]) (fun q34 g34=>[boxE g5.1 ((q34.1.name,q34.1.names,(TList.mk g34.1 q34.1.roots),q34.1.types):(Str × (List Str) × (TList Int) × (List GTyp))),tokE g34.1,boxE b3 ((q34.2.m,(Vh.mk g34.2 q34.2.l.length),q34.2.e):(GMod × Vh × Int)),vecE g34.2 (q34.2.l:List GTyp)]) (.cons .here (.cons tH k2)) h (fun q34 g34 h=>?_) (fun J35 h hJ35=>?_)))))
   ·refine wsr (oM e (oV (zz e) (oV (zae e zcK zel) (oT (zK (R:=isv (q34.2.e)) ty65 e tI hI (oV (zaV e e) (rnf (zf h e (fun _ h=>?_) (fun _ h=>?_)))))))))
    ·refine zn (zdM 8 tI e (fun o47 hn48=>z8 (.v 0 (.v 1 (.v 2 (.v 3 (.v 4 (.v 5 (.t 6 (.v 7 (.v 8 .nil))))))))) moOrd (by kernel_rfl) ?_))
     refine zy e (zar (z:=(GTab.mk (Str.mk []) ([]:(List Str)) ([]:(List Int)) ([]:(List GTyp)))) e bu26 ze26 .nil) (rvm e e (rvm e e (zy e (zbQ e) (zy e (zhl e zcK zel) (zy e (zd6 (R:=isv (q34.2.e)) ty65 e (List.Mem.head _) hI) (zay e e (zp (y':=((GTab.mk (Str.mk []) ([]:(List Str)) ([]:(List Int)) ([]:(List GTyp))):GTab)) ty26 e e hI (.there tI) e (zy e (zaI e) (zy e (zaI e) ?_)))))))))
     refine zau (za9 8 hn48 e (zD (zA (zw (zo (rL17 _ (zw (zo ?_))))))))
     cases h
     exact zh (.cell e tH ty26 (.tmp e (.tmp e .nil))) .nil ⟨e,e⟩
    refine zZ (zt (zD (zr (oM e (zJ h fun q49 h=>oV (zah e e q49) (oA e (zG ?_)))))))
    exact hL17 _ (g34.1,g34.2) h _ (zg 14 e e (zd (j:=10) e hI ze) (.cons .here k4))
   refine z8 (.v 0 (.v 2 (.v 3 (.v 4 (.v 5 (.v 6 (.v 7 (.alt 1 (.t 8 (.t 9 (.t 10 (.v 11 (.t 12 .nil))))) (.t 8 (.alt 1 (.t 9 (.t 10 (.v 11 (.t 12 .nil)))) (.t 9 (.t 1 (.t 10 (.v 11 (.t 12 .nil))))))))))))))) moOrd (by kernel_rfl) ?_
   refine zy e (zae e zke zjq) (rvm e e (zy e (zE e GMod.f3 zl4 e (z:=a_m.types)) (zy e (za ty23 e) (rvm e e (zb h fun y36 hy36 h=>zy e (zam (l:=a_m.types) e hI e sl23 hy36) (zy e (za ty3 e) (zb h fun y37 hy37 h=>?_)))))))
   refine zas h fun q41 h=>zfr ?_ ?_
   ·refine zay e e (zK (R:=appv g16.1 (q16.2.1.roots)) ty23 e .here isvT1 (zay e e (zR (zho fuel hy37) hT (s3 e e e) (.cons tI (.cons tI .nil)) (fun R H' hR=>?_))))
    obtain ⟨v38,rfl,rfl⟩:=hR
    exact zay e e (z7 (l:=([y37.1]:(List Int))) el23 (.cons e hI .nil) e e (zay e e (zbv (l:=q16.2.1.roots) (m:=([y37.1]:(List Int))) zen e hI e zM (.there tI) q41 fun t40=>zy e (zae e zke zjq) (zay e e (zp (y':=((q16.2.1.name,q16.2.1.names,(TList.mk t40 (q16.2.1.roots ++ ([y37.1]:(List Int)))),q16.2.1.types):(Str × (List Str) × (TList Int) × (List GTyp)))) ty23 e e isvT2 (.there tI) e (zau (hJ35 _ (t40,v38) h _ (zg 12 e e ze (.cons .here k4)))))))))
   refine zay e e (zR (zho fuel hy37) hT (s3 e e e) (.cons tI (.cons tI .nil)) (fun R H' hR=>?_))
   obtain ⟨v42,rfl,rfl⟩:=hR
   refine zfr ?_ ?_
   ·exact zay e e (zK (R:=appv g16.1 (q16.2.1.roots)) ty23 e tI isvT1 (zay e e (z7 (l:=([y37.1]:(List Int))) el23 (.cons e hI .nil) e e (zay e e (zbv (l:=q16.2.1.roots) (m:=([y37.1]:(List Int))) zen e hI e zM (.there tI) q41 fun t44=>zy e (zae e zke zjq) (zay e e (zp (y':=((q16.2.1.name,q16.2.1.names,(TList.mk t44 (q16.2.1.roots ++ ([y37.1]:(List Int)))),q16.2.1.types):(Str × (List Str) × (TList Int) × (List GTyp)))) ty23 e e isvT2 (.there tI) e (zau (hJ35 _ (t44,v42) h _ (zg 12 e e ze (.cons .here k4)))))))))))
   exact zay e e (z7 (l:=([y37.1]:(List Int))) el23 (.cons e hI .nil) e e (zay e e (zK (R:=appv g16.1 (q16.2.1.roots)) ty23 e tI isvT1 (zay e e (zbv (l:=q16.2.1.roots) (m:=([y37.1]:(List Int))) zen e hI e zM (.there tI) q41 fun t46=>zy e (zae e zke zjq) (zay e e (zp (y':=((q16.2.1.name,q16.2.1.names,(TList.mk t46 (q16.2.1.roots ++ ([y37.1]:(List Int)))),q16.2.1.types):(Str × (List Str) × (TList Int) × (List GTyp)))) ty23 e e isvT2 (.there tI) e (zau (hJ35 _ (t46,v42) h _ (zg 12 e e ze (.cons .here k4)))))))))))
  refine zaj (zX (eL17 _ _ (zI (zD (wsr (oM e (oV (zz e) (oV (zae e zb2 zcW) ?_))))))))
  refine oT (zK (R:=vecv g16.2 (q16.2.2.l.length)) ty24 e tI isvV1 (oV (zae e zq6 zca) (zY (zg1 64 (.there tI) e (by first | rfl | simp)) ?_)))
  refine oT (zp (y':=((q16.2.1.name,q16.2.1.names,(TList.mk g16.1 q16.2.1.roots),q16.2.2.l):(Str × (List Str) × (TList Int) × (List GTyp)))) ty24 e e hI .here e (rnf (wsr (oT (zK (y:=((q16.2.1.name,q16.2.1.names,(TList.mk g16.1 q16.2.1.roots),q16.2.2.l):(Str × (List Str) × (TList Int) × (List GTyp)))) (R:=isv (((q16.2.1.name,q16.2.1.names,(TList.mk g16.1 q16.2.1.roots),q16.2.2.l)):((Str × (List Str) × (TList Int) × (List GTyp))))) ty26 e .here (by exact hI) ?_)))))
  refine zY (zaR (R':=isv ((GTab.mk q16.2.1.name q16.2.1.names q16.2.1.roots q16.2.2.l))) 66 e (Cv.isv e fun S=>(fun cs h=>GTab.cv (x:=(GTab.mk q16.2.1.name q16.2.1.names q16.2.1.roots q16.2.2.l)) cs (((Cv.pair Cv.id (Cv.pair Cv.id (Cv.pair Cv.tl Cv.id))):Cv S ((q16.2.1.name,q16.2.1.names,(TList.mk g16.1 q16.2.1.roots),q16.2.2.l):(Str × (List Str) × (TList Int) × (List GTyp))) (GTab.to (GTab.mk q16.2.1.name q16.2.1.names q16.2.1.roots q16.2.2.l))) cs h)))) (oT (zp (y':=((GTab.mk q16.2.1.name q16.2.1.names q16.2.1.roots q16.2.2.l):GTab)) ty26 e e hI (.there tI) e (oA e (oA e (rnf (zA ?_))))))
  cases h
  exact zh (.cell e .here ty26 (.tmp e (.tmp e .nil))) .nil ⟨e,e⟩
 refine z8 (.v 0 (.v 1 (.v 2 (.v 3 (.alt 4 (.v 5 (.t 6 (.t 7 .nil))) (.t 6 (.t 4 (.v 5 (.t 7 .nil))))))))) moOrd (by kernel_rfl) ?_
 refine zy e (zE e GMod.f0 zqw e (z:=a_m.name)) (zy e (za ty9 e) (zy e (zE e GMod.f2 zeV e (z:=a_m.names)) (zy e (za ty22 e) (zas h fun q8 h=>zfr ?_ ?_))))
 ·exact zay e e (zkF (m:=a_m.names) znb e e hI q8 fun t7=>zy e (zar (z:=((a_m.name,(([]:(List Str)) ++ a_m.names),(TList.mk none ([]:(List Int))),([]:(List GTyp))):(Str × (List Str) × (TList Int) × (List GTyp)))) e bu26 znc (.cons znW zq7 e hI (.cons znN zq0 e zM .nil))) (zay e e (zac _ znc fun b9=>ze8 (zaQ) (ze8 (zaQ) (zay e e (zp (y':=((a_m.name,(([]:(List Str)) ++ a_m.names),(TList.mk none ([]:(List Int))),([]:(List GTyp))):(Str × (List Str) × (TList Int) × (List GTyp)))) ty26 e e hI tI e (zau (hJ6 _ (b9,none) h _ (zg 7 e e (zd (j:=9) e hI ze) (.cons .here (.cons .here (.cons tI (.cons tI (.cons tI .nil))))))))))))))
 exact zay e e (zac _ znc fun b12=>ze8 (zaQ) (zay e e (zkF (m:=a_m.names) znb e e hI q8 fun t14=>zy e (zar (z:=((a_m.name,(([]:(List Str)) ++ a_m.names),(TList.mk none ([]:(List Int))),([]:(List GTyp))):(Str × (List Str) × (TList Int) × (List GTyp)))) e bu26 znc (.cons znW zq7 e hI (.cons znN zq0 e zM .nil))) (ze8 (zaQ) (zay e e (zp (y':=((a_m.name,(([]:(List Str)) ++ a_m.names),(TList.mk none ([]:(List Int))),([]:(List GTyp))):(Str × (List Str) × (TList Int) × (List GTyp)))) ty26 e e hI (.there tI) e (zau (hJ6 _ (b12,none) h _ (zg 7 e e (zd (j:=9) e hI ze) (.cons .here (.cons .here (.cons tI (.cons tI (.cons tI .nil))))))))))))))


theorem zgG:∀ {zbg:Str} {r:GTab × Bool},zb4 zbg=some r→Ctr Tryz.prog 11 [isv (zbg)] [] (fun R H=>R=oneOf [isv (r.1),isv (r.2)]∧H=[]):=by
 intro zbg r h
 unfold zb4 at h
 refine zq Tryz.func11 e fun w0 S0 hT=>wsr (oT (zac _ ze26 fun b1=>oA e (rnf (zn (wsr (oM e (oV (zer st9 e) ?_)))))))
 refine oV (zbn e e) (rnf (zf h e (fun _ h=>?_) (fun _ h=>?_)))
 ·refine wsr (oV (zar (z:=(GTab.mk (Str.mk []) ([]:(List Str)) ([]:(List Int)) ([]:(List GTyp)))) e bu26 ze26 .nil) (oT (zp (y':=((GTab.mk (Str.mk []) ([]:(List Str)) ([]:(List Int)) ([]:(List GTyp))):GTab)) ty26 e e hI .here e (oA e (rnf (zA (zo ?_)))))))
  cases h
  exact zh (.cell e .here ty26 (.tmp e .nil)) .nil ⟨e,e⟩
 refine wkf (wsr (oM e (zb h fun y2 hy2 h=>oT (zx (znY hy2) hT (s1 e) .nil (oM e (oV (zO e e) (oV (zO e e) (oV (zO e e) ?_))))))))
 refine oT (zac _ ze73 fun b3=>oT (zp (y':=(y2.1:GMod)) ty73 e e hI .here e (zY (zaE 4 .here e) (oA e (oA e (rnf (zn (wsr (oM e ?_)))))))))
 refine oV (zaV e e) (rnf (zf h e (fun _ h=>?_) (fun _ h=>?_)))
 ·refine wsr (oV (zar (z:=(GTab.mk (Str.mk []) ([]:(List Str)) ([]:(List Int)) ([]:(List GTyp)))) e bu26 ze26 .nil) (oT (zp (y':=((GTab.mk (Str.mk []) ([]:(List Str)) ([]:(List Int)) ([]:(List GTyp))):GTab)) ty26 e e hI .here e (oA e (rnf (zA (zo ?_)))))))
  cases h
  exact zh (.cell e .here ty26 (.tmp e .nil)) .nil ⟨e,e⟩
 refine wkf (wsr (oV (za ty73 e) (zb h fun y4 hy4 h=>oT (zx (zoJ hy4) hT (s1 e) .nil (oM e (oV (zO e e) (oV (zO e e) (oV (zO e e) ?_))))))))
 refine oT (zac _ ze26 fun b5=>oT (zp (y':=(y4.1:GTab)) ty26 e e hI .here e (zY (zaE 7 .here e) (oA e (oA e (rnf (zn (z8 (.v 0 (.v 1 (.v 2 (.v 3 (.v 4 (.v 5 (.v 6 (.v 7 (.v 8 (.t 9 (.v 10 .nil))))))))))) moOrd (by kernel_rfl) ?_))))))))
 refine zy e (za ty26 e) (rvm e e (zy e (zP e e) (rvm e e (zcZ (jb 37) je .nil h 5 e (fun q6 g6 h=>?_) (fun J7 h hJ7=>?_)))))
 ·refine zay e e (zp (y':=(y4.1:GTab)) ty26 e e hI .here e (zy e (zaI e) (zau (zD (zA ?_)))))
  cases h
  exact zh (.cell e .here ty26 (.tmp e .nil)) .nil ⟨e,e⟩
 refine zaG (j:=32) h e (fun g8 h=>?_) (fun g8 h=>?_)
 ·exact rvt 32 e e e g8 (zE e GTab.f3 zca e (z:=y4.1.types)) (rvt 32 e e e g8 (za ty24 e) (rvt 32 e e e g8 (zaq (l:=y4.1.types) e hI sl24) (rvt 32 e e e g8 (ziw e e) (zy e (zi e g8 e) (hJ7 _ () h _ (jk 5 37 e e e))))))
 exact rpv 32 e e e g8 (rpv 32 e e e g8 (rpv 32 e e e g8 (rpv 32 e e e g8 (zy e (zj e g8 e) (hJ7 _ () h _ (jk 5 37 e e e))))))

end Go.Proofs.Q


namespace Go.Proofs.Q
open Go.Sy
set_option maxRecDepth 4000
theorem zja:∀ {a_b:(List UInt8)} {r:UInt64 × Int × Int},zfd a_b=some r→Ctr Tryz.prog 195 [isv (a_b)] [] (fun R H=>R=oneOf [isv (r.1),isv (r.2.1),isv (r.2.2)]∧H=[]):=by
 intro a_b r h
 unfold zfd at h
 refine zq Tryz.func195 e fun w0 S0 hT=>wsr (oA e (oA e (oA e (rnf (wsr (oA e (rnf ?_)))))))
 refine zn (wsr (oM e (oV (zaq (l:=a_b) e hI sl42) (oM e (rnf (zB (za4 (ι:=UInt64 × Int) (γ:=Unit) (fun q1 g1=>[(5,isv (q1.1)),(10,isv (q1.2))]) (fun q1 g1=>[]) h () (zd (j:=5) e hI (zd (j:=10) e hI ze)) .nil (fun L2 q1 g1 Q23 h hL2 eL2 rL2=>wsr ?_))))))))
 refine oV (zao e e) (rnf (zn (zf h e (fun _ h=>?_) (fun _ h=>?_))))
 ·refine wkf (zn (zB (wsr (oM e (zb h fun y13 hy13 h=>oV (zam (l:=a_b) e hI e sl42 hy13) (oV (za ty5 e) (oA e ?_)))))))
  refine oA e (rnf (zn (wsr (oM e (oV (zP e e) (oM e (zQ (jb 20) je .nil h 3 e (fun q14 g14 h=>?_) (fun J15 h hJ15=>?_))))))))
  ·refine oM e (zQ (jb 25) je .nil h 4 e (fun q17 g17 h=>?_) (fun J18 h hJ18=>?_))
   ·refine rnf (zf h e (fun _ h=>?_) (fun _ h=>?_))
    ·refine wsr (oA e (oA e (oA e (rnf (zA (zo (zw (zo ?_))))))))
     refine rL2 _ (zw (zo ?_))
     cases h
     exact zh (.tmp e (.tmp e (.tmp e .nil))) .nil ⟨e,e⟩
    refine wkf (wsr (oM e (zas h fun q20 h=>oV (zfa e e q20) (oM e (oV (zjD e e) (oV (zdD Tryz.underlying5 Tryz.underlying41 e) (oV (zev e e) ?_)))))))
    refine oA e (rnf (wsr (oM e (oV (zd8 e e) (rnf (zf h e (fun _ h=>?_) (fun _ h=>?_)))))))
    ·refine wsr (oM e (oM e (zJ h fun q21 h=>oV (zah e e q21) (oA e (oA e (oA e (rnf ?_)))))))
     refine zA (zw (zo (rL2 _ (zw (zo ?_)))))
     cases h
     exact zh (.tmp e (.tmp e (.tmp e .nil))) .nil ⟨e,e⟩
    exact zZ (zt (zD (zr (zJ h fun q22 h=>oV (zah e e q22) (oM e (zG (hL2 _ () h _ (zg 25 e e (zd (j:=5) e hI (zd (j:=10) e hI ze)) .nil))))))))
   refine zm (j:=21) h e (fun g19 h=>?_) (fun g19 h=>?_)
   ·exact oP 21 e e g19 (oP 21 e e g19 (oP 21 e e g19 (oV (zi e g19 e) (hJ18 _ () h _ (ji 4 25 e e e)))))
   refine oK 21 e e e g19 (zu e) (oK 21 e e e g19 (zpg (q:=(57:UInt64)) e e (by decide)) ?_)
   exact oK 21 e e e g19 (zkm eq41 e e) (oV (zj e g19 e) (hJ18 _ () h _ (ji 4 25 e e e)))
  refine zm (j:=17) h e (fun g16 h=>?_) (fun g16 h=>?_)
  ·exact oK 17 e e e g16 (zu e) (oK 17 e e e g16 (zcs eq5 e e) (oV (zi e g16 e) (hJ15 _ () h _ (ji 3 20 e e e))))
  exact oP 17 e e g16 (oP 17 e e g16 (oV (zj e g16 e) (hJ15 _ () h _ (ji 3 20 e e e))))
 refine zaj (zX (eL2 _ _ (zI (zD (wsr (oA e (oA e (oA e ?_))))))))
 refine rnf (zA ?_)
 cases h
 exact zh (.tmp e (.tmp e (.tmp e .nil))) .nil ⟨e,e⟩


theorem znf:∀ {a_b:(List UInt8)} {r:Int × Int × Int},zjy a_b=some r→Ctr Tryz.prog 188 [isv (a_b)] [] (fun R H=>R=oneOf [isv (r.1),isv (r.2.1),isv (r.2.2)]∧H=[]):=by
 intro a_b r h
 unfold zjy at h
 refine zq Tryz.func188 e fun w0 S0 hT=>wsr (oA e (oA e (oA e (rnf (zn (wsr (oM e ?_)))))))
 refine zb h fun y1 hy1 h=>oV (zam (l:=a_b) e hI e sl42 hy1) (oV (za ty5 e) (oV (zjD e e) (oV (zkY Tryz.underlying5 Tryz.underlying3 e) (oA e (rnf (wsr (oM e ?_)))))))
 refine oV (zao e e) (rnf (zf h e (fun _ h=>?_) (fun _ h=>?_)))
 ·refine wsr (oM e (oA e (oA e (oA e (rnf (zA (zo ?_)))))))
  cases h
  exact zh (.tmp e (.tmp e (.tmp e .nil))) .nil ⟨e,e⟩
 refine wkf (wsr (oM e (zap h fun q2 h=>oV (zfk (l:=a_b) e hI sl42 (.inr ⟨_,e,e⟩) (.inl ⟨e,e⟩) q2.1 q2.2.1 q2.2.2) (zb h fun y3 hy3 h=>oT (zx (zja hy3) hT (s1 e) .nil (oM e (oV (zO e e) ?_)))))))
 refine oV (zO e e) (oV (zO e e) (oA e (oA e (oA e (rnf (zn (zB (wsr ?_))))))))
 refine oM e (oV (zaV e e) (oA e (rnf (zf h e (fun _ h=>?_) (fun _ h=>?_)))))
 ·refine wsr (oM e (oA e (oA e (oA e (rnf (zA (zw (zo ?_))))))))
  cases h
  exact zh (.tmp e (.tmp e (.tmp e .nil))) .nil ⟨e,e⟩
 refine wsr (oM e (oV (zk8 e e) (oM e (zQ (jb 34) je .nil h 3 e (fun q4 g4 h=>?_) (fun J5 h hJ5=>?_)))))
 ·refine oA e (rnf (zf h e (fun _ h=>?_) (fun _ h=>?_)))
  ·refine wsr (oA e (oA e (oA e (rnf (zA (zw (zo ?_)))))))
   cases h
   exact zh (.tmp e (.tmp e (.tmp e .nil))) .nil ⟨e,e⟩
  refine zZ (zt (zD (wsr (oM e (zJ h fun q7 h=>oV (zjJ Tryz.underlying41 Tryz.underlying3 e q7) (oM e (oA e ?_)))))))
  refine oA e (oA e (rnf (zA ?_)))
  cases h
  exact zh (.tmp e (.tmp e (.tmp e .nil))) .nil ⟨e,e⟩
 refine zm (j:=31) h e (fun g6 h=>?_) (fun g6 h=>?_)
 ·exact oP 31 e e g6 (oP 31 e e g6 (oV (zi e g6 e) (hJ5 _ () h _ (ji 3 34 e e e))))
 exact oK 31 e e e g6 (zu e) (oK 31 e e e g6 (ziV e e) (oV (zj e g6 e) (hJ5 _ () h _ (ji 3 34 e e e))))


theorem zls:∀ {a_b:(List UInt8)} {r:UInt64},zhQ a_b=some r→Ctr Tryz.prog 198 [isv (a_b)] [] (fun R H=>R=oneOf [isv (r)]∧H=[]):=by
 intro a_b r h
 unfold zhQ at h
 refine zq Tryz.func198 e fun w0 S0 hT=>wsr (oA e (rnf (wsr (oA e (rnf (zn (wsr ?_)))))))
 refine oM e (oV (zaq (l:=a_b) e hI sl42) (oM e (rnf (zB (za4 (ι:=UInt64 × Int) (γ:=Unit) (fun q1 g1=>[(3,isv (q1.1)),(8,isv (q1.2))]) (fun q1 g1=>[]) h () (zd (j:=3) e hI (zd (j:=8) e hI ze)) .nil (fun L2 q1 g1 Q9 h hL2 eL2 rL2=>wsr (oV (zao e e) (rnf ?_))))))))
 refine zn (zf h e (fun _ h=>?_) (fun _ h=>?_))
 ·refine wkf (zn (zB (wsr (zb h fun y6 hy6 h=>oV (zam (l:=a_b) e hI e sl42 hy6) (oV (za ty5 e) (oA e (rnf ?_)))))))
  refine zr (oM e (zas h fun q7 h=>oV (zfa e e q7) (oM e (oV (zdD Tryz.underlying5 Tryz.underlying41 e) (oV (zev e e) (oA e (zG ?_)))))))
  exact zt (zD (zr (zJ h fun q8 h=>oV (zah e e q8) (oM e (zG (hL2 _ () h _ (zg 14 e e (zd (j:=3) e hI (zd (j:=8) e hI ze)) .nil)))))))
 refine zaj (zX (eL2 _ _ (zI (zD (wsr (oM e (oA e (rnf ?_))))))))
 refine zA ?_
 cases h
 exact zh (.tmp e .nil) .nil ⟨e,e⟩


theorem zid:∀ {a_b:(List UInt8)} {r:UInt64 × Int},zeb a_b=some r→Ctr Tryz.prog 196 [isv (a_b)] [] (fun R H=>R=oneOf [isv (r.1),isv (r.2)]∧H=[]):=by
 intro a_b r h
 unfold zeb at h
 refine zq Tryz.func196 e fun w0 S0 hT=>wsr (oA e (oA e (rnf (zn (wsr (oM e (oV (zaq (l:=a_b) e hI sl42) ?_)))))))
 refine oV (zP e e) (rnf (zf h e (fun _ h=>?_) (fun _ h=>?_)))
 ·refine wsr (oA e (oA e (rnf (zA (zo ?_)))))
  cases h
  exact zh (.tmp e (.tmp e .nil)) .nil ⟨e,e⟩
 refine wkf (zn (wsr (oM e (oV (zaq (l:=a_b) e hI sl42) (oV (zbn e e) (oM e (zQ (jb 20) je .nil h 10 e (fun q1 g1 h=>?_) (fun J2 h hJ2=>?_))))))))
 ·refine rnf (zf h e (fun _ h=>?_) (fun _ h=>?_))
  ·refine wsr (oA e (oA e (rnf (zA (zo ?_)))))
   cases h
   exact zh (.tmp e (.tmp e .nil)) .nil ⟨e,e⟩
  refine wkf (wsr (oM e (zb h fun y8 hy8 h=>oT (zx (zls hy8) hT (s1 e) .nil (oA e (oA e (rnf (zA ?_))))))))
  cases h
  exact zh (.tmp e (.tmp e .nil)) .nil ⟨e,e⟩
 refine zm (j:=10) h e (fun g3 h=>?_) (fun g3 h=>?_)
 ·refine oP 10 e e g3 (oP 10 e e g3 (oP 10 e e g3 (oP 10 e e g3 (zk e (dj:=14) e (zk e (dj:=14) e (zk e (dj:=14) e (zk e (dj:=14) e (oP 10 e e g3 ?_))))))))
  exact oV (zi e g3 e) (hJ2 _ () h _ (ji 10 20 e e e))
 refine oK 10 e e e g3 (zu e) (oK 10 e e e g3 (zaq (l:=a_b) e hI sl42) (oK 10 e e e g3 (zbn e e) (oK 10 e e e g3 (zu e) (zQ (jb 19) je .nil h 5 e (fun q4 g4 h=>?_) (fun J5 h hJ5=>?_)))))
 ·exact oV (zj e g3 e) (hJ2 _ () h _ (ji 6 20 e e e))
 refine zm (j:=14) h e (fun g6 h=>?_) (fun g6 h=>?_)
 ·exact oK 14 e e e g6 (zu e) (zb h fun y7 hy7 h=>oK 14 e e e g6 (zam (l:=a_b) e hI e sl42 hy7) (oK 14 e e e g6 (za ty5 e) (oK 14 e e e g6 (zcs eq5 e e) (oK 10 e e e g3 (zi e g6 e) (hJ5 _ () h _ (ji 5 19 e e e))))))
 exact oP 14 e e g6 (oP 14 e e g6 (oP 14 e e g6 (oP 14 e e g6 (oK 10 e e e g3 (zj e g6 e) (hJ5 _ () h _ (ji 5 19 e e e))))))


theorem zm0:∀ {a_b:(List UInt8)} {r:Int × Int × Int},zjL a_b=some r→Ctr Tryz.prog 189 [isv (a_b)] [] (fun R H=>R=oneOf [isv (r.1),isv (r.2.1),isv (r.2.2)]∧H=[]):=by
 intro a_b r h
 unfold zjL at h
 refine zq Tryz.func189 e fun w0 S0 hT=>wsr (oA e (oA e (oA e (rnf (zn (wsr (oM e ?_)))))))
 refine oV (zaq (l:=a_b) e hI sl42) (oV (zP e e) (rnf (zf h e (fun _ h=>?_) (fun _ h=>?_))))
 ·refine wsr (oA e (oA e (oA e (rnf (zA (zo ?_))))))
  cases h
  exact zh (.tmp e (.tmp e (.tmp e .nil))) .nil ⟨e,e⟩
 refine wkf (zn (wsr (oM e (zb h fun y1 hy1 h=>oV (zam (l:=a_b) e hI e sl42 hy1) (oV (za ty5 e) (oV (zd8 e e) (rnf ?_)))))))
 refine zf h e (fun _ h=>?_) (fun _ h=>?_)
 ·refine wsr (oM e (zb h fun y2 hy2 h=>oV (zam (l:=a_b) e hI e sl42 hy2) (oV (za ty5 e) (oV (zkY Tryz.underlying5 Tryz.underlying3 e) (oA e (oA e (oA e ?_)))))))
  refine rnf (zA (zo ?_))
  cases h
  exact zh (.tmp e (.tmp e (.tmp e .nil))) .nil ⟨e,e⟩
 refine wkf (wsr (oM e (zb h fun y3 hy3 h=>oV (zam (l:=a_b) e hI e sl42 hy3) (oV (za ty5 e) (oV (zp4 e e) (oV (zkY Tryz.underlying5 Tryz.underlying3 e) (oA e ?_)))))))
 refine rnf (zn (zB (wsr (oM e (oV (zP e e) (oM e (zQ (jb 30) je .nil h 3 e (fun q4 g4 h=>?_) (fun J5 h hJ5=>?_))))))))
 ·refine oA e (rnf (zf h e (fun _ h=>?_) (fun _ h=>?_)))
  ·refine wsr (oA e (oA e (oA e (rnf (zA (zw (zo ?_)))))))
   cases h
   exact zh (.tmp e (.tmp e (.tmp e .nil))) .nil ⟨e,e⟩
  refine wsr (oM e (oV (zaq (l:=a_b) e hI sl42) (oM e (oV (ziw e e) (oA e (rnf (zf h e (fun _ h=>?_) (fun _ h=>?_))))))))
  ·refine wsr (oA e (oA e (oA e (rnf (zA (zw (zo ?_)))))))
   cases h
   exact zh (.tmp e (.tmp e (.tmp e .nil))) .nil ⟨e,e⟩
  refine zZ (zt (zD (wsr (oM e (oM e (zJ h fun q7 h=>oV (zah e e q7) (zap h fun q8 h=>?_)))))))
  refine oV (zfk (l:=a_b) e hI sl42 (.inr ⟨_,e,e⟩) (.inr ⟨_,e,e⟩) q8.1 q8.2.1 q8.2.2) (zb h fun y9 hy9 h=>oT (zx (zid hy9) hT (s1 e) .nil (oM e (oV (zO e e) (oV (zO e e) (oA e (oA e (rnf ?_))))))))
  refine zn (wsr (oM e (oV (zaV e e) (oM e (zQ (jb 49) je .nil h 3 e (fun q10 g10 h=>?_) (fun J11 h hJ11=>?_))))))
  ·refine oM e (zQ (jb 53) je .nil h 3 e (fun q13 g13 h=>?_) (fun J14 h hJ14=>?_))
   ·refine rnf (zf h e (fun _ h=>?_) (fun _ h=>?_))
    ·refine wsr (oA e (oA e (oA e (rnf (zA (zo ?_))))))
     cases h
     exact zh (.tmp e (.tmp e (.tmp e .nil))) .nil ⟨e,e⟩
    refine wkf (wsr (oM e (zJ h fun q16 h=>oV (zjJ Tryz.underlying41 Tryz.underlying3 e q16) (oM e (zJ h fun q17 h=>oV (zah e e q17) (oA e ?_))))))
    refine oA e (oA e (rnf (zA ?_)))
    cases h
    exact zh (.tmp e (.tmp e (.tmp e .nil))) .nil ⟨e,e⟩
   refine zm (j:=50) h e (fun g15 h=>?_) (fun g15 h=>?_)
   ·exact oP 50 e e g15 (oP 50 e e g15 (oV (zi e g15 e) (hJ14 _ () h _ (ji 3 53 e e e))))
   exact oK 50 e e e g15 (zu e) (oK 50 e e e g15 (ziV e e) (oV (zj e g15 e) (hJ14 _ () h _ (ji 3 53 e e e))))
  refine zm (j:=46) h e (fun g12 h=>?_) (fun g12 h=>?_)
  ·exact oP 46 e e g12 (oP 46 e e g12 (oV (zi e g12 e) (hJ11 _ () h _ (ji 3 49 e e e))))
  exact oK 46 e e e g12 (zu e) (oK 46 e e e g12 (zk8 e e) (oV (zj e g12 e) (hJ11 _ () h _ (ji 3 49 e e e))))
 refine zm (j:=27) h e (fun g6 h=>?_) (fun g6 h=>?_)
 ·exact oP 27 e e g6 (oP 27 e e g6 (oV (zi e g6 e) (hJ5 _ () h _ (ji 3 30 e e e))))
 exact oK 27 e e e g6 (zu e) (oK 27 e e e g6 (zbn e e) (oV (zj e g6 e) (hJ5 _ () h _ (ji 3 30 e e e))))


theorem zlJ:∀ {a_b:(List UInt8)} {r:Tag × Bool × Int × Int × Int},zhE a_b=some r→Ctr Tryz.prog 178 [isv (a_b)] [] (fun R H=>R=oneOf [isv (r.1),isv (r.2.1),isv (r.2.2.1),isv (r.2.2.2.1),isv (r.2.2.2.2)]∧H=[]):=by
 intro a_b r h
 unfold zhE at h
 refine zq Tryz.func178 e fun w0 S0 hT=>wsr (oT (zac _ ze31 fun b1=>oA e (oA e (oA e (oA e (rnf (zn ?_)))))))
 refine wsr (oM e (oV (zaq (l:=a_b) e hI sl42) (oV (zP e e) (rnf (zf h e (fun _ h=>?_) (fun _ h=>?_))))))
 ·refine wsr (oV (zar (z:=(Tag.mk (0:Int) (0:Int))) e bu31 ze31 .nil) (oT (zp (y':=((Tag.mk (0:Int) (0:Int)):Tag)) ty31 e e hI .here e (oA e (oA e (oA e (oA e (rnf (zA ?_)))))))))
  refine zo ?_
  cases h
  exact zh (.cell e .here ty31 (.tmp e (.tmp e (.tmp e (.tmp e .nil))))) .nil ⟨e,e⟩
 refine wkf (wsr (oM e (zb h fun y2 hy2 h=>oT (zx (znf hy2) hT (s1 e) .nil (oM e (oV (zO e e) (oV (zO e e) (oV (zO e e) ?_))))))))
 refine oA e (oA e (oA e (rnf (zn (wsr (oM e (oV (zaV e e) (rnf ?_))))))))
 refine zf h e (fun _ h=>?_) (fun _ h=>?_)
 ·refine wsr (oV (zar (z:=(Tag.mk (0:Int) (0:Int))) e bu31 ze31 .nil) (oM e (oT (zp (y':=((Tag.mk (0:Int) (0:Int)):Tag)) ty31 e e hI .here e (oA e (oA e (oA e (oA e (rnf ?_)))))))))
  refine zA (zo ?_)
  cases h
  exact zh (.cell e .here ty31 (.tmp e (.tmp e (.tmp e (.tmp e .nil))))) .nil ⟨e,e⟩
 refine wkf (wsr (oM e (oM e (zJ h fun q3 h=>oV (zah e e q3) (zap h fun q4 h=>oV (zfk (l:=a_b) e hI sl42 (.inr ⟨_,e,e⟩) (.inl ⟨e,e⟩) q4.1 q4.2.1 q4.2.2) (zb h fun y5 hy5 h=>?_))))))
 refine oT (zx (zm0 hy5) hT (s1 e) .nil (oM e (oV (zO e e) (oV (zO e e) (oV (zO e e) (oA e (oA e (oA e (rnf ?_)))))))))
 refine zn (wsr (oM e (oV (zaV e e) (rnf (zf h e (fun _ h=>?_) (fun _ h=>?_))))))
 ·refine wsr (oV (zar (z:=(Tag.mk (0:Int) (0:Int))) e bu31 ze31 .nil) (oM e (oT (zp (y':=((Tag.mk (0:Int) (0:Int)):Tag)) ty31 e e hI .here e (oA e (oA e (oA e (oA e (rnf ?_)))))))))
  refine zA (zo ?_)
  cases h
  exact zh (.cell e .here ty31 (.tmp e (.tmp e (.tmp e (.tmp e .nil))))) .nil ⟨e,e⟩
 refine wkf (zn (z8 (.v 0 (.v 1 (.v 2 (.v 3 (.v 4 (.v 5 (.v 6 (.v 7 (.v 8 (.v 9 (.v 10 (.v 11 (.v 12 (.v 13 (.v 14 (.v 15 (.v 16 (.t 17 (.v 18 (.v 19 (.v 20 (.v 21 .nil)))))))))))))))))))))) moOrd (by kernel_rfl) ?_))
 refine rvm e e (zb h fun y6 hy6 h=>zy e (zam (l:=a_b) e hI e sl42 hy6) (zy e (za ty5 e) (zas h fun q7 h=>zy e (zoZ e e q7) (zy e (zkY Tryz.underlying5 Tryz.underlying3 e) (rvm e e (zy e (zar (z:=(Tag.mk ((shr8 y6 (6:UInt64).toNat).toNat:Int) y2.1)) e bu31 ze31 (.cons Tag.f0 zgz e hI (.cons Tag.f1 zdJ e hI .nil))) ?_))))))
 refine rvm e e (zb h fun y8 hy8 h=>zy e (zam (l:=a_b) e hI e sl42 hy8) (zy e (za ty5 e) (zy e (zjD e e) (zy e (zkm eq5 e e) (rvm e e (rvm e e (zJ h fun q9 h=>?_)))))))
 refine zy e (zah e e q9) (rvm e e (zJ h fun q10 h=>zy e (zah e e q10) (zay e e (zp (y':=((Tag.mk ((shr8 y6 (6:UInt64).toNat).toNat:Int) y2.1):Tag)) ty31 e e hI .here e (zy e (zaI e) (zy e (zaI e) (zy e (zaI e) (zy e (zaI e) ?_))))))))
 refine zau (zD (zA ?_))
 cases h
 exact zh (.cell e .here ty31 (.tmp e (.tmp e (.tmp e (.tmp e .nil))))) .nil ⟨e,e⟩


theorem zoy:∀ {a_b:(List UInt8)} {r:Tag × Bool × (List UInt8) × Int × Int},zlv a_b=some r→Ctr Tryz.prog 158 [isv (a_b)] [] (fun R H=>R=oneOf [isv (r.1),isv (r.2.1),isv (r.2.2.1),isv (r.2.2.2.1),isv (r.2.2.2.2)]∧H=[]):=by
 intro a_b r h
 unfold zlv at h
 refine zq Tryz.func158 e fun w0 S0 hT=>wsr (oT (zac _ ze31 fun b1=>oA e (oA e (oA e (oA e (rnf (wsr ?_)))))))
 refine oM e (zb h fun y2 hy2 h=>oT (zx (zlJ hy2) hT (s1 e) .nil (oM e (oV (zO e e) (oV (zO e e) (oV (zO e e) (oV (zO e e) (oV (zO e e) ?_))))))))
 refine oT (zac _ ze31 fun b3=>oT (zp (y':=(y2.1:Tag)) ty31 e e hI .here e (zY (zaE 7 .here e) (oA e (oA e (oA e (oA e (rnf (zn ?_)))))))))
 refine wsr (oM e (oV (zP e e) (oM e (zQ (jb 29) je .nil h 7 e (fun q4 g4 h=>?_) (fun J5 h hJ5=>?_)))))
 ·refine rnf (zdF (ι:=Int) (γ:=Unit) (fun q8 g8=>[(11,isv (q8))]) (fun q8 g8=>[]) .nil h (fun q8 g8 h=>?_) (fun J9 h hJ9=>?_))
  ·refine zn (wsr (oM e (oV (zaV e e) (rnf (zf h e (fun _ h=>?_) (fun _ h=>?_))))))
   ·refine wsr (oV (zar (z:=(Tag.mk (0:Int) (0:Int))) e bu31 ze31 .nil) (oM e (oT (zp (y':=((Tag.mk (0:Int) (0:Int)):Tag)) ty31 e e hI .here e (oA e (oA e (oA e (oA e (rnf ?_)))))))))
    refine zA (zo ?_)
    cases h
    exact zh (.cell e .here ty31 (.tmp e (.as e (zdc (α:=UInt8)) (.tmp e (.tmp e .nil))))) .nil ⟨e,e⟩
   refine wkf (zn (z8 (.v 0 (.v 1 (.v 2 (.v 3 (.v 4 (.v 5 (.v 6 (.v 7 (.v 9 (.v 10 (.v 11 (.t 8 (.t 12 (.v 13 (.v 14 (.v 15 (.v 16 .nil))))))))))))))))) moOrd (by kernel_rfl) ?_))
   refine zy e (za ty31 e) (rvm e e (rvm e e (rvm e e (rvm e e (rvm e e (zJ h fun q10 h=>zy e (zah e e q10) (zap h fun q11 h=>?_)))))))
   refine zy e (zfk (l:=a_b) e hI sl42 (.inr ⟨_,e,e⟩) (.inr ⟨_,e,e⟩) q11.1 q11.2.1 q11.2.2) (rvm e e (rvm e e (zJ h fun q12 h=>zy e (zah e e q12) (zas h fun q14 h=>zay e e (zkF (m:=((a_b.take ((y2.2.2.2.1 + y2.2.2.1)).toNat).drop (y2.2.2.2.1).toNat)) zjQ e e hI q14 fun t13=>zay e e (zp (y':=(y2.1:Tag)) ty31 e e hI tH e (zy e (zaI e) ?_)))))))
   refine zy e (zaI e) (zy e (zaI e) (zy e (zaI e) (zau (zD (zA ?_)))))
   cases h
   exact zh (.cell e .here ty31 (.tmp e (.as e zM (.tmp e (.tmp e .nil))))) .nil ⟨e,e⟩
  refine zf h e (fun _ h=>?_) (fun _ h=>?_)
  ·exact zr (oA e (zG (hJ9 _ () h _ (jk 1 11 e e e))))
  exact zZ (hJ9 _ () h _ (jk 0 11 e e e))
 refine zm (j:=22) h e (fun g6 h=>?_) (fun g6 h=>?_)
 ·exact oK 22 e e e g6 (zu e) (oK 22 e e e g6 (zu e) (oK 22 e e e g6 (zaq (l:=a_b) e hI sl42) (oK 22 e e e g6 (zu e) (zJ h fun q7 h=>oK 22 e e e g6 (zda e e q7) (oK 22 e e e g6 (zbn e e) (oV (zi e g6 e) (hJ5 _ () h _ (jk 7 29 e e e))))))))
 exact oP 22 e e g6 (oP 22 e e g6 (oP 22 e e g6 (oP 22 e e g6 (oP 22 e e g6 (oP 22 e e g6 (oV (zj e g6 e) (hJ5 _ () h _ (jk 7 29 e e e))))))))


theorem zjk:∀ {a_t:GTyp} {a_k:Int} {r:Bool},zeK a_t a_k=some r→Ctr Tryz.prog 127 [isv (a_t),isv (a_k)] [] (fun R H=>R=oneOf [isv (r)]∧H=[]):=by
 intro a_t a_k r h
 unfold zeK at h
 refine zq Tryz.func127 e fun w0 S0 hT=>wsr (oT (zai (y:=a_t) e hI (oA e (rnf (wsr (oV (zE e GTyp.f4 za2 e (z:=a_t.fields)) (oV (za ty85 e) (oM e ?_))))))))
 refine zb h fun y1 hy1 h=>oV (zam (l:=a_t.fields) e hI e sl85 hy1) (oV (zE e GFld.f2 zkz e (z:=y1.optional)) (oV (za ty4 e) (oM e (zQ (jb 18) je .nil h 7 e (fun q2 g2 h=>?_) (fun J3 h hJ3=>?_)))))
 ·refine oM e (zQ (jb 24) je .nil h 5 e (fun q6 g6 h=>?_) (fun J7 h hJ7=>?_))
  ·refine oA e (rnf (zA ?_))
   cases h
   exact zh (.tmp e .nil) .nil ⟨e,e⟩
  refine zm (j:=19) h e (fun g8 h=>?_) (fun g8 h=>?_)
  ·exact oP 19 e e g8 (oP 19 e e g8 (oP 19 e e g8 (oP 19 e e g8 (oV (zi e g8 e) (hJ7 _ () h _ (ji 5 24 e e e))))))
  exact oK 19 e e e g8 (zu e) (oK 19 e e e g8 (zE e GTyp.f5 zfR e (z:=a_t.root)) (oK 19 e e e g8 (za ty3 e) (oK 19 e e e g8 (zck e e) (oV (zj e g8 e) (hJ7 _ () h _ (ji 5 24 e e e))))))
 refine zm (j:=11) h e (fun g4 h=>?_) (fun g4 h=>?_)
 ·exact oP 11 e e g4 (oP 11 e e g4 (oP 11 e e g4 (oP 11 e e g4 (oP 11 e e g4 (oP 11 e e g4 (oV (zi e g4 e) (hJ3 _ () h _ (ji 7 18 e e e))))))))
 exact oK 11 e e e g4 (zE e GTyp.f4 za2 e (z:=a_t.fields)) (oK 11 e e e g4 (za ty85 e) (oK 11 e e e g4 (zu e) (zb h fun y5 hy5 h=>oK 11 e e e g4 (zam (l:=a_t.fields) e hI e sl85 hy5) (oK 11 e e e g4 (zE e GFld.f3 zhL e (z:=y5.has)) (oK 11 e e e g4 (za ty4 e) (oV (zj e g4 e) (hJ3 _ () h _ (ji 7 18 e e e))))))))


theorem zm6:∀ {a_t:GTyp} {r:Int},zjs a_t=some r→Ctr Tryz.prog 159 [isv (a_t)] [] (fun R H=>R=oneOf [isv (r)]∧H=[]):=by
 intro a_t r h
 unfold zjs at h
 refine zq Tryz.func159 e fun w0 S0 hT=>wsr (oT (zai (y:=a_t) e hI (oA e (rnf (wsr (oV (zE e GTyp.f5 zfR e (z:=a_t.root)) (oV (za ty3 e) (oV (zse e e) ?_))))))))
 refine oV (zE e GTyp.f4 za2 e (z:=a_t.fields)) (oV (za ty85 e) (oV (zaq (l:=a_t.fields) e hI sl85) (oV (zsg e e) (oA e (rnf (zn (zB (za4 (ι:=Int) (γ:=Unit) (fun q1 g1=>[(3,isv (q1))]) (fun q1 g1=>[]) h () (zd (j:=3) e hI ze) .nil (fun L2 q1 g1 Q15 h hL2 eL2 rL2=>?_)))))))))
 refine zn (wsr (oM e (oV (zbn e e) (oM e (zQ (jb 18) je .nil h 5 e (fun q9 g9 h=>?_) (fun J10 h hJ10=>?_))))))
 ·refine rnf (zf h e (fun _ h=>?_) (fun _ h=>?_))
  ·refine wkf (zB (zr (oM e (zJ h fun q14 h=>oV (zda e e q14) (oA e (zG (zt ?_)))))))
   exact hL2 _ () h _ (ji 8 3 e e e)
  refine zaj (zX (eL2 _ _ (zI (zD (wsr (oM e (oA e (rnf ?_))))))))
  refine zA ?_
  cases h
  exact zh (.tmp e .nil) .nil ⟨e,e⟩
 refine zm (j:=13) h e (fun g11 h=>?_) (fun g11 h=>?_)
 ·exact oK 13 e e e g11 (za ty87 e) (oK 13 e e e g11 (zu e) (zJ h fun q12 h=>oK 13 e e e g11 (zda e e q12) (zb h fun y13 hy13 h=>zad e e (dj:=13) e g11 (zx (zjk hy13) hT (s2 e e) .nil (oV (zi e g11 e) (hJ10 _ () h _ (ji 5 18 e e e)))))))
 exact oP 13 e e g11 (oP 13 e e g11 (oP 13 e e g11 (oP 13 e e g11 (oV (zj e g11 e) (hJ10 _ () h _ (ji 5 18 e e e))))))


theorem zhq:∀ {a_x:GTyp} {a_a1:(List Tag)} {zdv:Nat} {t_a_a11:Tok} {r:(List Tag)},zdw a_x a_a1=some r→Ctr Tryz.prog 117 [isv (a_x),ptrv zdv (Fld.id (TList Tag))] [boxE zdv ((TList.mk t_a_a11 a_a1):(TList Tag)),tokE t_a_a11] (fun R H=>∃ u1:Tok,R=oneOf []∧H=[boxE zdv ((TList.mk u1 r)),tokE u1]):=by
 intro a_x a_a1 zdv t_a_a11 r h
 unfold zdw at h
 refine zq Tryz.func117 e fun w0 S0 hT=>wsr (oT (zai (y:=a_x) e hI (rnf (wsr (oV (zE e GTyp.f1 zfU e (z:=a_x.tags)) (oV (za ty78 e) (oV (zaq (l:=a_x.tags) e hI sl78) (oV (zbn e e) ?_))))))))
 refine rnf (zf h e (fun _ h=>?_) (fun _ h=>?_))
 ·refine z8 (.v 1 (.v 2 (.v 3 (.v 4 (.alt 0 (.t 5 (.t 6 (.t 7 .nil))) (.t 5 (.t 0 (.t 6 (.t 7 .nil))))))))) moOrd (by kernel_rfl) ?_
  refine zy e (zE e GTyp.f1 zfU e (z:=a_x.tags)) (zy e (za ty78 e) (zb h fun y2 hy2 h=>zy e (zam (l:=a_x.tags) e hI e sl78 hy2) (zy e (za ty31 e) (zas h fun q5 h=>zfr ?_ ?_))))
  ·refine zay e e (zK (R:=appv t_a_a11 (a_a1)) ty78 e .here isvT1 (zay e e (z7 (l:=([y2]:(List Tag))) el78 (.cons e hI .nil) e e (zay e e (zbv (l:=a_a1) (m:=([y2]:(List Tag))) zgK e hI e zM tH q5 fun t4=>zay e e (zp (y':=((TList.mk t4 (a_a1 ++ ([y2]:(List Tag)))):(TList Tag))) ty78 e e isvT2 tH e (zau (zaU .nil k2 ?_))))))))
   cases h
   exact ⟨t4,e,e⟩
  refine zay e e (z7 (l:=([y2]:(List Tag))) el78 (.cons e hI .nil) e e (zay e e (zK (R:=appv t_a_a11 (a_a1)) ty78 e .here isvT1 (zay e e (zbv (l:=a_a1) (m:=([y2]:(List Tag))) zgK e hI e zM tH q5 fun t7=>zay e e (zp (y':=((TList.mk t7 (a_a1 ++ ([y2]:(List Tag)))):(TList Tag))) ty78 e e isvT2 tH e (zau (zaU .nil k2 ?_))))))))
  cases h
  exact ⟨t7,e,e⟩
 refine zZ (zaU .nil k2 ?_)
 cases h
 exact ⟨t_a_a11,e,e⟩


def zea (f':GTys→Int→Int→(List Tag)→Option (GTys × Int × (List Tag))):Prop :=
 ∀ {a_t:GTys} {zfX:Int} {zbW:Int} {zf2:(List Tag)} {zgN:Nat} {zbT:Nat} {zdX:Nat} {t_a_do__01:Tok} {r:GTys × Int × (List Tag)},f' a_t zfX zbW zf2=some r→Ctr Tryz.prog 116 [ptrv zgN (Fld.id GTys),isv (zfX),ptrv zbT (Fld.id Int),clov 117 [ptrv zdX (Fld.id (TList Tag))]] [boxE zgN (a_t:GTys),boxE zbT (zbW:Int),boxE zdX ((TList.mk t_a_do__01 zf2):(TList Tag)),tokE t_a_do__01] (fun R H=>∃ u1:Tok,R=oneOf []∧H=[boxE zgN (r.1),boxE zbT (r.2.1),boxE zdX ((TList.mk u1 r.2.2)),tokE u1])
theorem zis {zdn:GTys→Int→Int→(List Tag)→Option (GTys × Int × (List Tag))} (zi8:zea zdn):∀ {a_t:GTys} {zfX:Int} {zbW:Int} {zf2:(List Tag)} {zgN:Nat} {zbT:Nat} {zdX:Nat} {t_a_do__01:Tok} {r:GTys × Int × (List Tag)},zd9 zdn a_t zfX zbW zf2=some r→Ctr Tryz.prog 116 [ptrv zgN (Fld.id GTys),isv (zfX),ptrv zbT (Fld.id Int),clov 117 [ptrv zdX (Fld.id (TList Tag))]] [boxE zgN (a_t:GTys),boxE zbT (zbW:Int),boxE zdX ((TList.mk t_a_do__01 zf2):(TList Tag)),tokE t_a_do__01] (fun R H=>∃ u1:Tok,R=oneOf []∧H=[boxE zgN (r.1),boxE zbT (r.2.1),boxE zdX ((TList.mk u1 r.2.2)),tokE u1]):=by
 intro a_t zfX zbW zf2 zgN zbT zdX t_a_do__01 r h
 unfold zd9 at h
 refine zq Tryz.func116 e fun w0 S0 hT=>zn (wsr (oM e (oV (zao e e) (oM e (zQ (jb 21) je .nil h 8 e (fun q2 g2 h=>?_) (fun J3 h hJ3=>?_))))))
 ·refine oM e (zQ (jb 27) je .nil h 5 e (fun q5 g5 h=>?_) (fun J6 h hJ6=>?_))
  ·refine rnf (zf h e (fun _ h=>?_) (fun _ h=>?_))
   ·refine zA (zo (zh .nil k4 ?_))
    cases h
    exact ⟨t_a_do__01,e,e⟩
   refine wkf (wsr (oM e (oV (zz e) (oT (zK (R:=isv (zbW)) ty3 e tH hI (zJ h fun q8 h=>oV (zda e e q8) (oV (zz e) (oT (zp (y':=((zbW - (1:Int)):Int)) ty3 e e hI tH e ?_)))))))))
   refine rnf (wsr (oM e (oV (zz e) (oV (zae e GTys.f0 zmR) (oT (zK (R:=isv (a_t.l)) ty24 e tH hI (oM e (zb h fun y9 hy9 h=>oV (zam (l:=a_t.l) e hI e sl24 hy9) ?_))))))))
   refine oV (za ty87 e) (oT (zac _ ze87 fun b10=>oT (zp (y':=(y9:GTyp)) ty87 e e hI .here e (zY (zaE 8 .here e) (rnf (wsr (oM e (oV (za ty87 e) (zb h fun y11 hy11 h=>?_)))))))))
   refine oT (zgF e (s1 e) (zhq hy11) hT (.cons tI (.cons tI .nil)) (fun R H' hR=>?_))
   obtain ⟨t12,rfl,rfl⟩:=hR
   refine rnf (zn (wsr (oV (zE e GTyp.f1 zfU e (z:=y9.tags)) (oV (za ty78 e) (oV (zaq (l:=y9.tags) e hI sl78) (oV (zbn e e) (rnf (zf h e (fun _ h=>?_) (fun _ h=>?_)))))))))
   ·refine zA (zo (zh .nil (.cons (.there tI) (.cons tI k2)) ?_))
    cases h
    exact ⟨t12,e,e⟩
   refine wkf (wsr (oV (zE e GTyp.f4 za2 e (z:=y9.fields)) (oV (za ty85 e) (oV (zaq (l:=y9.fields) e hI sl85) (oM e (rnf (zB (za4 (ι:=Int × (List Tag) × Int × GTys) (γ:=Tok) (fun q13 g13=>[(50,isv (q13.1))]) (fun q13 g13=>[boxE zdX ((TList.mk g13 q13.2.1):(TList Tag)),tokE g13,boxE zbT (q13.2.2.1:Int),boxE zgN (q13.2.2.2:GTys)]) h (t12) (zd (j:=50) e hI ze) k4 (fun L14 q13 g13 Q25 h hL14 eL14 rL14=>?_)))))))))
   refine wsr (oV (zao e e) (rnf (zn (zf h e (fun _ h=>?_) (fun _ h=>?_)))))
   ·refine wkf (zn (zB (wsr (zb h fun y20 hy20 h=>oV (zam (l:=y9.fields) e hI e sl85 hy20) (oV (za ty92 e) (oT (zac _ ze92 fun b21=>oT (zp (y':=(y20:GFld)) ty92 e e hI .here e ?_))))))))
    refine zY (zaE 10 .here e) (rnf (zr (oM e (oV (zE e GFld.f1 zdb e (z:=y20.ty)) (oV (za ty3 e) (oM e (oM e (zb h fun y22 hy22 h=>?_))))))))
    refine oT (zR (zi8 hy22) hT (s4 e e e e) (.cons (.there tI) (.cons tI k2)) (fun R H' hR=>?_))
    obtain ⟨t23,rfl,rfl⟩:=hR
    exact zG (zt (zD (zr (zJ h fun q24 h=>oV (zah e e q24) (oM e (zG (hL14 _ (t23) h _ (zg 14 e e (zd (j:=50) e hI ze) (.cons tI (.cons tI (.cons tH k1)))))))))))
   refine zaj (zX (eL14 _ _ (zI (zaU .nil (.cons (.there tI) (.cons tI k2)) ?_))))
   cases h
   exact ⟨g13,e,e⟩
  refine zm (j:=22) h e (fun g7 h=>?_) (fun g7 h=>?_)
  ·exact oP 22 e e g7 (oP 22 e e g7 (oP 22 e e g7 (oP 22 e e g7 (oV (zi e g7 e) (hJ6 _ () h _ (zg 5 e e (zd (j:=27) e hI ze) k4))))))
  exact oK 22 e e e g7 (zu e) (oK 22 e e e g7 (zz e) (zad e e (dj:=22) e g7 (zK (R:=isv (zbW)) ty3 e tH hI (oK 22 e e e g7 (zP e e) (oV (zj e g7 e) (hJ6 _ () h _ (zg 5 e e (zd (j:=27) e hI ze) k4)))))))
 refine zm (j:=13) h e (fun g4 h=>?_) (fun g4 h=>?_)
 ·exact oP 13 e e g4 (oP 13 e e g4 (oP 13 e e g4 (oP 13 e e g4 (oP 13 e e g4 (oP 13 e e g4 (oP 13 e e g4 (oV (zi e g4 e) (hJ3 _ () h _ (zg 8 e e (zd (j:=21) e hI ze) k4)))))))))
 exact oK 13 e e e g4 (zu e) (oK 13 e e e g4 (zu e) (oK 13 e e e g4 (zz e) (oK 13 e e e g4 (zae e GTys.f0 zmR) (zad e e (dj:=13) e g4 (zK (R:=isv (a_t.l)) ty24 e .here hI (oK 13 e e e g4 (zaq (l:=a_t.l) e hI sl24) (oK 13 e e e g4 (zck e e) (oV (zj e g4 e) (hJ3 _ () h _ (zg 8 e e (zd (j:=21) e hI ze) k4))))))))))

theorem zeJ:∀ n,zea (ze0 n)
 | 0=>fun h=>(by cases h)
 | n + 1=>zis (zeJ n)
theorem zi5 (n:Nat):zea (ze0 n):=(zeJ n)

theorem zih:∀ {a_t:GTys} {zfX:Int} {zgN:Nat} {r:(List Tag) × GTys},zeA a_t zfX=some r→Ctr Tryz.prog 78 [ptrv zgN (Fld.id GTys),isv (zfX)] [boxE zgN (a_t:GTys)] (fun R H=>R=oneOf [isv (r.1)]∧H=[boxE zgN (r.2)]):=by
 intro a_t zfX zgN r h
 unfold zeA at h
 refine zq Tryz.func78 e fun w0 S0 hT=>wsr (oA e (rnf (wsr (oT (zac _ zsq fun b1=>zY (zaQ) (rnf (wsr ?_)))))))
 refine oT (zac _ ze3 fun b3=>oT (zp (y':=((300:Int):Int)) ty3 e e hI .here e (rnf (wsr (oM e (oM e (oV (zhP (s1 e)) (zb h fun y4 hy4 h=>oT (zR (zi5 fuel hy4) hT (s4 e e e e) (.cons (.there tI) (.cons .here (.cons tH k1))) (fun R H' hR=>?_))))))))))
 obtain ⟨t5,rfl,rfl⟩:=hR
 refine rnf (wsr (oT (zK (R:=appv t5 (y4.2.2)) ty78 e tI isvT1 (oA e (rnf (zA ?_))))))
 cases h
 exact zh (.as e zM .nil) k1 ⟨e,e⟩


theorem zlq:∀ {a_t:GTab} {a_i:Int} {r:(List Tag)},zhY a_t a_i=some r→Ctr Tryz.prog 41 [isv (a_t),isv (a_i)] [] (fun R H=>R=oneOf [isv (r)]∧H=[]):=by
 intro a_t a_i r h
 unfold zhY at h
 refine zq Tryz.func41 e fun w0 S0 hT=>wsr (oT (zai (y:=a_t) e hI (oA e (rnf (wsr (oV (zE e GTab.f3 zca e (z:=a_t.types)) (oV (za ty24 e) (oV (zar (z:=(GTys.mk a_t.types)) e bu144 ze144 (.cons GTys.f0 zmR e hI .nil)) ?_))))))))
 refine oT (zlV (y:=(GTys.mk a_t.types)) e hI fun b1=>oA e (rnf (wsr (oM e (oM e (zb h fun y2 hy2 h=>oT (zx (zih hy2) hT (s2 e e) k1 (oA e ?_))))))))
 refine rnf (zA ?_)
 cases h
 exact zh (.tmp e .nil) .nil ⟨e,e⟩


theorem zff:∀ {a_s:(List Tag)} {a_v:Tag} {r:Int},zch a_s a_v=some r→Ctr Tryz.prog 180 [isv (a_s),isv (a_v)] [] (fun R H=>R=oneOf [isv (r)]∧H=[]):=by
 intro a_s a_v r h
 unfold zch at h
 refine zq Tryz.func180 e fun w0 S0 hT=>wsr (oT (zai (y:=a_v) e hI (oA e (rnf (zn (wsr (oM e (oV (zaq (l:=a_s) e hI sl78) ?_))))))))
 refine oM e (rnf (zB (za4 (ι:=Int) (γ:=Unit) (fun q1 g1=>[(8,isv (q1))]) (fun q1 g1=>[]) h () (zd (j:=8) e hI ze) .nil (fun L2 q1 g1 Q7 h hL2 eL2 rL2=>wsr (oV (zao e e) (rnf (zn (zf h e (fun _ h=>?_) (fun _ h=>?_)))))))))
 ·refine wkf (zn (zB (wsr (oM e (oA e (rnf (zn (z8 (.v 0 (.v 1 (.v 2 (.v 3 (.v 4 (.v 5 .nil)))))) moOrd (by kernel_rfl) ?_))))))))
  refine zy e (za ty31 e) (rvm e e (rvm e e (zb h fun y5 hy5 h=>zy e (zam (l:=a_s) e hI e sl78 hy5) (zy e (za ty31 e) (zy e (zcs eq31 e e) (zau (zD ?_)))))))
  refine zf h e (fun _ h=>?_) (fun _ h=>?_)
  ·refine wsr (oM e (oA e (rnf (zA (zw (zo (rL2 _ (zw ?_))))))))
   refine zo ?_
   cases h
   exact zh (.tmp e .nil) .nil ⟨e,e⟩
  exact zZ (zt (zD (zr (zJ h fun q6 h=>oV (zah e e q6) (oM e (zG (hL2 _ () h _ (ji 12 8 e e e))))))))
 refine zaj (zX (eL2 _ _ (zI (zD (wsr (oA e (rnf (zA ?_))))))))
 cases h
 exact zh (.tmp e .nil) .nil ⟨e,e⟩


theorem zex:∀ {a_s:(List Tag)} {a_v:Tag} {r:Bool},zbZ a_s a_v=some r→Ctr Tryz.prog 162 [isv (a_s),isv (a_v)] [] (fun R H=>R=oneOf [isv (r)]∧H=[]):=by
 intro a_s a_v r h
 unfold zbZ at h
 refine zq Tryz.func162 e fun w0 S0 hT=>wsr (oT (zai (y:=a_v) e hI (oA e (rnf (wsr (oM e (oV (za ty31 e) (zb h fun y1 hy1 h=>?_))))))))
 refine oT (zx (zff hy1) hT (s2 e e) .nil (oV (zck e e) (oA e (rnf (zA ?_)))))
 cases h
 exact zh (.tmp e .nil) .nil ⟨e,e⟩


theorem zgk:∀ {a_f:GFld} {a_a1:GChk} {a_a2:Tag} {zdv:Nat} {r:Bool × GChk},zcS a_f a_a1 a_a2=some r→Ctr Tryz.prog 161 [isv (a_f),immv (PtrB.mk zdv),immv (a_a2)] [boxE zdv (a_a1:GChk)] (fun R H=>R=oneOf [isv (r.1)]∧H=[boxE zdv (r.2)]):=by
 intro a_f a_a1 a_a2 zdv r h
 unfold zcS at h
 refine zq Tryz.func161 e fun w0 S0 hT=>wsr (oT (zai (y:=a_f) e hI (oA e (rnf (zn (z8 (.v 0 (.v 1 (.v 2 (.v 3 (.v 5 (.v 6 (.v 8 (.t 4 (.t 7 (.t 9 (.v 10 .nil))))))))))) moOrd (by kernel_rfl) ?_))))))
 refine zy e (zlw (α:=GChk) ty99 e) (zy e (zz e) (zy e (zae e GChk.f0 zeO) (zy e (zae e GTbd.f0 zeM) (zy e (zE e GFld.f1 zdb e (z:=a_f.ty)) (zy e (za ty3 e) (zy e (za ty31 e) (zay e e (zK (R:=isv (a_a1.tabled.t)) ty26 e .here hI (zb h fun y1 hy1 h=>?_)))))))))
 refine zay e e (zx (zlq hy1) hT (s2 e e) .nil (zb h fun y2 hy2 h=>zay e e (zx (zex hy2) hT (s2 e e) .nil (zy e (zaI e) (zau (zD (zA ?_)))))))
 cases h
 exact zh (.tmp e .nil) k1 ⟨e,e⟩


theorem zdE:∀ {a_s:(List GFld)} {zce:GChk} {zcL:Tag} {zbr:Nat} {r:Int × GChk},zbC a_s zce zcL=some r→Ctr Tryz.prog 179 [isv (a_s),clov 161 [immv (PtrB.mk zbr),immv (zcL)]] [boxE zbr (zce:GChk)] (fun R H=>R=oneOf [isv (r.1)]∧H=[boxE zbr (r.2)]):=by
 intro a_s zce zcL zbr r h
 unfold zbC at h
 refine zq Tryz.func179 e fun w0 S0 hT=>wsr (oA e (rnf (zn (wsr (oM e (oV (zaq (l:=a_s) e hI sl85) (oM e ?_)))))))
 refine rnf (zB (za4 (ι:=Int × GChk) (γ:=Unit) (fun q1 g1=>[(8,isv (q1.1))]) (fun q1 g1=>[boxE zbr (q1.2:GChk)]) h () (zd (j:=8) e hI ze) k1 (fun L2 q1 g1 Q9 h hL2 eL2 rL2=>wsr (oV (zao e e) (rnf (zn (zf h e (fun _ h=>?_) (fun _ h=>?_))))))))
 ·refine wkf (zn (zB (wsr (oM e (oA e (rnf (wsr (oM e ?_))))))))
  refine oM e (oM e (zb h fun y6 hy6 h=>oV (zam (l:=a_s) e hI e sl85 hy6) (oV (za ty92 e) (zb h fun y7 hy7 h=>oT (zgF e (s1 e) (zgk hy7) hT k1 (fun R H' hR=>?_))))))
  obtain ⟨rfl,rfl⟩:=hR
  refine rnf (zf h e (fun _ h=>?_) (fun _ h=>?_))
  ·refine wsr (oM e (oA e (rnf (zA (zw (zo (rL2 _ (zw ?_))))))))
   refine zo ?_
   cases h
   exact zh (.tmp e .nil) k1 ⟨e,e⟩
  exact zZ (zt (zD (zr (zJ h fun q8 h=>oV (zah e e q8) (oM e (zG (hL2 _ () h _ (jk 12 8 e e e))))))))
 refine zaj (zX (eL2 _ _ (zI (zD (wsr (oA e (rnf (zA ?_))))))))
 cases h
 exact zh (.tmp e .nil) k1 ⟨e,e⟩


theorem zdm:∀ {a_s:(List GFld)} {zce:GChk} {zcL:Tag} {zbr:Nat} {r:Bool × GChk},zbq a_s zce zcL=some r→Ctr Tryz.prog 160 [isv (a_s),clov 161 [immv (PtrB.mk zbr),immv (zcL)]] [boxE zbr (zce:GChk)] (fun R H=>R=oneOf [isv (r.1)]∧H=[boxE zbr (r.2)]):=by
 intro a_s zce zcL zbr r h
 unfold zbq at h
 refine zq Tryz.func160 e fun w0 S0 hT=>wsr (oA e (rnf (wsr (oM e (oM e (zb h fun y1 hy1 h=>oT (zx (zdE hy1) hT (s2 e e) k1 ?_)))))))
 refine oV (zck e e) (oA e (rnf (zA ?_)))
 cases h
 exact zh (.tmp e .nil) k1 ⟨e,e⟩


theorem zeH:∀ {a_c:GChk} {a_i:Int} {a_b:(List UInt8)} {za0:Nat} {r:Tag × Bool × GChk},zcG a_c a_i a_b=some r→Ctr Tryz.prog 119 [ptrv za0 (Fld.id GChk),isv (a_i),isv (a_b)] [boxE za0 (a_c:GChk)] (fun R H=>R=oneOf [isv (r.1),isv (r.2.1)]∧H=[boxE za0 (r.2.2)]):=by
 intro a_c a_i a_b za0 r h
 unfold zcG at h
 refine zq Tryz.func119 e fun w0 S0 hT=>wsr (oT (zai (y:=PtrB.mk za0) e zpm (oT (zac _ ze31 fun b1=>oA e (rnf (wsr (oM e (zb h fun y2 hy2 h=>?_))))))))
 refine oT (zx (zoy hy2) hT (s1 e) .nil (oM e (oV (zO e e) (oV (zO e e) (oV (zO e e) (oV (zO e e) (oV (zO e e) (oT (zac _ ze31 fun b3=>oT (zp (y':=(y2.1:Tag)) ty31 e e hI .here e ?_))))))))))
 refine zY (zaE 8 .here e) (oA e (oA e (oA e (oA e (rnf (zn (wsr (oM e ?_))))))))
 refine oV (zaV e e) (oM e (zQ (jb 31) je .nil h 5 e (fun q4 g4 h=>?_) (fun J5 h hJ5=>?_)))
 ·refine rnf (zf h e (fun _ h=>?_) (fun _ h=>?_))
  ·refine wsr (oV (zar (z:=(Tag.mk (0:Int) (0:Int))) e bu31 ze31 .nil) (oT (zp (y':=((Tag.mk (0:Int) (0:Int)):Tag)) ty31 e e hI .here e (oA e (rnf (zA (zo ?_)))))))
   cases h
   exact zh (.cell e .here ty31 (.tmp e .nil)) (.cons tH .nil) ⟨e,e⟩
  refine wkf (wsr (oV (zlw (α:=GChk) ty99 e) (oV (zz e) (oV (zae e GChk.f0 zeO) (oV (zae e GTbd.f0 zeM) (oV (zae e GTab.f3 zca) (oT (zK (R:=isv (a_c.tabled.t.types)) ty24 e tH hI (oM e ?_)))))))))
  refine zb h fun y7 hy7 h=>oV (zam (l:=a_c.tabled.t.types) e hI e sl24 hy7) (oV (za ty87 e) (oT (zac _ ze87 fun b8=>oT (zp (y':=(y7:GTyp)) ty87 e e hI .here e (zY (zaE 13 .here e) (oA e (rnf (zn ?_))))))))
  refine wsr (oV (zE e GTyp.f0 zbI e (z:=y7.kind)) (oV (za ty3 e) (oV (zP e e) (rnf (zdF (ι:=Int) (γ:=Unit) (fun q9 g9=>[(14,isv (q9))]) (fun q9 g9=>[]) .nil h (fun q9 g9 h=>?_) (fun J10 h hJ10=>?_))))))
  ·refine wsr (oV (zE e GTyp.f4 za2 e (z:=y7.fields)) (oV (za ty85 e) (oM e (zap h fun q12 h=>oV (zfk (l:=y7.fields) e hI sl85 (.inr ⟨_,e,e⟩) (.inl ⟨e,e⟩) q12.1 q12.2.1 q12.2.2) (oV (zhP (s2 e e)) (zb h fun y13 hy13 h=>oT (zx (zdm hy13) hT (s2 e e) (.cons tH .nil) ?_)))))))
   refine oA e (rnf (wsr (oV (za ty31 e) (oM e (oV (zaD e) (oT (zp (y':=(y2.1:Tag)) ty31 e e hI tH e (oA e (rnf ?_)))))))))
   refine zA ?_
   cases h
   exact zh (.cell e .here ty31 (.tmp e .nil)) (.cons tH .nil) ⟨e,e⟩
  refine zf h e (fun _ h=>?_) (fun _ h=>?_)
  ·exact zr (oV (za ty87 e) (zb h fun y11 hy11 h=>oT (zx (zm6 hy11) hT (s1 e) .nil (oA e (zG (hJ10 _ () h _ (zg 3 e e (zd (j:=14) e hI ze) k2)))))))
  exact zZ (hJ10 _ () h _ (zg 0 e e (zd (j:=14) e hI ze) k2))
 refine zm (j:=26) h e (fun g6 h=>?_) (fun g6 h=>?_)
 ·exact oP 26 e e g6 (oP 26 e e g6 (oP 26 e e g6 (oP 26 e e g6 (oV (zi e g6 e) (hJ5 _ () h _ (zg 5 e e (zd (j:=31) e hI ze) k2))))))
 exact oK 26 e e e g6 (zu e) (oK 26 e e e g6 (zu e) (oK 26 e e e g6 (zaq (l:=a_b) e hI sl42) (oK 26 e e e g6 (zaV e e) (oV (zj e g6 e) (hJ5 _ () h _ (zg 5 e e (zd (j:=31) e hI ze) k2))))))


theorem zk2:∀ {a_y:GItem} {a_a1:Int} {r:Bool},zgX a_y a_a1=some r→Ctr Tryz.prog 122 [isv (a_y),immv (a_a1)] [] (fun R H=>R=oneOf [isv (r)]∧H=[]):=by
 intro a_y a_a1 r h
 unfold zgX at h
 refine zq Tryz.func122 e fun w0 S0 hT=>wsr (oT (zai (y:=a_y) e hI (oA e (rnf (wsr (oV (zE e GItem.f1 zec e (z:=a_y.number)) (oV (za ty2 e) (oV (za ty2 e) ?_))))))))
 refine oV (zP e e) (oA e (rnf (zA ?_)))
 cases h
 exact zh (.tmp e .nil) .nil ⟨e,e⟩


theorem zd0:∀ {a_s:(List GItem)} {zce:Int} {r:Int},zba a_s zce=some r→Ctr Tryz.prog 121 [isv (a_s),clov 122 [immv (zce)]] [] (fun R H=>R=oneOf [isv (r)]∧H=[]):=by
 intro a_s zce r h
 unfold zba at h
 refine zq Tryz.func121 e fun w0 S0 hT=>wsr (oA e (rnf (zn (wsr (oM e (oV (zaq (l:=a_s) e hI sl84) (oM e ?_)))))))
 refine rnf (zB (za4 (ι:=Int) (γ:=Unit) (fun q1 g1=>[(8,isv (q1))]) (fun q1 g1=>[]) h () (zd (j:=8) e hI ze) .nil (fun L2 q1 g1 Q9 h hL2 eL2 rL2=>wsr (oV (zao e e) (rnf (zn (zf h e (fun _ h=>?_) (fun _ h=>?_))))))))
 ·refine wkf (zn (zB (wsr (oM e (oA e (rnf (wsr (oM e ?_))))))))
  refine oM e (oM e (zb h fun y6 hy6 h=>oV (zam (l:=a_s) e hI e sl84 hy6) (oV (za ty97 e) (zb h fun y7 hy7 h=>oT (zgF e (s1 e) (zk2 hy7) hT .nil (fun R H' hR=>?_))))))
  obtain ⟨rfl,rfl⟩:=hR
  refine rnf (zf h e (fun _ h=>?_) (fun _ h=>?_))
  ·refine wsr (oM e (oA e (rnf (zA (zw (zo (rL2 _ (zw ?_))))))))
   refine zo ?_
   cases h
   exact zh (.tmp e .nil) .nil ⟨e,e⟩
  exact zZ (zt (zD (zr (zJ h fun q8 h=>oV (zah e e q8) (oM e (zG (hL2 _ () h _ (ji 12 8 e e e))))))))
 refine zaj (zX (eL2 _ _ (zI (zD (wsr (oA e (rnf (zA ?_))))))))
 cases h
 exact zh (.tmp e .nil) .nil ⟨e,e⟩


theorem zkh:∀ {a_x:GTyp} {a_n_:Int} {r:Int},zfi a_x a_n_=some r→Ctr Tryz.prog 85 [isv (a_x),isv (a_n_)] [] (fun R H=>R=oneOf [isv (r)]∧H=[]):=by
 intro a_x a_n_ r h
 unfold zfi at h
 refine zq Tryz.func85 e fun w0 S0 hT=>wsr (oT (zai (y:=a_x) e hI (oT (zai (y:=a_n_) e hI (oA e (rnf (wsr (oV (zE e GTyp.f3 zh5 e (z:=a_x.items)) (oV (za ty84 e) ?_)))))))))
 refine oV (zhP (s1 e)) (zb h fun y1 hy1 h=>oT (zx (zd0 hy1) hT (s2 e e) .nil (oA e (rnf (zA ?_)))))
 cases h
 exact zh (.tmp e .nil) .nil ⟨e,e⟩


theorem zkk:∀ {a_b:(List UInt8)} {r:Bool},zhW a_b=some r→Ctr Tryz.prog 120 [isv (a_b)] [] (fun R H=>R=oneOf [isv (r)]∧H=[]):=by
 intro a_b r h
 unfold zhW at h
 refine zq Tryz.func120 e fun w0 S0 hT=>wsr (oA e (rnf (wsr (oM e (oV (zaq (l:=a_b) e hI sl42) (oV (zbn e e) (oM e ?_)))))))
 refine zQ (jb 10) je .nil h 4 e (fun q1 g1 h=>?_) (fun J2 h hJ2=>?_)
 ·refine oA e (rnf (zA ?_))
  cases h
  exact zh (.tmp e .nil) .nil ⟨e,e⟩
 refine zm (j:=6) h e (fun g3 h=>?_) (fun g3 h=>?_)
 ·exact oK 6 e e e g3 (zu e) (oK 6 e e e g3 (zaq (l:=a_b) e hI sl42) (oK 6 e e e g3 (ziw e e) (oV (zi e g3 e) (hJ2 _ () h _ (ji 4 10 e e e)))))
 exact oP 6 e e g3 (oP 6 e e g3 (oP 6 e e g3 (oV (zj e g3 e) (hJ2 _ () h _ (ji 4 10 e e e)))))


theorem zg8:∀ {a_c:GChk} {a_i:Int} {a_v:Val} {za0:Nat} {r:Bool × GChk},zdx a_c a_i a_v=some r→Ctr Tryz.prog 82 [ptrv za0 (Fld.id GChk),isv (a_i),isv (a_v)] [boxE za0 (a_c:GChk)] (fun R H=>R=oneOf [isv (r.1)]∧H=[boxE za0 (r.2)]):=by
 intro a_c a_i a_v za0 r h
 unfold zdx at h
 refine zq Tryz.func82 e fun w0 S0 hT=>wsr (oT (zai (y:=a_v) e hI (oA e (rnf (wsr (oM e (oV (zz e) (oV (zae e GChk.f0 zeO) ?_))))))))
 refine oV (zae e GTbd.f0 zeM) (oV (zae e GTab.f3 zca) (oT (zK (R:=isv (a_c.tabled.t.types)) ty24 e .here hI (oM e (zb h fun y1 hy1 h=>oV (zam (l:=a_c.tabled.t.types) e hI e sl24 hy1) (oV (za ty87 e) (oT (zac _ ze87 fun b2=>oT (zp (y':=(y1:GTyp)) ty87 e e hI .here e ?_)))))))))
 refine zY (zaE 7 .here e) (rnf (wsr (oV (zE e GTyp.f0 zbI e (z:=y1.kind)) (oV (za ty3 e) (oV (zP e e) (oA e (rnf (zn ?_))))))))
 refine wsr (oV (zE e GTyp.f6 ziu e (z:=y1.more)) (oV (za ty4 e) (oV (zaD e) (oM e (zQ (jb 35) je .nil h 8 e (fun q3 g3 h=>?_) (fun J4 h hJ4=>?_))))))
 ·refine oM e (zQ (jb 45) je .nil h 9 e (fun q9 g9 h=>?_) (fun J10 h hJ10=>?_))
  ·refine rnf (zf h e (fun _ h=>?_) (fun _ h=>?_))
   ·refine wsr (oA e (rnf (zA (zo ?_))))
    cases h
    exact zh (.tmp e .nil) k1 ⟨e,e⟩
   refine wkf (zn (wsr (oM e (oV (zz e) (oV (zae e GChk.f1 zr6) (oT (zK (R:=isv (a_c.bare)) ty4 e .here hI (rnf (zf h e (fun _ h=>?_) (fun _ h=>?_))))))))))
   ·refine wsr (oV (zE e Val.f1 zbk e (z:=a_v.n)) (oV (za ty2 e) (oV (zP e e) (oM e (zQ (jb 58) je .nil h 5 e (fun q13 g13 h=>?_) (fun J14 h hJ14=>?_))))))
    ·refine oM e (zQ (jb 63) je .nil h 4 e (fun q16 g16 h=>?_) (fun J17 h hJ17=>?_))
     ·refine oA e (rnf (zA (zo ?_)))
      cases h
      exact zh (.tmp e .nil) k1 ⟨e,e⟩
     refine zm (j:=59) h e (fun g18 h=>?_) (fun g18 h=>?_)
     ·exact oK 59 e e e g18 (zE e Val.f4 zcT e (z:=a_v.rule)) (oK 59 e e e g18 (za ty3 e) (oK 59 e e e g18 (zP e e) (oV (zi e g18 e) (hJ17 _ () h _ (jk 4 63 e e e)))))
     exact oP 59 e e g18 (oP 59 e e g18 (oP 59 e e g18 (oV (zj e g18 e) (hJ17 _ () h _ (jk 4 63 e e e)))))
    refine zm (j:=53) h e (fun g15 h=>?_) (fun g15 h=>?_)
    ·exact oK 53 e e e g15 (zE e Val.f2 zbK e (z:=a_v.b)) (oK 53 e e e g15 (za ty42 e) (oK 53 e e e g15 (zaq (l:=a_v.b) e hI sl42) (oK 53 e e e g15 (zP e e) (oV (zi e g15 e) (hJ14 _ () h _ (jk 5 58 e e e))))))
    exact oP 53 e e g15 (oP 53 e e g15 (oP 53 e e g15 (oP 53 e e g15 (oV (zj e g15 e) (hJ14 _ () h _ (jk 5 58 e e e))))))
   refine wkf (wsr (oV (zE e GTyp.f3 zh5 e (z:=y1.items)) (oV (za ty84 e) (oV (zaq (l:=y1.items) e hI sl84) (oV (zE e GTyp.f4 za2 e (z:=y1.fields)) (oV (za ty85 e) (oV (zaq (l:=y1.fields) e hI sl85) (zJ h fun q19 h=>?_))))))))
   refine oV (zah e e q19) (oV (zE e GTyp.f5 zfR e (z:=y1.root)) (oV (za ty3 e) (zJ h fun q20 h=>oV (zda e e q20) (oA e (rnf (zn (zB ?_)))))))
   refine wsr (oV (zE e Val.f4 zcT e (z:=a_v.rule)) (oV (za ty3 e) (oV (zP e e) (oM e (zQ (jb 80) je .nil h 2 e (fun q21 g21 h=>?_) (fun J22 h hJ22=>?_))))))
   ·refine oA e (rnf (zf h e (fun _ h=>?_) (fun _ h=>?_)))
    ·refine wsr (oM e (oM e (oV (zE e Val.f2 zbK e (z:=a_v.b)) (oV (za ty42 e) (zb h fun y24 hy24 h=>oT (zx (zeH hy24) hT (s3 e e e) k1 (oM e (oV (zO e e) ?_))))))))
     refine oV (zO e e) (oT (zac _ ze31 fun b25=>oT (zp (y':=(y24.1:Tag)) ty31 e e hI .here e (zY (zaE 10 .here e) (oA e (rnf (wsr (oM e (oM e ?_)))))))))
     refine zQ (jb 94) je .nil h 4 e (fun q26 g26 h=>?_) (fun J27 h hJ27=>?_)
     ·refine oA e (rnf (zA (zw (zo ?_))))
      cases h
      exact zh (.tmp e .nil) k1 ⟨e,e⟩
     refine zm (j:=90) h e (fun g28 h=>?_) (fun g28 h=>?_)
     ·exact oK 90 e e e g28 (zE e Val.f1 zbk e (z:=a_v.n)) (oK 90 e e e g28 (za ty2 e) (oK 90 e e e g28 (zP e e) (oV (zi e g28 e) (hJ27 _ () h _ (jk 4 94 e e e)))))
     exact oP 90 e e g28 (oP 90 e e g28 (oP 90 e e g28 (oV (zj e g28 e) (hJ27 _ () h _ (jk 4 94 e e e)))))
    refine wsr (oV (zE e Val.f4 zcT e (z:=a_v.rule)) (oV (za ty3 e) (oV (zP e e) (oA e (rnf (zf h e (fun _ h=>?_) (fun _ h=>?_)))))))
    ·refine wsr (oV (zE e Val.f2 zbK e (z:=a_v.b)) (oV (za ty42 e) (oV (zaq (l:=a_v.b) e hI sl42) (oV (zP e e) (oM e (zQ (jb 109) je .nil h 6 e (fun q29 g29 h=>?_) (fun J30 h hJ30=>?_)))))))
     ·refine oA e (rnf (zA (zw (zo ?_))))
      cases h
      exact zh (.tmp e .nil) k1 ⟨e,e⟩
     refine zm (j:=103) h e (fun g31 h=>?_) (fun g31 h=>?_)
     ·exact oK 103 e e e g31 (za ty87 e) (oK 103 e e e g31 (zE e Val.f1 zbk e (z:=a_v.n)) (oK 103 e e e g31 (za ty2 e) (zb h fun y32 hy32 h=>zad e e (dj:=103) e g31 (zx (zkh hy32) hT (s2 e e) .nil (oK 103 e e e g31 (zao e e) (oV (zi e g31 e) (hJ30 _ () h _ (jk 6 109 e e e))))))))
     exact oP 103 e e g31 (oP 103 e e g31 (oP 103 e e g31 (oP 103 e e g31 (oP 103 e e g31 (oV (zj e g31 e) (hJ30 _ () h _ (jk 6 109 e e e)))))))
    refine wsr (oV (zE e Val.f4 zcT e (z:=a_v.rule)) (oV (za ty3 e) (oV (zaV e e) (oM e (zQ (jb 119) je .nil h 5 e (fun q33 g33 h=>?_) (fun J34 h hJ34=>?_))))))
    ·refine oM e (zQ (jb 124) je .nil h 4 e (fun q36 g36 h=>?_) (fun J37 h hJ37=>?_))
     ·refine oA e (rnf (zf h e (fun _ h=>?_) (fun _ h=>?_)))
      ·refine wsr (oA e (rnf (zA (zw (zo ?_)))))
       cases h
       exact zh (.tmp e .nil) k1 ⟨e,e⟩
      refine wsr (oM e (oA e (rnf (zf h e (fun _ h=>?_) (fun _ h=>?_)))))
      ·refine wsr (oV (zE e Val.f2 zbK e (z:=a_v.b)) (oV (za ty42 e) (zb h fun y39 hy39 h=>oT (zx (zkk hy39) hT (s1 e) .nil (oA e (rnf (zA (zw ?_))))))))
       refine zo ?_
       cases h
       exact zh (.tmp e .nil) k1 ⟨e,e⟩
      refine zZ (zt (zD (wsr (oV (zE e Val.f2 zbK e (z:=a_v.b)) (oV (za ty42 e) (oV (zaq (l:=a_v.b) e hI sl42) (oV (zP e e) (oA e ?_))))))))
      refine rnf (zA ?_)
      cases h
      exact zh (.tmp e .nil) k1 ⟨e,e⟩
     refine zm (j:=120) h e (fun g38 h=>?_) (fun g38 h=>?_)
     ·exact oP 120 e e g38 (oP 120 e e g38 (oP 120 e e g38 (oV (zi e g38 e) (hJ37 _ () h _ (jk 4 124 e e e)))))
     exact oK 120 e e e g38 (zE e Val.f1 zbk e (z:=a_v.n)) (oK 120 e e e g38 (za ty2 e) (oK 120 e e e g38 (zck e e) (oV (zj e g38 e) (hJ37 _ () h _ (jk 4 124 e e e)))))
    refine zm (j:=114) h e (fun g35 h=>?_) (fun g35 h=>?_)
    ·exact oP 114 e e g35 (oP 114 e e g35 (oP 114 e e g35 (oP 114 e e g35 (oV (zi e g35 e) (hJ34 _ () h _ (jk 5 119 e e e))))))
    exact oK 114 e e e g35 (zE e Val.f1 zbk e (z:=a_v.n)) (oK 114 e e e g35 (za ty2 e) (oK 114 e e e g35 (zu e) (oK 114 e e e g35 (zao e e) (oV (zj e g35 e) (hJ34 _ () h _ (jk 5 119 e e e))))))
   refine zm (j:=78) h e (fun g23 h=>?_) (fun g23 h=>?_)
   ·exact oK 78 e e e g23 (zu e) (oV (zi e g23 e) (hJ22 _ () h _ (jk 2 80 e e e)))
   exact oP 78 e e g23 (oV (zj e g23 e) (hJ22 _ () h _ (jk 2 80 e e e)))
  refine zm (j:=36) h e (fun g11 h=>?_) (fun g11 h=>?_)
  ·refine oP 36 e e g11 (oP 36 e e g11 (oP 36 e e g11 (oP 36 e e g11 (oP 36 e e g11 (oP 36 e e g11 (oP 36 e e g11 (oP 36 e e g11 (oV (zi e g11 e) ?_))))))))
   exact hJ10 _ () h _ (jk 9 45 e e e)
  refine oK 36 e e e g11 (zE e Val.f3 zbl e (z:=a_v.l)) (oK 36 e e e g11 (za ty43 e) (oK 36 e e e g11 (zaq (l:=a_v.l) e hI sl43) (oK 36 e e e g11 (zE e Val.f5 zdy e (z:=a_v.more)) (oK 36 e e e g11 (za ty44 e) (oK 36 e e e g11 (zaq (l:=a_v.more) e hI sl44) (zJ h fun q12 h=>oK 36 e e e g11 (zah e e q12) (oK 36 e e e g11 (zbn e e) ?_)))))))
  exact oV (zj e g11 e) (hJ10 _ () h _ (jk 9 45 e e e))
 refine zm (j:=27) h e (fun g5 h=>?_) (fun g5 h=>?_)
 ·exact oP 27 e e g5 (oP 27 e e g5 (oP 27 e e g5 (zk e (dj:=30) e (zk e (dj:=30) e (zk e (dj:=30) e (oP 27 e e g5 (oV (zi e g5 e) (hJ4 _ () h _ (jk 8 35 e e e)))))))))
 refine oK 27 e e e g5 (zu e) (oK 27 e e e g5 (zaD e) (oK 27 e e e g5 (zu e) (zQ (jb 34) je .nil h 4 e (fun q6 g6 h=>?_) (fun J7 h hJ7=>?_))))
 ·exact oV (zj e g5 e) (hJ4 _ () h _ (jk 5 35 e e e))
 refine zm (j:=30) h e (fun g8 h=>?_) (fun g8 h=>?_)
 ·exact oK 30 e e e g8 (zE e GTyp.f0 zbI e (z:=y1.kind)) (oK 30 e e e g8 (za ty3 e) (oK 30 e e e g8 (zaV e e) (oK 27 e e e g5 (zi e g8 e) (hJ7 _ () h _ (jk 4 34 e e e)))))
 exact oP 30 e e g8 (oP 30 e e g8 (oP 30 e e g8 (oK 27 e e e g5 (zj e g8 e) (hJ7 _ () h _ (jk 4 34 e e e)))))


theorem zb9:∀ {a_v:Val} {zfT:Int} {r:Bool},zbN a_v zfT=some r→Ctr Tryz.prog 83 [isv (a_v),isv (zfT)] [] (fun R H=>R=oneOf [isv (r)]∧H=[]):=by
 intro a_v zfT r h
 unfold zbN at h
 refine zq Tryz.func83 e fun w0 S0 hT=>wsr (oT (zai (y:=a_v) e hI (oA e (rnf (wsr (oM e (zap h fun q1 h=>oV (zm1 e e q1.1 q1.2) ?_)))))))
 refine oV (zaV e e) (oM e (zQ (jb 12) je .nil h 4 e (fun q2 g2 h=>?_) (fun J3 h hJ3=>?_)))
 ·refine oM e (zQ (jb 23) je .nil h 10 e (fun q5 g5 h=>?_) (fun J6 h hJ6=>?_))
  ·refine oM e (zQ (jb 34) je .nil h 10 e (fun q12 g12 h=>?_) (fun J13 h hJ13=>?_))
   ·refine oM e (zQ (jb 50) je .nil h 15 e (fun q19 g19 h=>?_) (fun J20 h hJ20=>?_))
    ·refine oA e (rnf (zA ?_))
     cases h
     exact zh (.tmp e .nil) .nil ⟨e,e⟩
    refine zm (j:=35) h e (fun g21 h=>?_) (fun g21 h=>?_)
    ·refine oK 35 e e e g21 (zu e) (zap h fun q22 h=>oK 35 e e e g21 (zm1 e e q22.1 q22.2) (oK 35 e e e g21 (zaV e e) (oK 35 e e e g21 (zu e) (zQ (jb 49) je .nil h 10 e (fun q23 g23 h=>?_) (fun J24 h hJ24=>?_)))))
     ·exact oV (zi e g21 e) (hJ20 _ () h _ (ji 6 50 e e e))
     refine zm (j:=39) h e (fun g25 h=>?_) (fun g25 h=>?_)
     ·refine oP 39 e e g25 (oP 39 e e g25 (oP 39 e e g25 (oP 39 e e g25 (zk e (dj:=43) e (zk e (dj:=43) e (zk e (dj:=43) e (zk e (dj:=43) e (oP 39 e e g25 ?_))))))))
      exact oK 35 e e e g21 (zi e g25 e) (hJ24 _ () h _ (ji 10 49 e e e))
     refine oK 39 e e e g25 (zE e Val.f4 zcT e (z:=a_v.rule)) (oK 39 e e e g25 (za ty3 e) (oK 39 e e e g25 (zP e e) (oK 39 e e e g25 (zu e) (zQ (jb 48) je .nil h 5 e (fun q26 g26 h=>?_) (fun J27 h hJ27=>?_)))))
     ·exact oK 35 e e e g21 (zj e g25 e) (hJ24 _ () h _ (ji 6 49 e e e))
     refine zm (j:=43) h e (fun g28 h=>?_) (fun g28 h=>?_)
     ·exact oK 43 e e e g28 (zE e Val.f5 zdy e (z:=a_v.more)) (oK 43 e e e g28 (za ty44 e) (oK 43 e e e g28 (zaq (l:=a_v.more) e hI sl44) (oK 43 e e e g28 (zP e e) (oK 39 e e e g25 (zi e g28 e) (hJ27 _ () h _ (ji 5 48 e e e))))))
     exact oP 43 e e g28 (oP 43 e e g28 (oP 43 e e g28 (oP 43 e e g28 (oK 39 e e e g25 (zj e g28 e) (hJ27 _ () h _ (ji 5 48 e e e))))))
    refine oP 35 e e g21 (oP 35 e e g21 (oP 35 e e g21 (oP 35 e e g21 (zk e (dj:=39) e (zk e (dj:=39) e (zk e (dj:=39) e (zk e (dj:=39) e (zk e (dj:=43) e ?_))))))))
    exact zk e (dj:=43) e (zk e (dj:=43) e (zk e (dj:=43) e (zk e (dj:=39) e (oP 35 e e g21 (oV (zj e g21 e) (hJ20 _ () h _ (ji 15 50 e e e)))))))
   refine zm (j:=24) h e (fun g14 h=>?_) (fun g14 h=>?_)
   ·refine oK 24 e e e g14 (zu e) (zap h fun q15 h=>oK 24 e e e g14 (zm1 e e q15.1 q15.2) (oK 24 e e e g14 (zaV e e) (oK 24 e e e g14 (zu e) (zQ (jb 33) je .nil h 5 e (fun q16 g16 h=>?_) (fun J17 h hJ17=>?_)))))
    ·exact oV (zi e g14 e) (hJ13 _ () h _ (ji 6 34 e e e))
    refine zm (j:=28) h e (fun g18 h=>?_) (fun g18 h=>?_)
    ·exact oP 28 e e g18 (oP 28 e e g18 (oP 28 e e g18 (oP 28 e e g18 (oK 24 e e e g14 (zi e g18 e) (hJ17 _ () h _ (ji 5 33 e e e))))))
    exact oK 28 e e e g18 (zE e Val.f3 zbl e (z:=a_v.l)) (oK 28 e e e g18 (za ty43 e) (oK 28 e e e g18 (zaq (l:=a_v.l) e hI sl43) (oK 28 e e e g18 (zP e e) (oK 24 e e e g14 (zj e g18 e) (hJ17 _ () h _ (ji 5 33 e e e))))))
   refine oP 24 e e g14 (oP 24 e e g14 (oP 24 e e g14 (oP 24 e e g14 (zk e (dj:=28) e (zk e (dj:=28) e (zk e (dj:=28) e (zk e (dj:=28) e (oP 24 e e g14 ?_))))))))
   exact oV (zj e g14 e) (hJ13 _ () h _ (ji 10 34 e e e))
  refine zm (j:=13) h e (fun g7 h=>?_) (fun g7 h=>?_)
  ·refine oK 13 e e e g7 (zu e) (zap h fun q8 h=>oK 13 e e e g7 (zm1 e e q8.1 q8.2) (oK 13 e e e g7 (zaV e e) (oK 13 e e e g7 (zu e) (zQ (jb 22) je .nil h 5 e (fun q9 g9 h=>?_) (fun J10 h hJ10=>?_)))))
   ·exact oV (zi e g7 e) (hJ6 _ () h _ (ji 6 23 e e e))
   refine zm (j:=17) h e (fun g11 h=>?_) (fun g11 h=>?_)
   ·exact oP 17 e e g11 (oP 17 e e g11 (oP 17 e e g11 (oP 17 e e g11 (oK 13 e e e g7 (zi e g11 e) (hJ10 _ () h _ (ji 5 22 e e e))))))
   exact oK 17 e e e g11 (zE e Val.f2 zbK e (z:=a_v.b)) (oK 17 e e e g11 (za ty42 e) (oK 17 e e e g11 (zaq (l:=a_v.b) e hI sl42) (oK 17 e e e g11 (zP e e) (oK 13 e e e g7 (zj e g11 e) (hJ10 _ () h _ (ji 5 22 e e e))))))
  refine oP 13 e e g7 (oP 13 e e g7 (oP 13 e e g7 (oP 13 e e g7 (zk e (dj:=17) e (zk e (dj:=17) e (zk e (dj:=17) e (zk e (dj:=17) e (oP 13 e e g7 ?_))))))))
  exact oV (zj e g7 e) (hJ6 _ () h _ (ji 10 23 e e e))
 refine zm (j:=8) h e (fun g4 h=>?_) (fun g4 h=>?_)
 ·exact oP 8 e e g4 (oP 8 e e g4 (oP 8 e e g4 (oV (zi e g4 e) (hJ3 _ () h _ (ji 4 12 e e e)))))
 exact oK 8 e e e g4 (zE e Val.f1 zbk e (z:=a_v.n)) (oK 8 e e e g4 (za ty2 e) (oK 8 e e e g4 (zP e e) (oV (zj e g4 e) (hJ3 _ () h _ (ji 4 12 e e e)))))


theorem zfV:∀ {a_c:GCon} {a_v:Int} {r:Bool},zcV a_c a_v=some r→Ctr Tryz.prog 84 [isv (a_c),isv (a_v)] [] (fun R H=>R=oneOf [isv (r)]∧H=[]):=by
 intro a_c a_v r h
 unfold zcV at h
 refine zq Tryz.func84 e fun w0 S0 hT=>wsr (oT (zai (y:=a_c) e hI (oA e (rnf (wsr (oV (zE e GCon.f0 znk e (z:=a_c.has)) (oV (za ty4 e) (oV (zaD e) ?_))))))))
 refine oM e (zQ (jb 29) je .nil h 21 e (fun q1 g1 h=>?_) (fun J2 h hJ2=>?_))
 ·refine oA e (rnf (zA ?_))
  cases h
  exact zh (.tmp e .nil) .nil ⟨e,e⟩
 refine zm (j:=8) h e (fun g3 h=>?_) (fun g3 h=>?_)
 ·refine oP 8 e e g3 (oP 8 e e g3 (oP 8 e e g3 (oP 8 e e g3 (zk e (dj:=12) e (zk e (dj:=12) e (zk e (dj:=12) e (zk e (dj:=12) e (oP 8 e e g3 ?_))))))))
  refine oP 8 e e g3 (zk e (dj:=18) e (zk e (dj:=18) e (zk e (dj:=18) e (zk e (dj:=18) e (zk e (dj:=22) e (zk e (dj:=22) e (zk e (dj:=22) e (zk e (dj:=22) e ?_))))))))
  exact zk e (dj:=18) e (oP 8 e e g3 (oV (zi e g3 e) (hJ2 _ () h _ (ji 21 29 e e e))))
 refine oK 8 e e e g3 (zE e GCon.f1 zks e (z:=a_c.hasLow)) (oK 8 e e e g3 (za ty4 e) (oK 8 e e e g3 (zaD e) (oK 8 e e e g3 (zu e) (zQ (jb 17) je .nil h 5 e (fun q4 g4 h=>?_) (fun J5 h hJ5=>?_)))))
 ·refine oK 8 e e e g3 (zu e) (zQ (jb 28) je .nil h 10 e (fun q7 g7 h=>?_) (fun J8 h hJ8=>?_))
  ·exact oV (zj e g3 e) (hJ2 _ () h _ (ji 8 29 e e e))
  refine zm (j:=18) h e (fun g9 h=>?_) (fun g9 h=>?_)
  ·refine oK 18 e e e g9 (zE e GCon.f2 zkH e (z:=a_c.hasHigh)) (oK 18 e e e g9 (za ty4 e) (oK 18 e e e g9 (zaD e) (oK 18 e e e g9 (zu e) (zQ (jb 27) je .nil h 5 e (fun q10 g10 h=>?_) (fun J11 h hJ11=>?_)))))
   ·exact oK 8 e e e g3 (zi e g9 e) (hJ8 _ () h _ (ji 6 28 e e e))
   refine zm (j:=22) h e (fun g12 h=>?_) (fun g12 h=>?_)
   ·exact oP 22 e e g12 (oP 22 e e g12 (oP 22 e e g12 (oP 22 e e g12 (oK 18 e e e g9 (zi e g12 e) (hJ11 _ () h _ (ji 5 27 e e e))))))
   exact oK 22 e e e g12 (zu e) (oK 22 e e e g12 (zE e GCon.f5 zjF e (z:=a_c.high)) (oK 22 e e e g12 (za ty2 e) (oK 22 e e e g12 (ziw e e) (oK 18 e e e g9 (zj e g12 e) (hJ11 _ () h _ (ji 5 27 e e e))))))
  refine oP 18 e e g9 (oP 18 e e g9 (oP 18 e e g9 (oP 18 e e g9 (zk e (dj:=22) e (zk e (dj:=22) e (zk e (dj:=22) e (zk e (dj:=22) e (oP 18 e e g9 ?_))))))))
  exact oK 8 e e e g3 (zj e g9 e) (hJ8 _ () h _ (ji 10 28 e e e))
 refine zm (j:=12) h e (fun g6 h=>?_) (fun g6 h=>?_)
 ·exact oP 12 e e g6 (oP 12 e e g6 (oP 12 e e g6 (oP 12 e e g6 (oK 8 e e e g3 (zi e g6 e) (hJ5 _ () h _ (ji 5 17 e e e))))))
 exact oK 12 e e e g6 (zu e) (oK 12 e e e g6 (zE e GCon.f4 zjK e (z:=a_c.low)) (oK 12 e e e g6 (za ty2 e) (oK 12 e e e g6 (zck e e) (oK 8 e e e g3 (zj e g6 e) (hJ5 _ () h _ (ji 5 17 e e e))))))


theorem zhA:∀ {a_c:GChk} {a_x:GTyp} {a_v:Val} {za0:Nat} {r:Bool × GChk},zcR a_c a_x a_v=some r→Ctr Tryz.prog 86 [ptrv za0 (Fld.id GChk),isv (a_x),isv (a_v)] [boxE za0 (a_c:GChk)] (fun R H=>R=oneOf [isv (r.1)]∧H=[boxE za0 (r.2)]):=by
 intro a_c a_x a_v za0 r h
 unfold zcR at h
 refine zq Tryz.func86 e fun w0 S0 hT=>wsr (oT (zai (y:=a_x) e hI (oT (zai (y:=a_v) e hI (oA e (rnf (wsr (oV (za ty46 e) (zb h fun y1 hy1 h=>?_)))))))))
 refine oT (zx (zb9 hy1) hT (s2 e e) .nil (oM e (zQ (jb 14) je .nil h 5 e (fun q2 g2 h=>?_) (fun J3 h hJ3=>?_))))
 ·refine oM e (zQ (jb 27) je .nil h 12 e (fun q5 g5 h=>?_) (fun J6 h hJ6=>?_))
  ·refine oM e (zQ (jb 37) je .nil h 9 e (fun q12 g12 h=>?_) (fun J13 h hJ13=>?_))
   ·refine oA e (rnf (zA ?_))
    cases h
    exact zh (.tmp e .nil) k1 ⟨e,e⟩
   refine zm (j:=28) h e (fun g14 h=>?_) (fun g14 h=>?_)
   ·refine oK 28 e e e g14 (zE e GTyp.f0 zbI e (z:=a_x.kind)) (oK 28 e e e g14 (za ty3 e) (oK 28 e e e g14 (zP e e) (oK 28 e e e g14 (zu e) (zQ (jb 36) je .nil h 4 e (fun q15 g15 h=>?_) (fun J16 h hJ16=>?_)))))
    ·exact oV (zi e g14 e) (hJ13 _ () h _ (jk 6 37 e e e))
    refine zm (j:=32) h e (fun g17 h=>?_) (fun g17 h=>?_)
    ·exact oP 32 e e g17 (oP 32 e e g17 (oP 32 e e g17 (oK 28 e e e g14 (zi e g17 e) (hJ16 _ () h _ (jk 4 36 e e e)))))
    exact oK 32 e e e g17 (zE e Val.f2 zbK e (z:=a_v.b)) (oK 32 e e e g17 (za ty42 e) (zb h fun y18 hy18 h=>zad e e (dj:=32) e g17 (zx (zhN hy18) hT (s1 e) .nil (oK 28 e e e g14 (zj e g17 e) (hJ16 _ () h _ (jk 4 36 e e e))))))
   refine oP 28 e e g14 (oP 28 e e g14 (oP 28 e e g14 (oP 28 e e g14 (zk e (dj:=32) e (zk e (dj:=32) e (zk e (dj:=32) e (oP 28 e e g14 (oV (zj e g14 e) ?_))))))))
   exact hJ13 _ () h _ (jk 9 37 e e e)
  refine zm (j:=15) h e (fun g7 h=>?_) (fun g7 h=>?_)
  ·refine oK 15 e e e g7 (zE e GTyp.f2 zeu e (z:=a_x.con)) (oK 15 e e e g7 (zE e GCon.f3 zjB e (z:=a_x.con.more)) (oK 15 e e e g7 (za ty4 e) (oK 15 e e e g7 (zu e) (zQ (jb 26) je .nil h 7 e (fun q8 g8 h=>?_) (fun J9 h hJ9=>?_)))))
   ·exact oV (zi e g7 e) (hJ6 _ () h _ (jk 6 27 e e e))
   refine zm (j:=19) h e (fun g10 h=>?_) (fun g10 h=>?_)
   ·exact oP 19 e e g10 (oP 19 e e g10 (oP 19 e e g10 (oP 19 e e g10 (oP 19 e e g10 (oP 19 e e g10 (oK 15 e e e g7 (zi e g10 e) (hJ9 _ () h _ (jk 7 26 e e e))))))))
   exact oK 19 e e e g10 (zE e GTyp.f2 zeu e (z:=a_x.con)) (oK 19 e e e g10 (za ty83 e) (oK 19 e e e g10 (zE e Val.f2 zbK e (z:=a_v.b)) (oK 19 e e e g10 (za ty42 e) (oK 19 e e e g10 (zaq (l:=a_v.b) e hI sl42) (zb h fun y11 hy11 h=>zad e e (dj:=19) e g10 (zx (zfV hy11) hT (s2 e e) .nil (oK 15 e e e g7 (zj e g10 e) (hJ9 _ () h _ (jk 7 26 e e e)))))))))
  refine oP 15 e e g7 (oP 15 e e g7 (oP 15 e e g7 (oP 15 e e g7 (zk e (dj:=19) e (zk e (dj:=19) e (zk e (dj:=19) e (zk e (dj:=19) e (zk e (dj:=19) e ?_))))))))
  exact zk e (dj:=19) e (oP 15 e e g7 (oV (zj e g7 e) (hJ6 _ () h _ (jk 12 27 e e e))))
 refine zm (j:=9) h e (fun g4 h=>?_) (fun g4 h=>?_)
 ·exact oK 9 e e e g4 (zE e Val.f2 zbK e (z:=a_v.b)) (oK 9 e e e g4 (za ty42 e) (oK 9 e e e g4 (zaq (l:=a_v.b) e hI sl42) (oK 9 e e e g4 (ziw e e) (oV (zi e g4 e) (hJ3 _ () h _ (jk 5 14 e e e))))))
 exact oP 9 e e g4 (oP 9 e e g4 (oP 9 e e g4 (oP 9 e e g4 (oV (zj e g4 e) (hJ3 _ () h _ (jk 5 14 e e e))))))


theorem zmc:∀ {a_t:GTab} {a_i:Int} {r:GTyp},zfO a_t a_i=some r→Ctr Tryz.prog 47 [isv (a_t),isv (a_i)] [] (fun R H=>R=oneOf [isv (r)]∧H=[]):=by
 intro a_t a_i r h
 unfold zfO at h
 refine zq Tryz.func47 e fun w0 S0 hT=>wsr (oT (zai (y:=a_t) e hI (oT (zac _ ze87 fun b1=>rnf (zn (wsr (oM e (oV (zao e e) ?_))))))))
 refine oM e (zQ (jb 13) je .nil h 6 e (fun q2 g2 h=>?_) (fun J3 h hJ3=>?_))
 ·refine rnf (zf h e (fun _ h=>?_) (fun _ h=>?_))
  ·refine wsr (oV (zar (z:=(GTyp.mk (0:Int) ([]:(List Tag)) (GCon.mk false false false false (0:Int) (0:Int)) ([]:(List GItem)) ([]:(List GFld)) (0:Int) false (0:Int))) e bu87 ze87 .nil) (oT (zp (y':=((GTyp.mk (0:Int) ([]:(List Tag)) (GCon.mk false false false false (0:Int) (0:Int)) ([]:(List GItem)) ([]:(List GFld)) (0:Int) false (0:Int)):GTyp)) ty87 e e hI .here e (rnf (zA (zo ?_))))))
   cases h
   exact zh (.cell e .here ty87 .nil) .nil ⟨e,e⟩
  refine wkf (wsr (oV (zE e GTab.f3 zca e (z:=a_t.types)) (oV (za ty24 e) (oM e (zb h fun y5 hy5 h=>oV (zam (l:=a_t.types) e hI e sl24 hy5) (oV (za ty87 e) (oT (zp (y':=(y5:GTyp)) ty87 e e hI .here e ?_))))))))
  refine rnf (zA ?_)
  cases h
  exact zh (.cell e .here ty87 .nil) .nil ⟨e,e⟩
 refine zm (j:=7) h e (fun g4 h=>?_) (fun g4 h=>?_)
 ·exact oP 7 e e g4 (oP 7 e e g4 (oP 7 e e g4 (oP 7 e e g4 (oP 7 e e g4 (oV (zi e g4 e) (hJ3 _ () h _ (jk 6 13 e e e)))))))
 exact oK 7 e e e g4 (zu e) (oK 7 e e e g4 (zE e GTab.f3 zca e (z:=a_t.types)) (oK 7 e e e g4 (za ty24 e) (oK 7 e e e g4 (zaq (l:=a_t.types) e hI sl24) (oK 7 e e e g4 (zck e e) (oV (zj e g4 e) (hJ3 _ () h _ (jk 6 13 e e e)))))))


theorem zlx:∀ {zeQ:Int} {a_to:Int} {r:(List Int)},zfe zeQ a_to=some r→Ctr Tryz.prog 48 [isv (zeQ),isv (a_to)] [] (fun R H=>∃ u1:Vt,R=oneOf [vecv u1 ((r).length)]∧H=[vecE u1 (r)]):=by
 intro zeQ a_to r h
 unfold zfe at h
 refine zq Tryz.func48 e fun w0 S0 hT=>wsr (oA e (zY (zeT (α:=Int)) (zY (zaR 4 e nilvV) (rnf (wsr (oA e (zY (zeT (α:=Int)) ?_)))))))
 refine zY (zaR 5 e nilvV) (rnf (zn (wsr (oM e (oA e (rnf (zB (za4 (ι:=(List Int) × Int) (γ:=Vt) (fun q3 g3=>[(5,vecv g3 (q3.1.length)),(6,isv (q3.2))]) (fun q3 g3=>[vecE g3 (q3.1:List Int)]) h (none) (zd (j:=5) e (vecvE (by first | rfl | simp)) (zd (j:=6) e hI ze)) k1 (fun L4 q3 g3 Q13 h hL4 eL4 rL4=>?_)))))))))
 refine zn (wsr (oM e (oM e (oV (zao e e) (rnf (zf h e (fun _ h=>?_) (fun _ h=>?_)))))))
 ·refine wkf (zn (zB (zr (oM e (oM e (oT (z7 (l:=([q3.2]:(List Int))) el23 (.cons e hI .nil) e e (zas h fun q11 h=>oT (ziQ (m:=([q3.2]:(List Int))) zen e e zM .here (by first | rfl | simp) q11 fun v10=>?_)))))))))
  refine oA e (zG (zt (zD (zr (oM e (zJ h fun q12 h=>oV (zah e e q12) (oA e ?_)))))))
  exact zG (hL4 _ (v10) h _ (zg 13 e e (zd (j:=5) e (vecvE (by first | rfl | simp)) (zd (j:=6) e hI ze)) k2))
 refine zaj (zX (eL4 _ _ (zI (zD (wsr (oM e (oA e (rnf ?_))))))))
 refine zA (zh (.as e (vecvE (by first | rfl | simp)) .nil) k1 ?_)
 cases h
 exact ⟨g3,e,e⟩


theorem zjh:∀ {a_t:GTab} {a_i:Int} {r:(List (List Int))},zeG a_t a_i=some r→Ctr Tryz.prog 21 [isv (a_t),isv (a_i)] [] (fun R H=>R=oneOf [isv (r)]∧H=[]):=by
 intro a_t a_i r h
 unfold zeG at h
 refine zq Tryz.func21 e fun w0 S0 hT=>wsr (oT (zai (y:=a_t) e hI (oA e (zY (zaQ) (zY (zeT (α:=NL Int)) (zY (zaR 4 e nilvV) (rnf (wsr ?_))))))))
 refine oV (za ty26 e) (oM e (zb h fun y3 hy3 h=>oT (zx (zmc hy3) hT (s2 e e) .nil (oT (zac _ ze87 fun b4=>oT (zp (y':=(y3:GTyp)) ty87 e e hI .here e (zY (zaE 5 .here e) (rnf (zn ?_)))))))))
 refine wsr (oV (zE e GTyp.f0 zbI e (z:=y3.kind)) (oV (za ty3 e) (oV (zaV e e) (oM e (zQ (jb 21) je .nil h 4 e (fun q5 g5 h=>?_) (fun J6 h hJ6=>?_))))))
 ·refine oM e (zQ (jb 26) je .nil h 4 e (fun q8 g8 h=>?_) (fun J9 h hJ9=>?_))
  ·refine rnf (zf h e (fun _ h=>?_) (fun _ h=>?_))
   ·refine wsr (oA e (zY (zaQ) (zY (zeT (α:=NL Int)) (zY (zaR 4 e nilvV) (rnf (zA (zo (zfy (zg1 4 .here e (by first | rfl | simp)) ?_))))))))
    refine zfy (zaR 4 e (zij (t:=none) (L:=(([]:(List (List Int))):List (List Int))))) ?_
    cases h
    exact zh (.tmp e .nil) .nil ⟨e,e⟩
   refine wkf (wsr (oA e (zY (zaQ) (zY (zeT (α:=NL Int)) (zY (zaR 6 e nilvV) (rnf (zn (wsr ?_))))))))
   refine oV (zE e GTyp.f5 zfR e (z:=y3.root)) (oV (za ty3 e) (oV (zse e e) (oV (zE e GTyp.f4 za2 e (z:=y3.fields)) (oV (za ty85 e) (oV (zaq (l:=y3.fields) e hI sl85) (zb h fun y15 hy15 h=>oT (zR (zlx hy15) hT (s2 e e) .nil (fun R H' hR=>?_))))))))
   obtain ⟨v16,rfl,rfl⟩:=hR
   refine oV (ziG sl23 e) (oM e (rnf (zB (za4 (ι:=(List (List Int)) × Int) (γ:=Vt × Tok) (fun q17 g17=>[(6,vecv g17.1 (q17.1.length)),(35,isv (q17.2))]) (fun q17 g17=>[vecE g17.1 (nestL g17.2 (q17.1:List (List Int))),tokE g17.2]) h (none,none) (zd (j:=6) e (vecvE (by first | rfl | simp)) (zd (j:=35) e hI ze)) (.cons tH (.cons tH .nil)) (fun L18 q17 g17 Q79 h hL18 eL18 rL18=>?_)))))
   refine wsr (oV (zao e e) (rnf (zn (zf h e (fun _ h=>?_) (fun _ h=>?_)))))
   ·refine wkf (zn (zdF (ι:=(List (List Int))) (γ:=Vt × Tok) (fun q49 g49=>[(6,vecv g49.1 (q49.length))]) (fun q49 g49=>[vecE g49.1 (nestL g49.2 (q49:List (List Int))),tokE g49.2]) k2 h (fun q49 g49 h=>?_) (fun J50 h hJ50=>?_)))
    ·exact zr (zJ h fun q78 h=>oV (zah e e q78) (oM e (zG (hL18 _ (g49.1,g49.2) h _ (zg 6 e e (zd (j:=6) e (vecvE (by first | rfl | simp)) (zd (j:=35) e hI ze)) (.cons .here k4))))))
    refine zB (wsr (zap h fun q51 h=>oV (zcu (α:=Int) sl23 e e q51.1 q51.2) (zb h fun y52 hy52 h=>oT (zcX ty3 e tI hy52 ?_))))
    refine oA e (rnf (wsr (oM e (oV (ziG sl36 e) (zJ h fun q53 h=>oV (zda e e q53) (oA e (rnf ?_)))))))
    refine zn (wsr (oV (zE e GTyp.f4 za2 e (z:=y3.fields)) (oV (za ty85 e) (oM e (zb h fun y54 hy54 h=>oV (zam (l:=y3.fields) e hI e sl85 hy54) (oV (zE e GFld.f5 zjC e (z:=y54.group)) (oV (za ty3 e) ?_)))))))
    refine oA e (rnf (wsr (oV (zE e GTyp.f0 zbI e (z:=y3.kind)) (oV (za ty3 e) (oV (zaV e e) (oM e (zQ (jb 54) je .nil h 3 e (fun q55 g55 h=>?_) (fun J56 h hJ56=>?_))))))))
    ·refine oM e (zQ (jb 58) je .nil h 3 e (fun q58 g58 h=>?_) (fun J59 h hJ59=>?_))
     ·refine oM e (zQ (jb 69) je .nil h 10 e (fun q61 g61 h=>?_) (fun J62 h hJ62=>?_))
      ·refine rnf (zf h e (fun _ h=>?_) (fun _ h=>?_))
       ·refine wsr (oM e (oM e (oM e (oM e (zap h fun q66 h=>oV (zcu (α:=NL Int) sl36 e e q66.1 q66.2) (zap h fun q67 h=>zb h fun y68 hy68 h=>?_))))))
        refine oT (zcX ty23 e .here (zgv q67 hy68) ?_)
        refine zY (zaR 75 e zqH) (oM e (oT (z7 (l:=([y52]:(List Int))) el23 (.cons e hI .nil) e e (zas h fun q71 h=>oT (zbv (l:=y68) (m:=([y52]:(List Int))) zen e hI e zM tH q71 fun t70=>zap h fun q72 h=>oV (zcu (α:=NL Int) sl36 e e q72.1 q72.2) (zap h fun q73 h=>zb h fun y74 hy74 h=>?_))))))
        refine zY (zaR 78 e znl) (oT (zfG ty23 e e tH (zgv q73 hy74) (zY (zny .here (zkE q73)) (zY (zaR (R':=vecv g17.1 (q17.1.set ((((q17.1.length:Nat):Int) - (1:Int)).toNat) (y68 ++ ([y52]:(List Int)))).length) 6 e (vecvE (by simp))) ?_))))
        refine zY (zaR (R':=vecv g17.1 (q17.1.set ((((q17.1.length:Nat):Int) - (1:Int)).toNat) (y68 ++ ([y52]:(List Int)))).length) 39 e (vecvE (by simp))) ?_
        refine zY (zaR (R':=vecv g17.1 (q17.1.set ((((q17.1.length:Nat):Int) - (1:Int)).toNat) (y68 ++ ([y52]:(List Int)))).length) 70 e (vecvE (by simp))) ?_
        refine zY (zaR (R':=vecv g17.1 (q17.1.set ((((q17.1.length:Nat):Int) - (1:Int)).toNat) (y68 ++ ([y52]:(List Int)))).length) 72 e (vecvE (by simp))) ?_
        exact rnf (zaj (zX (zI (hJ50 _ (g17.1,t70) h _ (zg 39 e e (zd (j:=6) e (vecvE (by first | rfl | simp)) ze) (.cons .here k4))))))
       refine wkf (zr (oM e (oM e (oT (z7 (l:=([y52]:(List Int))) el23 (.cons e hI .nil) e e (zY (zaQ) (oT (z7 (l:=[NL.mk (([y52]:(List Int))) (some none)]) el36 (.cons e znl .nil) e e (zas h fun q77 h=>oT (ziQ (m:=[NL.mk (([y52]:(List Int))) (some none)]) zmI e e zM tH (by first | rfl | simp) (by rw [zd5];exact q77) fun v76=>?_))))))))))
       refine zY (znr .here) (zY (zaR (R':=vecv v76 (q17.1 ++ [([y52]:(List Int))]).length) 84 e (vecvE (by simp))) ?_)
       exact oA e (zG (zt (hJ50 _ (v76,none) h _ (zg 30 e e (zd (j:=6) e (vecvE (by first | rfl | simp)) ze) (.cons .here (.cons .here (.cons tH (.cons tH (.cons tH .nil)))))))))
      refine zm (j:=59) h e (fun g63 h=>?_) (fun g63 h=>?_)
      ·refine oK 59 e e e g63 (zE e GTyp.f4 za2 e (z:=y3.fields)) (oK 59 e e e g63 (za ty85 e) (oK 59 e e e g63 (zu e) (zJ h fun q64 h=>oK 59 e e e g63 (zda e e q64) (zb h fun y65 hy65 h=>oK 59 e e e g63 (zam (l:=y3.fields) e hI e sl85 hy65) (oK 59 e e e g63 (zE e GFld.f5 zjC e (z:=y65.group)) (oK 59 e e e g63 (za ty3 e) ?_))))))
       exact oK 59 e e e g63 (zu e) (oK 59 e e e g63 (zP e e) (oV (zi e g63 e) (hJ62 _ () h _ (zg 10 e e (zd (j:=69) e hI ze) (.cons .here k4)))))
      refine oP 59 e e g63 (oP 59 e e g63 (oP 59 e e g63 (oP 59 e e g63 (oP 59 e e g63 (oP 59 e e g63 (oP 59 e e g63 (oP 59 e e g63 (oP 59 e e g63 ?_))))))))
      exact oV (zj e g63 e) (hJ62 _ () h _ (zg 10 e e (zd (j:=69) e hI ze) (.cons .here k4)))
     refine zm (j:=55) h e (fun g60 h=>?_) (fun g60 h=>?_)
     ·exact oK 55 e e e g60 (zu e) (oK 55 e e e g60 (zck e e) (oV (zi e g60 e) (hJ59 _ () h _ (zg 3 e e (zd (j:=58) e hI ze) (.cons .here k4)))))
     exact oP 55 e e g60 (oP 55 e e g60 (oV (zj e g60 e) (hJ59 _ () h _ (zg 3 e e (zd (j:=58) e hI ze) (.cons .here k4)))))
    refine zm (j:=51) h e (fun g57 h=>?_) (fun g57 h=>?_)
    ·exact oK 51 e e e g57 (zu e) (oK 51 e e e g57 (zbn e e) (oV (zi e g57 e) (hJ56 _ () h _ (zg 3 e e (zd (j:=54) e hI ze) (.cons .here k4)))))
    exact oP 51 e e g57 (oP 51 e e g57 (oV (zj e g57 e) (hJ56 _ () h _ (zg 3 e e (zd (j:=54) e hI ze) (.cons .here k4)))))
   refine zaj (zX (eL18 _ _ (zI (zD (wsr (oM e (oA e (rnf ?_))))))))
   refine zA (zfy (zg1 4 .here e (by first | rfl | simp)) ?_)
   refine zfy (zaR 4 e (zij (t:=g17.2) (L:=(q17.1:List (List Int))))) ?_
   cases h
   exact zh (.tmp e .nil) .nil ⟨e,e⟩
  refine zm (j:=22) h e (fun g10 h=>?_) (fun g10 h=>?_)
  ·exact oK 22 e e e g10 (zE e GTyp.f0 zbI e (z:=y3.kind)) (oK 22 e e e g10 (za ty3 e) (oK 22 e e e g10 (zaV e e) (oV (zi e g10 e) (hJ9 _ () h _ (zg 4 e e (zd (j:=26) e hI ze) k2)))))
  exact oP 22 e e g10 (oP 22 e e g10 (oP 22 e e g10 (oV (zj e g10 e) (hJ9 _ () h _ (zg 4 e e (zd (j:=26) e hI ze) k2)))))
 refine zm (j:=17) h e (fun g7 h=>?_) (fun g7 h=>?_)
 ·exact oK 17 e e e g7 (zE e GTyp.f0 zbI e (z:=y3.kind)) (oK 17 e e e g7 (za ty3 e) (oK 17 e e e g7 (zaV e e) (oV (zi e g7 e) (hJ6 _ () h _ (zg 4 e e (zd (j:=21) e hI ze) k2)))))
 exact oP 17 e e g7 (oP 17 e e g7 (oP 17 e e g7 (oV (zj e g7 e) (hJ6 _ () h _ (zg 4 e e (zd (j:=21) e hI ze) k2)))))


theorem zoa:∀ {a_a:Tag} {a_b:Tag} {r:Bool},zkw a_a a_b=some r→Ctr Tryz.prog 42 [isv (a_a),isv (a_b)] [] (fun R H=>R=oneOf [isv (r)]∧H=[]):=by
 intro a_a a_b r h
 unfold zkw at h
 refine zq Tryz.func42 e fun w0 S0 hT=>wsr (oT (zai (y:=a_a) e hI (oT (zai (y:=a_b) e hI (oA e (rnf (zn (wsr (oV (zE e Tag.f0 zgz e (z:=a_a.cls)) ?_)))))))))
 refine oV (za ty3 e) (oV (zE e Tag.f0 zgz e (z:=a_b.cls)) (oV (za ty3 e) (oV (zaV e e) (rnf (zf h e (fun _ h=>?_) (fun _ h=>?_))))))
 ·refine wsr (oV (zE e Tag.f0 zgz e (z:=a_a.cls)) (oV (za ty3 e) (oV (zE e Tag.f0 zgz e (z:=a_b.cls)) (oV (za ty3 e) (oV (zao e e) (oA e (rnf (zA ?_))))))))
  refine zo ?_
  cases h
  exact zh (.tmp e .nil) .nil ⟨e,e⟩
 refine wkf (wsr (oV (zE e Tag.f1 zdJ e (z:=a_a.num)) (oV (za ty3 e) (oV (zE e Tag.f1 zdJ e (z:=a_b.num)) (oV (za ty3 e) (oV (zao e e) (oA e (rnf ?_))))))))
 refine zA ?_
 cases h
 exact zh (.tmp e .nil) .nil ⟨e,e⟩

end Go.Proofs.Q


namespace Go.Proofs.Q
open Go.Sy
set_option maxRecDepth 4000
theorem ziC:∀ {a_c:GChk} {a_i:Int} {a_v:Val} {za0:Nat} {r:Bool × GChk},zdj a_c a_i a_v=some r→Ctr Tryz.prog 125 [ptrv za0 (Fld.id GChk),isv (a_i),isv (a_v)] [boxE za0 (a_c:GChk)] (fun R H=>R=oneOf [isv (r.1)]∧H=[boxE za0 (r.2)]):=by
 intro a_c a_i a_v za0 r h
 unfold zdj at h
 refine zq Tryz.func125 e fun w0 S0 hT=>wsr (oT (zai (y:=a_v) e hI (oA e (rnf (wsr (oM e (oV (zz e) (oV (zae e GChk.f0 zeO) ?_))))))))
 refine oV (zae e GTbd.f0 zeM) (oV (zae e GTab.f3 zca) (oT (zK (R:=isv (a_c.tabled.t.types)) ty24 e .here hI (oM e (zb h fun y1 hy1 h=>oV (zam (l:=a_c.tabled.t.types) e hI e sl24 hy1) (oV (za ty87 e) (oT (zac _ ze87 fun b2=>oT (zp (y':=(y1:GTyp)) ty87 e e hI .here e ?_)))))))))
 refine zY (zaE 7 .here e) (rnf (zn (wsr (oV (zE e Val.f5 zdy e (z:=a_v.more)) (oV (za ty44 e) (oV (zaq (l:=a_v.more) e hI sl44) (oV (zP e e) (rnf ?_))))))))
 refine zf h e (fun _ h=>?_) (fun _ h=>?_)
 ·refine wsr (oV (zE e Val.f4 zcT e (z:=a_v.rule)) (oV (za ty3 e) (oV (zP e e) (oA e (rnf (zA (zo ?_)))))))
  cases h
  exact zh (.tmp e .nil) k1 ⟨e,e⟩
 refine wkf (zn (wsr (oV (zE e GTyp.f6 ziu e (z:=y1.more)) (oV (za ty4 e) (oV (zaD e) (oM e (zQ (jb 42) je .nil h 9 e (fun q3 g3 h=>?_) (fun J4 h hJ4=>?_))))))))
 ·refine rnf (zf h e (fun _ h=>?_) (fun _ h=>?_))
  ·refine wsr (oA e (rnf (zA (zo ?_))))
   cases h
   exact zh (.tmp e .nil) k1 ⟨e,e⟩
  refine wkf (wsr (oM e (oV (zz e) (oV (zae e GChk.f0 zeO) (oV (zae e GTbd.f0 zeM) (oT (zK (R:=isv (a_c.tabled.t)) ty26 e .here hI (oM e (zb h fun y9 hy9 h=>?_)))))))))
  refine oT (zx (zjh hy9) hT (s2 e e) .nil (oV (zaq (l:=y9) e hI sl36) (oA e (rnf (wsr (oT (zac _ ze31 fun b10=>rnf (zn (wsr ?_)))))))))
  refine oV (zE e Val.f5 zdy e (z:=a_v.more)) (oV (za ty44 e) (oV (zaq (l:=a_v.more) e hI sl44) (oM e (rnf (zB (za4 (ι:=Int × Int × Tag × GChk) (γ:=Unit) (fun q11 g11=>[(8,isv (q11.1)),(54,isv (q11.2.1))]) (fun q11 g11=>[boxE b10 (q11.2.2.1:Tag),boxE za0 (q11.2.2.2:GChk)]) h () (zd (j:=8) e hI (zd (j:=54) e hI ze)) k2 (fun L12 q11 g11 Q69 h hL12 eL12 rL12=>wsr (oV (zao e e) ?_))))))))
  refine rnf (zn (zf h e (fun _ h=>?_) (fun _ h=>?_)))
  ·refine wkf (zn (zdF (ι:=Int × Tag × GChk) (γ:=Unit) (fun q41 g41=>[(8,isv (q41.1))]) (fun q41 g41=>[boxE b10 (q41.2.1:Tag),boxE za0 (q41.2.2:GChk)]) k2 h (fun q41 g41 h=>?_) (fun J42 h hJ42=>?_)))
   ·exact zr (zJ h fun q68 h=>oV (zah e e q68) (oM e (zG (hL12 _ () h _ (zg 6 e e (zd (j:=8) e hI (zd (j:=54) e hI ze)) k2)))))
   refine zB (wsr (oM e (zb h fun y43 hy43 h=>oV (zam (l:=a_v.more) e hI e sl44 hy43) (oV (za ty112 e) (oT (zac _ ze112 fun b44=>oA e (oT (zp (y':=(y43:Raw)) ty112 e e hI .here e ?_))))))))
   refine zY (zaE 11 .here e) (rnf (zn (wsr (oV (zE e Val.f4 zcT e (z:=a_v.rule)) (oV (za ty3 e) (oV (zP e e) (rnf (zf h e (fun _ h=>?_) (fun _ h=>?_)))))))))
   ·refine zn (wsr (oV (zE e Raw.f0 zem e (z:=y43.n)) (oV (za ty3 e) (oM e (oV (zao e e) (oM e (zQ (jb 70) je .nil h 4 e (fun q45 g45 h=>?_) (fun J46 h hJ46=>?_))))))))
    ·refine oM e (zQ (jb 76) je .nil h 5 e (fun q48 g48 h=>?_) (fun J49 h hJ49=>?_))
     ·refine rnf (zf h e (fun _ h=>?_) (fun _ h=>?_))
      ·refine wsr (oA e (rnf (zA (zo (zo (zw (zo (rL12 _ ?_))))))))
       refine zw (zo ?_)
       cases h
       exact zh (.tmp e .nil) (.cons tH .nil) ⟨e,e⟩
      refine wkf (wsr (oV (zE e Raw.f0 zem e (z:=y43.n)) (oV (za ty3 e) (zJ h fun q52 h=>oV (zah e e q52) (oA e (rnf (zaj ?_)))))))
      exact zX (zI (hJ42 _ () h _ (zg 21 e e (zd (j:=8) e hI ze) k2)))
     refine zm (j:=71) h e (fun g50 h=>?_) (fun g50 h=>?_)
     ·exact oP 71 e e g50 (oP 71 e e g50 (oP 71 e e g50 (oP 71 e e g50 (oV (zi e g50 e) (hJ49 _ () h _ (zg 5 e e (zd (j:=76) e hI ze) k2))))))
     exact oK 71 e e e g50 (zE e Raw.f1 zf5 e (z:=y43.b)) (oK 71 e e e g50 (za ty42 e) (zb h fun y51 hy51 h=>zad e e (dj:=71) e g50 (zx (zkk hy51) hT (s1 e) .nil (oK 71 e e e g50 (zaD e) (oV (zj e g50 e) (hJ49 _ () h _ (zg 5 e e (zd (j:=76) e hI ze) k2)))))))
    refine zm (j:=66) h e (fun g47 h=>?_) (fun g47 h=>?_)
    ·exact oP 66 e e g47 (oP 66 e e g47 (oP 66 e e g47 (oV (zi e g47 e) (hJ46 _ () h _ (zg 4 e e (zd (j:=70) e hI ze) k2)))))
    exact oK 66 e e e g47 (zE e Raw.f0 zem e (z:=y43.n)) (oK 66 e e e g47 (za ty3 e) (oK 66 e e e g47 (zck e e) (oV (zj e g47 e) (hJ46 _ () h _ (zg 4 e e (zd (j:=70) e hI ze) k2)))))
   refine wkf (wsr (oM e (oM e (oV (zE e Raw.f1 zf5 e (z:=y43.b)) (oV (za ty42 e) (zb h fun y53 hy53 h=>oT (zx (zeH hy53) hT (s3 e e e) (.cons tH .nil) (oM e ?_))))))))
   refine oV (zO e e) (oV (zO e e) (oT (zac _ ze31 fun b54=>oT (zp (y':=(y53.1:Tag)) ty31 e e hI .here e (zY (zaE 12 .here e) (oA e (rnf (zn (wsr ?_)))))))))
   refine oM e (oV (zaD e) (oM e (zQ (jb 94) je .nil h 4 e (fun q55 g55 h=>?_) (fun J56 h hJ56=>?_))))
   ·refine oM e (zQ (jb 109) je .nil h 14 e (fun q58 g58 h=>?_) (fun J59 h hJ59=>?_))
    ·refine rnf (zf h e (fun _ h=>?_) (fun _ h=>?_))
     ·refine wsr (oA e (rnf (zA (zo (zw (zo (rL12 _ (zw ?_))))))))
      refine zo ?_
      cases h
      exact zh (.tmp e .nil) k1 ⟨e,e⟩
     exact wkf (zr (oV (za ty31 e) (oT (zp (y':=(y53.1:Tag)) ty31 e e hI tH e (zG (zt (hJ42 _ () h _ (zg 27 e e (zd (j:=8) e hI ze) k2))))))))
    refine zm (j:=95) h e (fun g60 h=>?_) (fun g60 h=>?_)
    ·refine oP 95 e e g60 (oP 95 e e g60 (oP 95 e e g60 (oP 95 e e g60 (zk e (dj:=99) e (zk e (dj:=99) e (oP 95 e e g60 (oP 95 e e g60 (zk e (dj:=103) e ?_))))))))
     exact zk e (dj:=103) e (zk e (dj:=103) e (zk e (dj:=103) e (oP 95 e e g60 (oV (zi e g60 e) (hJ59 _ () h _ (zg 14 e e (zd (j:=109) e hI ze) k2))))))
    refine oK 95 e e e g60 (zE e GTyp.f0 zbI e (z:=y1.kind)) (oK 95 e e e g60 (za ty3 e) (oK 95 e e e g60 (zP e e) (oK 95 e e e g60 (zu e) (zQ (jb 102) je .nil h 3 e (fun q61 g61 h=>?_) (fun J62 h hJ62=>?_)))))
    ·refine oK 95 e e e g60 (zu e) (zQ (jb 108) je .nil h 5 e (fun q64 g64 h=>?_) (fun J65 h hJ65=>?_))
     ·exact oV (zj e g60 e) (hJ59 _ () h _ (zg 8 e e (zd (j:=109) e hI ze) k2))
     refine zm (j:=103) h e (fun g66 h=>?_) (fun g66 h=>?_)
     ·exact zad e e (dj:=103) e g66 (zK (R:=isv (q11.2.2.1)) ty31 e tH hI (oK 103 e e e g66 (za ty31 e) (zb h fun y67 hy67 h=>zad e e (dj:=103) e g66 (zx (zoa hy67) hT (s2 e e) .nil (oK 103 e e e g66 (zaD e) (oK 95 e e e g60 (zi e g66 e) (hJ65 _ () h _ (zg 5 e e (zd (j:=108) e hI ze) k2))))))))
     exact oP 103 e e g66 (oP 103 e e g66 (oP 103 e e g66 (oP 103 e e g66 (oK 95 e e e g60 (zj e g66 e) (hJ65 _ () h _ (zg 5 e e (zd (j:=108) e hI ze) k2))))))
    refine zm (j:=99) h e (fun g63 h=>?_) (fun g63 h=>?_)
    ·exact oK 99 e e e g63 (zu e) (oK 99 e e e g63 (zbn e e) (oK 95 e e e g60 (zi e g63 e) (hJ62 _ () h _ (zg 3 e e (zd (j:=102) e hI ze) k2))))
    exact oP 99 e e g63 (oP 99 e e g63 (oK 95 e e e g60 (zj e g63 e) (hJ62 _ () h _ (zg 3 e e (zd (j:=102) e hI ze) k2))))
   refine zm (j:=90) h e (fun g57 h=>?_) (fun g57 h=>?_)
   ·exact oP 90 e e g57 (oP 90 e e g57 (oP 90 e e g57 (oV (zi e g57 e) (hJ56 _ () h _ (zg 4 e e (zd (j:=94) e hI ze) k2)))))
   exact oK 90 e e e g57 (zE e Raw.f0 zem e (z:=y43.n)) (oK 90 e e e g57 (za ty3 e) (oK 90 e e e g57 (zaV e e) (oV (zj e g57 e) (hJ56 _ () h _ (zg 4 e e (zd (j:=94) e hI ze) k2)))))
  refine zaj (zX (eL12 _ _ (zI (zD (wsr (oA e (rnf (zA ?_))))))))
  cases h
  exact zh (.tmp e .nil) (.cons tH .nil) ⟨e,e⟩
 refine zm (j:=33) h e (fun g5 h=>?_) (fun g5 h=>?_)
 ·refine oP 33 e e g5 (oP 33 e e g5 (oP 33 e e g5 (oP 33 e e g5 (zk e (dj:=37) e (zk e (dj:=37) e (zk e (dj:=37) e (oP 33 e e g5 (oV (zi e g5 e) ?_))))))))
  exact hJ4 _ () h _ (jk 9 42 e e e)
 refine oK 33 e e e g5 (zE e Val.f4 zcT e (z:=a_v.rule)) (oK 33 e e e g5 (za ty3 e) (oK 33 e e e g5 (zaV e e) (oK 33 e e e g5 (zu e) (zQ (jb 41) je .nil h 4 e (fun q6 g6 h=>?_) (fun J7 h hJ7=>?_)))))
 ·exact oV (zj e g5 e) (hJ4 _ () h _ (jk 6 42 e e e))
 refine zm (j:=37) h e (fun g8 h=>?_) (fun g8 h=>?_)
 ·exact oK 37 e e e g8 (zE e Val.f4 zcT e (z:=a_v.rule)) (oK 37 e e e g8 (za ty3 e) (oK 37 e e e g8 (zaV e e) (oK 33 e e e g5 (zi e g8 e) (hJ7 _ () h _ (jk 4 41 e e e)))))
 exact oP 37 e e g8 (oP 37 e e g8 (oP 37 e e g8 (oK 33 e e e g5 (zj e g8 e) (hJ7 _ () h _ (jk 4 41 e e e)))))


theorem ziJ:∀ {a_v:Val} {r:Bool},zd4 a_v=some r→Ctr Tryz.prog 126 [isv (a_v)] [] (fun R H=>R=oneOf [isv (r)]∧H=[]):=by
 intro a_v r h
 unfold zd4 at h
 refine zq Tryz.func126 e fun w0 S0 hT=>wsr (oT (zai (y:=a_v) e hI (oA e (rnf (wsr (oV (zE e Val.f0 zbU e (z:=a_v.kind)) (oV (za ty3 e) (oV (zP e e) ?_))))))))
 refine oM e (zQ (jb 9) je .nil h 3 e (fun q1 g1 h=>?_) (fun J2 h hJ2=>?_))
 ·refine oA e (rnf (zA ?_))
  cases h
  exact zh (.tmp e .nil) .nil ⟨e,e⟩
 refine zm (j:=6) h e (fun g3 h=>?_) (fun g3 h=>?_)
 ·exact oK 6 e e e g3 (za ty46 e) (zb h fun y4 hy4 h=>zad e e (dj:=6) e g3 (zx (zb9 hy4) hT (s2 e e) .nil (oV (zi e g3 e) (hJ2 _ () h _ (ji 3 9 e e e)))))
 exact oP 6 e e g3 (oP 6 e e g3 (oV (zj e g3 e) (hJ2 _ () h _ (ji 3 9 e e e))))


theorem zji:∀ {a_a:(List UInt8)} {a_b:(List UInt8)} {r:Bool},zgJ a_a a_b=some r→Ctr Tryz.prog 96 [isv (a_a),isv (a_b)] [] (fun R H=>R=oneOf [isv (r)]∧H=[]):=by
 intro a_a a_b r h
 unfold zgJ at h
 refine zq Tryz.func96 e fun w0 S0 hT=>wsr (oA e (rnf (wsr (oM e (oV (zqA (l:=a_a) Tryz.underlying42 Tryz.underlying5 Tryz.underlying9 e hI) (oM e (oV (zqA (l:=a_b) Tryz.underlying42 Tryz.underlying5 Tryz.underlying9 e hI) ?_)))))))
 refine oV (zcs eq9 e e) (oA e (rnf (zA ?_)))
 cases h
 exact zh (.tmp e .nil) .nil ⟨e,e⟩


theorem zk5:∀ {a_a:Raw} {a_b:Raw} {r:Bool},zef a_a a_b=some r→Ctr Tryz.prog 99 [isv (a_a),isv (a_b)] [] (fun R H=>R=oneOf [isv (r)]∧H=[]):=by
 intro a_a a_b r h
 unfold zef at h
 refine zq Tryz.func99 e fun w0 S0 hT=>wsr (oT (zai (y:=a_a) e hI (oT (zai (y:=a_b) e hI (oA e (rnf (wsr (oV (zE e Raw.f0 zem e (z:=a_a.n)) (oV (za ty3 e) ?_)))))))))
 refine oV (zE e Raw.f0 zem e (z:=a_b.n)) (oV (za ty3 e) (oV (zP e e) (oM e (zQ (jb 16) je .nil h 6 e (fun q1 g1 h=>?_) (fun J2 h hJ2=>?_)))))
 ·refine oA e (rnf (zA ?_))
  cases h
  exact zh (.tmp e .nil) .nil ⟨e,e⟩
 refine zm (j:=10) h e (fun g3 h=>?_) (fun g3 h=>?_)
 ·exact oK 10 e e e g3 (zE e Raw.f1 zf5 e (z:=a_a.b)) (oK 10 e e e g3 (za ty42 e) (oK 10 e e e g3 (zE e Raw.f1 zf5 e (z:=a_b.b)) (oK 10 e e e g3 (za ty42 e) (zb h fun y4 hy4 h=>zad e e (dj:=10) e g3 (zx (zji hy4) hT (s2 e e) .nil (oV (zi e g3 e) (hJ2 _ () h _ (ji 6 16 e e e))))))))
 exact oP 10 e e g3 (oP 10 e e g3 (oP 10 e e g3 (oP 10 e e g3 (oP 10 e e g3 (oV (zj e g3 e) (hJ2 _ () h _ (ji 6 16 e e e)))))))


theorem zct:∀ {a_s1:(List Raw)} {a_s2:(List Raw)} {r:Bool},zaH a_s1 a_s2=some r→Ctr Tryz.prog 98 [isv (a_s1),isv (a_s2),clov 99 []] [] (fun R H=>R=oneOf [isv (r)]∧H=[]):=by
 intro a_s1 a_s2 r h
 unfold zaH at h
 refine zq Tryz.func98 e fun w0 S0 hT=>wsr (oA e (rnf (zn (wsr (oM e (oV (zaq (l:=a_s1) e hI sl44) (oM e ?_)))))))
 refine oV (zaq (l:=a_s2) e hI sl44) (oV (zaV e e) (rnf (zf h e (fun _ h=>?_) (fun _ h=>?_))))
 ·refine wsr (oA e (rnf (zA (zo ?_))))
  cases h
  exact zh (.tmp e .nil) .nil ⟨e,e⟩
 refine wkf (zn (wsr (oM e (oV (zaq (l:=a_s1) e hI sl44) (oM e (rnf (zB (za4 (ι:=Int) (γ:=Unit) (fun q1 g1=>[(17,isv (q1))]) (fun q1 g1=>[]) h () (zd (j:=17) e hI ze) .nil (fun L2 q1 g1 Q15 h hL2 eL2 rL2=>?_)))))))))
 refine wsr (oV (zao e e) (rnf (zn (zf h e (fun _ h=>?_) (fun _ h=>?_)))))
 ·refine wkf (zn (zB (wsr (oM e (zb h fun y9 hy9 h=>oV (zam (l:=a_s1) e hI e sl44 hy9) (oV (za ty112 e) (oT (zac _ ze112 fun b10=>?_))))))))
  refine oA e (oT (zp (y':=(y9:Raw)) ty112 e e hI .here e (zY (zaE 8 .here e) (rnf (wsr (oM e (oM e (zb h fun y11 hy11 h=>oV (zam (l:=a_s2) e hI e sl44 hy11) ?_))))))))
  refine oV (za ty112 e) (oT (zac _ ze112 fun b12=>oT (zp (y':=(y11:Raw)) ty112 e e hI .here e (zY (zaE 9 .here e) (rnf (wsr (oM e (oV (za ty112 e) (oV (za ty112 e) ?_)))))))))
  refine zb h fun y13 hy13 h=>oT (zgF e (s2 e e) (zk5 hy13) hT .nil (fun R H' hR=>?_))
  obtain ⟨rfl,rfl⟩:=hR
  refine oV (zaD e) (rnf (zf h e (fun _ h=>?_) (fun _ h=>?_)))
  ·refine wsr (oA e (rnf (zA (zw (zo (rL2 _ (zw (zo ?_))))))))
   cases h
   exact zh (.tmp e .nil) .nil ⟨e,e⟩
  exact zZ (zt (zD (zr (zJ h fun q14 h=>oV (zah e e q14) (oM e (zG (hL2 _ () h _ (ji 21 17 e e e))))))))
 refine zaj (zX (eL2 _ _ (zI (zD (wsr (oA e (rnf (zA ?_))))))))
 cases h
 exact zh (.tmp e .nil) .nil ⟨e,e⟩


def zf1 (f':Val→Val→Option (Bool)):Prop :=
 ∀ {a_a:Val} {a_b:Val} {r:Bool},f' a_a a_b=some r→Ctr Tryz.prog 67 [isv (a_a),isv (a_b)] [] (fun R H=>R=oneOf [isv (r)]∧H=[])
def zaN (f':(List Val)→(List Val)→Option (Bool)):Prop :=
 ∀ {a_s1:(List Val)} {a_s2:(List Val)} {r:Bool},f' a_s1 a_s2=some r→Ctr Tryz.prog 97 [isv (a_s1),isv (a_s2),clov 67 []] [] (fun R H=>R=oneOf [isv (r)]∧H=[])
theorem zme {zdg:Val→Val→Option (Bool)} {zT:(List Val)→(List Val)→Option (Bool)} (zj7:zf1 zdg) (za6:zaN zT):∀ {a_a:Val} {a_b:Val} {r:Bool},ze6 zdg zT a_a a_b=some r→Ctr Tryz.prog 67 [isv (a_a),isv (a_b)] [] (fun R H=>R=oneOf [isv (r)]∧H=[]):=by
 intro a_a a_b r h
 unfold ze6 at h
 refine zq Tryz.func67 e fun w0 S0 hT=>wsr (oT (zai (y:=a_a) e hI (oT (zai (y:=a_b) e hI (oA e (rnf (wsr (oV (zE e Val.f0 zbU e (z:=a_a.kind)) (oV (za ty3 e) ?_)))))))))
 refine oV (zE e Val.f0 zbU e (z:=a_b.kind)) (oV (za ty3 e) (oV (zP e e) (oM e (zQ (jb 16) je .nil h 6 e (fun q1 g1 h=>?_) (fun J2 h hJ2=>?_)))))
 ·refine oM e (zQ (jb 23) je .nil h 6 e (fun q4 g4 h=>?_) (fun J5 h hJ5=>?_))
  ·refine oM e (zQ (jb 30) je .nil h 6 e (fun q8 g8 h=>?_) (fun J9 h hJ9=>?_))
   ·refine oM e (zQ (jb 37) je .nil h 6 e (fun q12 g12 h=>?_) (fun J13 h hJ13=>?_))
    ·refine oM e (zQ (jb 44) je .nil h 6 e (fun q15 g15 h=>?_) (fun J16 h hJ16=>?_))
     ·refine oA e (rnf (zA ?_))
      cases h
      exact zh (.tmp e .nil) .nil ⟨e,e⟩
     refine zm (j:=38) h e (fun g17 h=>?_) (fun g17 h=>?_)
     ·exact oK 38 e e e g17 (zE e Val.f5 zdy e (z:=a_a.more)) (oK 38 e e e g17 (za ty44 e) (oK 38 e e e g17 (zE e Val.f5 zdy e (z:=a_b.more)) (oK 38 e e e g17 (za ty44 e) (zb h fun y18 hy18 h=>zad e e (dj:=38) e g17 (zx (zct hy18) hT (s3 e e e) .nil (oV (zi e g17 e) (hJ16 _ () h _ (ji 6 44 e e e))))))))
     exact oP 38 e e g17 (oP 38 e e g17 (oP 38 e e g17 (oP 38 e e g17 (oP 38 e e g17 (oV (zj e g17 e) (hJ16 _ () h _ (ji 6 44 e e e)))))))
    refine zm (j:=31) h e (fun g14 h=>?_) (fun g14 h=>?_)
    ·exact oK 31 e e e g14 (zE e Val.f4 zcT e (z:=a_a.rule)) (oK 31 e e e g14 (za ty3 e) (oK 31 e e e g14 (zE e Val.f4 zcT e (z:=a_b.rule)) (oK 31 e e e g14 (za ty3 e) (oK 31 e e e g14 (zP e e) (oV (zi e g14 e) (hJ13 _ () h _ (ji 6 37 e e e)))))))
    exact oP 31 e e g14 (oP 31 e e g14 (oP 31 e e g14 (oP 31 e e g14 (oP 31 e e g14 (oV (zj e g14 e) (hJ13 _ () h _ (ji 6 37 e e e)))))))
   refine zm (j:=24) h e (fun g10 h=>?_) (fun g10 h=>?_)
   ·exact oK 24 e e e g10 (zE e Val.f3 zbl e (z:=a_a.l)) (oK 24 e e e g10 (za ty43 e) (oK 24 e e e g10 (zE e Val.f3 zbl e (z:=a_b.l)) (oK 24 e e e g10 (za ty43 e) (zb h fun y11 hy11 h=>zad e e (dj:=24) e g10 (zx (za6 hy11) hT (s3 e e e) .nil (oV (zi e g10 e) (hJ9 _ () h _ (ji 6 30 e e e))))))))
   exact oP 24 e e g10 (oP 24 e e g10 (oP 24 e e g10 (oP 24 e e g10 (oP 24 e e g10 (oV (zj e g10 e) (hJ9 _ () h _ (ji 6 30 e e e)))))))
  refine zm (j:=17) h e (fun g6 h=>?_) (fun g6 h=>?_)
  ·exact oK 17 e e e g6 (zE e Val.f2 zbK e (z:=a_a.b)) (oK 17 e e e g6 (za ty42 e) (oK 17 e e e g6 (zE e Val.f2 zbK e (z:=a_b.b)) (oK 17 e e e g6 (za ty42 e) (zb h fun y7 hy7 h=>zad e e (dj:=17) e g6 (zx (zji hy7) hT (s2 e e) .nil (oV (zi e g6 e) (hJ5 _ () h _ (ji 6 23 e e e))))))))
  exact oP 17 e e g6 (oP 17 e e g6 (oP 17 e e g6 (oP 17 e e g6 (oP 17 e e g6 (oV (zj e g6 e) (hJ5 _ () h _ (ji 6 23 e e e)))))))
 refine zm (j:=10) h e (fun g3 h=>?_) (fun g3 h=>?_)
 ·exact oK 10 e e e g3 (zE e Val.f1 zbk e (z:=a_a.n)) (oK 10 e e e g3 (za ty2 e) (oK 10 e e e g3 (zE e Val.f1 zbk e (z:=a_b.n)) (oK 10 e e e g3 (za ty2 e) (oK 10 e e e g3 (zP e e) (oV (zi e g3 e) (hJ2 _ () h _ (ji 6 16 e e e)))))))
 exact oP 10 e e g3 (oP 10 e e g3 (oP 10 e e g3 (oP 10 e e g3 (oP 10 e e g3 (oV (zj e g3 e) (hJ2 _ () h _ (ji 6 16 e e e)))))))

theorem zb3 {zdg:Val→Val→Option (Bool)} {zT:(List Val)→(List Val)→Option (Bool)} (zj7:zf1 zdg) (za6:zaN zT):∀ {a_s1:(List Val)} {a_s2:(List Val)} {r:Bool},zan zdg zT a_s1 a_s2=some r→Ctr Tryz.prog 97 [isv (a_s1),isv (a_s2),clov 67 []] [] (fun R H=>R=oneOf [isv (r)]∧H=[]):=by
 intro a_s1 a_s2 r h
 unfold zan at h
 refine zq Tryz.func97 e fun w0 S0 hT=>wsr (oA e (rnf (zn (wsr (oM e (oV (zaq (l:=a_s1) e hI sl43) (oM e ?_)))))))
 refine oV (zaq (l:=a_s2) e hI sl43) (oV (zaV e e) (rnf (zf h e (fun _ h=>?_) (fun _ h=>?_))))
 ·refine wsr (oA e (rnf (zA (zo ?_))))
  cases h
  exact zh (.tmp e .nil) .nil ⟨e,e⟩
 refine wkf (zn (wsr (oM e (oV (zaq (l:=a_s1) e hI sl43) (oM e (rnf (zB (za4 (ι:=Int) (γ:=Unit) (fun q1 g1=>[(17,isv (q1))]) (fun q1 g1=>[]) h () (zd (j:=17) e hI ze) .nil (fun L2 q1 g1 Q15 h hL2 eL2 rL2=>?_)))))))))
 refine wsr (oV (zao e e) (rnf (zn (zf h e (fun _ h=>?_) (fun _ h=>?_)))))
 ·refine wkf (zn (zB (wsr (oM e (zb h fun y9 hy9 h=>oV (zam (l:=a_s1) e hI e sl43 hy9) (oV (za ty46 e) (oT (zac _ ze46 fun b10=>?_))))))))
  refine oA e (oT (zp (y':=(y9:Val)) ty46 e e hI .here e (zY (zaE 8 .here e) (rnf (wsr (oM e (oM e (zb h fun y11 hy11 h=>oV (zam (l:=a_s2) e hI e sl43 hy11) ?_))))))))
  refine oV (za ty46 e) (oT (zac _ ze46 fun b12=>oT (zp (y':=(y11:Val)) ty46 e e hI .here e (zY (zaE 9 .here e) (rnf (wsr (oM e (oV (za ty46 e) (oV (za ty46 e) ?_)))))))))
  refine zb h fun y13 hy13 h=>oT (zgF e (s2 e e) (zj7 hy13) hT .nil (fun R H' hR=>?_))
  obtain ⟨rfl,rfl⟩:=hR
  refine oV (zaD e) (rnf (zf h e (fun _ h=>?_) (fun _ h=>?_)))
  ·refine wsr (oA e (rnf (zA (zw (zo (rL2 _ (zw (zo ?_))))))))
   cases h
   exact zh (.tmp e .nil) .nil ⟨e,e⟩
  exact zZ (zt (zD (zr (zJ h fun q14 h=>oV (zah e e q14) (oM e (zG (hL2 _ () h _ (ji 21 17 e e e))))))))
 refine zaj (zX (eL2 _ _ (zI (zD (wsr (oA e (rnf (zA ?_))))))))
 cases h
 exact zh (.tmp e .nil) .nil ⟨e,e⟩

theorem zhb:∀ n,zf1 (zfn n)∧zaN (zaO n)
 | 0=>⟨fun h=>(by cases h),fun h=>(by cases h)⟩
 | n + 1=>by
  obtain ⟨h0,h1⟩:=zhb n
  exact ⟨zme h0 h1,zb3 h0 h1⟩
theorem zna (n:Nat):zf1 (zfn n):=(zhb n).1
theorem zhG:∀ {a_c:GChk} {a_i:Int} {a_v:Val} {za0:Nat} {r:Bool × GChk},zcj a_c a_i a_v=some r→Ctr Tryz.prog 128 [ptrv za0 (Fld.id GChk),isv (a_i),isv (a_v)] [boxE za0 (a_c:GChk)] (fun R H=>R=oneOf [isv (r.1)]∧H=[boxE za0 (r.2)]):=by
 intro a_c a_i a_v za0 r h
 unfold zcj at h
 refine zq Tryz.func128 e fun w0 S0 hT=>wsr (oT (zai (y:=a_v) e hI (oA e (rnf (wsr (oM e (oV (zz e) (oV (zae e GChk.f0 zeO) ?_))))))))
 refine oV (zae e GTbd.f0 zeM) (oV (zae e GTab.f3 zca) (oT (zK (R:=isv (a_c.tabled.t.types)) ty24 e .here hI (oM e (zb h fun y1 hy1 h=>oV (zam (l:=a_c.tabled.t.types) e hI e sl24 hy1) (oV (za ty87 e) (oT (zac _ ze87 fun b2=>oT (zp (y':=(y1:GTyp)) ty87 e e hI .here e ?_)))))))))
 refine zY (zaE 7 .here e) (rnf (zn (wsr (oM e (oV (zz e) (oV (zae e GChk.f0 zeO) (oV (zae e GTbd.f0 zeM) (oT (zK (R:=isv (a_c.tabled.t)) ty26 e .here hI ?_)))))))))
 refine oM e (zb h fun y3 hy3 h=>oT (zx (zjh hy3) hT (s2 e e) .nil (oV (zaq (l:=y3) e hI sl36) (oM e (rnf (zB (za4 (ι:=Int) (γ:=Unit) (fun q4 g4=>[(32,isv (q4))]) (fun q4 g4=>[]) h () (zd (j:=32) e hI ze) .nil (fun L5 q4 g4 Q90 h hL5 eL5 rL5=>wsr ?_))))))))
 refine oV (zao e e) (rnf (zn (zf h e (fun _ h=>?_) (fun _ h=>?_))))
 ·refine wkf (zn (zdF (ι:=Unit) (γ:=Unit) (fun q48 g48=>[]) (fun q48 g48=>[]) .nil h (fun q48 g48 h=>?_) (fun J49 h hJ49=>?_)))
  ·exact zr (zJ h fun q89 h=>oV (zah e e q89) (oM e (zG (hL5 _ () h _ (jk 4 32 e e e)))))
  refine zB (wsr (zb h fun y50 hy50 h=>oV (zam (l:=y3) e hI e sl36 hy50) (oV (za ty23 e) (oA e (rnf (zn (zn ?_)))))))
  refine z8 (.v 0 (.v 1 (.v 2 (.v 3 (.v 4 (.v 5 (.v 6 (.v 7 (.v 8 .nil))))))))) moOrd (by kernel_rfl) ?_
  refine zy e (zE e GTyp.f4 za2 e (z:=y1.fields)) (zy e (za ty85 e) (rvm e e (zb h fun y51 hy51 h=>zy e (zam (l:=y50) e hI e sl23 hy51) (zy e (za ty3 e) (zb h fun y52 hy52 h=>zy e (zam (l:=y1.fields) e hI e sl85 hy52) (zy e (zE e GFld.f5 zjC e (z:=y52.group)) ?_))))))
  refine zy e (za ty3 e) (zy e (zP e e) (zau (zD (zf h e (fun _ h=>?_) (fun _ h=>?_)))))
  ·exact zaj (zX (zI (hJ49 _ () h _ (jn 12 e e))))
  refine wkf (wsr (oA e (oA e (rnf (zn (wsr (oM e (oV (zaq (l:=y50) e hI sl23) ?_))))))))
  refine oM e (rnf (zB (za4 (ι:=Bool × Bool × Int) (γ:=Unit) (fun q53 g53=>[(10,isv (q53.1)),(11,isv (q53.2.1)),(47,isv (q53.2.2))]) (fun q53 g53=>[]) h () (zd (j:=10) e hI (zd (j:=11) e hI (zd (j:=47) e hI ze))) .nil (fun L54 q53 g53 Q88 h hL54 eL54 rL54=>wsr (oV (zao e e) (rnf (zn (zf h e (fun _ h=>?_) (fun _ h=>?_)))))))))
  ·refine wkf (zn (zB (wsr (zb h fun y67 hy67 h=>oV (zam (l:=y50) e hI e sl23 hy67) (oV (za ty3 e) (oA e (rnf ?_)))))))
   refine wsr (oV (zE e Val.f3 zbl e (z:=a_v.l)) (oV (za ty43 e) (oM e (zb h fun y68 hy68 h=>oV (zam (l:=a_v.l) e hI e sl43 hy68) (oV (za ty46 e) (zb h fun y69 hy69 h=>oT (zx (ziJ hy69) hT (s1 e) .nil ?_)))))))
   refine oV (zaD e) (oA e (rnf (wsr (oM e (oM e (zQ (jb 61) je .nil h 2 e (fun q70 g70 h=>?_) (fun J71 h hJ71=>?_)))))))
   ·refine oA e (rnf (zr (oM e (oM e (zQ (jb 84) je .nil h 21 e (fun q73 g73 h=>?_) (fun J74 h hJ74=>?_))))))
    ·refine oA e (zG (zt (zD (zr (zJ h fun q84 h=>oV (zah e e q84) (oM e (zG ?_)))))))
     exact hL54 _ () h _ (zg 25 e e (zd (j:=10) e hI (zd (j:=11) e hI (zd (j:=47) e hI ze))) k1)
    refine zm (j:=63) h e (fun g75 h=>?_) (fun g75 h=>?_)
    ·refine oP 63 e e g75 (oP 63 e e g75 (oP 63 e e g75 (zk e (dj:=66) e (zk e (dj:=66) e (zk e (dj:=66) e (zk e (dj:=66) e (zk e (dj:=66) e (zk e (dj:=66) e ?_))))))))
     refine zk e (dj:=66) e (oP 63 e e g75 (oP 63 e e g75 (zk e (dj:=75) e (zk e (dj:=75) e (zk e (dj:=75) e (zk e (dj:=75) e (zk e (dj:=75) e (zk e (dj:=75) e ?_))))))))
     exact zk e (dj:=75) e (oP 63 e e g75 (oV (zi e g75 e) (hJ74 _ () h _ (jk 21 84 e e e))))
    refine oK 63 e e e g75 (zu e) (oK 63 e e e g75 (zaD e) (oK 63 e e e g75 (zu e) (zQ (jb 74) je .nil h 8 e (fun q76 g76 h=>?_) (fun J77 h hJ77=>?_))))
    ·refine oK 63 e e e g75 (zu e) (zQ (jb 83) je .nil h 8 e (fun q80 g80 h=>?_) (fun J81 h hJ81=>?_))
     ·exact oV (zj e g75 e) (hJ74 _ () h _ (jk 7 84 e e e))
     refine zm (j:=75) h e (fun g82 h=>?_) (fun g82 h=>?_)
     ·refine oK 75 e e e g82 (zE e GTyp.f4 za2 e (z:=y1.fields)) (oK 75 e e e g82 (za ty85 e) (oK 75 e e e g82 (zu e) (zb h fun y83 hy83 h=>oK 75 e e e g82 (zam (l:=y1.fields) e hI e sl85 hy83) (oK 75 e e e g82 (zE e GFld.f3 zhL e (z:=y83.has)) (oK 75 e e e g82 (za ty4 e) (oK 75 e e e g82 (zaD e) (oK 63 e e e g75 (zi e g82 e) ?_)))))))
      exact hJ81 _ () h _ (jk 8 83 e e e)
     exact oP 75 e e g82 (oP 75 e e g82 (oP 75 e e g82 (oP 75 e e g82 (oP 75 e e g82 (oP 75 e e g82 (oP 75 e e g82 (oK 63 e e e g75 (zj e g82 e) (hJ81 _ () h _ (jk 8 83 e e e)))))))))
    refine zm (j:=66) h e (fun g78 h=>?_) (fun g78 h=>?_)
    ·refine oK 66 e e e g78 (zE e GTyp.f4 za2 e (z:=y1.fields)) (oK 66 e e e g78 (za ty85 e) (oK 66 e e e g78 (zu e) (zb h fun y79 hy79 h=>oK 66 e e e g78 (zam (l:=y1.fields) e hI e sl85 hy79) (oK 66 e e e g78 (zE e GFld.f2 zkz e (z:=y79.optional)) (oK 66 e e e g78 (za ty4 e) (oK 66 e e e g78 (zaD e) (oK 63 e e e g75 (zi e g78 e) ?_)))))))
     exact hJ77 _ () h _ (jk 8 74 e e e)
    exact oP 66 e e g78 (oP 66 e e g78 (oP 66 e e g78 (oP 66 e e g78 (oP 66 e e g78 (oP 66 e e g78 (oP 66 e e g78 (oK 63 e e e g75 (zj e g78 e) (hJ77 _ () h _ (jk 8 74 e e e)))))))))
   refine zm (j:=59) h e (fun g72 h=>?_) (fun g72 h=>?_)
   ·exact oP 59 e e g72 (oV (zi e g72 e) (hJ71 _ () h _ (jk 2 61 e e e)))
   exact oK 59 e e e g72 (zu e) (oV (zj e g72 e) (hJ71 _ () h _ (jk 2 61 e e e)))
  refine zaj (zX (eL54 _ _ (zI (zD (wsr (oM e (oM e (zQ (jb 89) je .nil h 2 e (fun q85 g85 h=>?_) (fun J86 h hJ86=>?_)))))))))
  ·refine rnf (zf h e (fun _ h=>?_) (fun _ h=>?_))
   ·refine wsr (oA e (rnf (zA (zw (zo (rL5 _ (zw (zo ?_))))))))
    cases h
    exact zh (.tmp e .nil) k1 ⟨e,e⟩
   exact zZ (zt (hJ49 _ () h _ (jn 24 e e)))
  refine zm (j:=87) h e (fun g87 h=>?_) (fun g87 h=>?_)
  ·exact oK 87 e e e g87 (zu e) (oV (zi e g87 e) (hJ86 _ () h _ (jk 2 89 e e e)))
  exact oP 87 e e g87 (oV (zj e g87 e) (hJ86 _ () h _ (jk 2 89 e e e)))
 refine zaj (zX (eL5 _ _ (zI (zD (wsr (oA e (rnf (zA ?_))))))))
 cases h
 exact zh (.tmp e .nil) k1 ⟨e,e⟩


def za8 (f':Val→GChk→GTyp→Int→Option (Bool × GChk)):Prop :=
 ∀ {a_w_:Val} {a_a1:GChk} {a_a2:GTyp} {a_a3:Int} {zdv:Nat} {r:Bool × GChk},f' a_w_ a_a1 a_a2 a_a3=some r→Ctr Tryz.prog 124 [isv (a_w_),immv (PtrB.mk zdv),immv (a_a2),immv (a_a3)] [boxE zdv (a_a1:GChk)] (fun R H=>R=oneOf [isv (r.1)]∧H=[boxE zdv (r.2)])
def zbd (f':GChk→Int→Val→Int→Option (Bool × GChk)):Prop :=
 ∀ {a_c:GChk} {a_i:Int} {a_v:Val} {zH:Int} {za0:Nat} {r:Bool × GChk},f' a_c a_i a_v zH=some r→Ctr Tryz.prog 55 [ptrv za0 (Fld.id GChk),isv (a_i),isv (a_v),isv (zH)] [boxE za0 (a_c:GChk)] (fun R H=>R=oneOf [isv (r.1)]∧H=[boxE za0 (r.2)])
def zbx (f':GChk→GTyp→Val→Int→Option (Bool × GChk)):Prop :=
 ∀ {a_c:GChk} {a_x:GTyp} {a_v:Val} {zH:Int} {za0:Nat} {r:Bool × GChk},f' a_c a_x a_v zH=some r→Ctr Tryz.prog 87 [ptrv za0 (Fld.id GChk),isv (a_x),isv (a_v),isv (zH)] [boxE za0 (a_c:GChk)] (fun R H=>R=oneOf [isv (r.1)]∧H=[boxE za0 (r.2)])
def zat (f':(List Val)→GChk→GTyp→Int→Option (Bool × GChk)):Prop :=
 ∀ {a_s:(List Val)} {zce:GChk} {zcL:GTyp} {zfJ:Int} {zbr:Nat} {r:Bool × GChk},f' a_s zce zcL zfJ=some r→Ctr Tryz.prog 123 [isv (a_s),clov 124 [immv (PtrB.mk zbr),immv (zcL),immv (zfJ)]] [boxE zbr (zce:GChk)] (fun R H=>R=oneOf [isv (r.1)]∧H=[boxE zbr (r.2)])
def zax (f':(List Val)→GChk→GTyp→Int→Option (Int × GChk)):Prop :=
 ∀ {a_s:(List Val)} {zce:GChk} {zcL:GTyp} {zfJ:Int} {zbr:Nat} {r:Int × GChk},f' a_s zce zcL zfJ=some r→Ctr Tryz.prog 163 [isv (a_s),clov 124 [immv (PtrB.mk zbr),immv (zcL),immv (zfJ)]] [boxE zbr (zce:GChk)] (fun R H=>R=oneOf [isv (r.1)]∧H=[boxE zbr (r.2)])
def zbe (f':GChk→Int→Val→Int→Option (Bool × GChk)):Prop :=
 ∀ {a_c:GChk} {a_i:Int} {a_v:Val} {zH:Int} {za0:Nat} {r:Bool × GChk},f' a_c a_i a_v zH=some r→Ctr Tryz.prog 88 [ptrv za0 (Fld.id GChk),isv (a_i),isv (a_v),isv (zH)] [boxE za0 (a_c:GChk)] (fun R H=>R=oneOf [isv (r.1)]∧H=[boxE za0 (r.2)])
theorem zgY {zV:Val→GChk→GTyp→Int→Option (Bool × GChk)} {zaa:GChk→Int→Val→Int→Option (Bool × GChk)} {zaf:GChk→GTyp→Val→Int→Option (Bool × GChk)} {zC:(List Val)→GChk→GTyp→Int→Option (Bool × GChk)} {zF:(List Val)→GChk→GTyp→Int→Option (Int × GChk)} {z6:GChk→Int→Val→Int→Option (Bool × GChk)} (zbw:za8 zV) (zbc:zbd zaa) (zbP:zbx zaf) (zaz:zat zC) (zaF:zax zF) (zbB:zbe z6):∀ {a_w_:Val} {a_a1:GChk} {a_a2:GTyp} {a_a3:Int} {zdv:Nat} {r:Bool × GChk},zbR zV zaa zaf zC zF z6 a_w_ a_a1 a_a2 a_a3=some r→Ctr Tryz.prog 124 [isv (a_w_),immv (PtrB.mk zdv),immv (a_a2),immv (a_a3)] [boxE zdv (a_a1:GChk)] (fun R H=>R=oneOf [isv (r.1)]∧H=[boxE zdv (r.2)]):=by
 intro a_w_ a_a1 a_a2 a_a3 zdv r h
 unfold zbR at h
 refine zq Tryz.func124 e fun w0 S0 hT=>wsr (oT (zai (y:=a_w_) e hI (oA e (rnf (wsr (oV (zlw (α:=GChk) ty99 e) (oV (zE e GTyp.f7 zoT e (z:=a_a2.of)) (oV (za ty3 e) ?_))))))))
 refine oV (za ty46 e) (oV (za ty3 e) (zJ h fun q1 h=>oV (zah e e q1) (zb h fun y2 hy2 h=>oT (zx (zbc hy2) hT (s4 e e e e) k1 (oV (zaD e) (oA e (rnf ?_)))))))
 refine zA ?_
 cases h
 exact zh (.tmp e .nil) k1 ⟨e,e⟩

theorem zic {zV:Val→GChk→GTyp→Int→Option (Bool × GChk)} {zaa:GChk→Int→Val→Int→Option (Bool × GChk)} {zaf:GChk→GTyp→Val→Int→Option (Bool × GChk)} {zC:(List Val)→GChk→GTyp→Int→Option (Bool × GChk)} {zF:(List Val)→GChk→GTyp→Int→Option (Int × GChk)} {z6:GChk→Int→Val→Int→Option (Bool × GChk)} (zbw:za8 zV) (zbc:zbd zaa) (zbP:zbx zaf) (zaz:zat zC) (zaF:zax zF) (zbB:zbe z6):∀ {a_c:GChk} {a_i:Int} {a_v:Val} {zH:Int} {za0:Nat} {r:Bool × GChk},zcf zV zaa zaf zC zF z6 a_c a_i a_v zH=some r→Ctr Tryz.prog 55 [ptrv za0 (Fld.id GChk),isv (a_i),isv (a_v),isv (zH)] [boxE za0 (a_c:GChk)] (fun R H=>R=oneOf [isv (r.1)]∧H=[boxE za0 (r.2)]):=by
 intro a_c a_i a_v zH za0 r h
 unfold zcf at h
 refine zq Tryz.func55 e fun w0 S0 hT=>wsr (oT (zai (y:=a_v) e hI (oA e (rnf (zn (wsr (oM e (oV (zao e e) ?_))))))))
 refine oM e (zQ (jb 22) je .nil h 10 e (fun q1 g1 h=>?_) (fun J2 h hJ2=>?_))
 ·refine oM e (zQ (jb 26) je .nil h 3 e (fun q4 g4 h=>?_) (fun J5 h hJ5=>?_))
  ·refine rnf (zf h e (fun _ h=>?_) (fun _ h=>?_))
   ·refine wsr (oA e (rnf (zA (zo ?_))))
    cases h
    exact zh (.tmp e .nil) k1 ⟨e,e⟩
   refine wkf (wsr (oM e (oV (zz e) (oV (zae e GChk.f0 zeO) (oV (zae e GTbd.f0 zeM) (oV (zae e GTab.f3 zca) (oT (zK (R:=isv (a_c.tabled.t.types)) ty24 e .here hI (oM e ?_)))))))))
   refine zb h fun y7 hy7 h=>oV (zam (l:=a_c.tabled.t.types) e hI e sl24 hy7) (oV (za ty87 e) (oT (zac _ ze87 fun b8=>oT (zp (y':=(y7:GTyp)) ty87 e e hI .here e (zY (zaE 9 .here e) (rnf (zn (wsr ?_))))))))
   refine oV (zE e Val.f0 zbU e (z:=a_v.kind)) (oV (za ty3 e) (oV (zP e e) (rnf (zf h e (fun _ h=>?_) (fun _ h=>?_)))))
   ·refine wsr (oM e (oM e (oV (za ty46 e) (zb h fun y9 hy9 h=>oT (zx (zg8 hy9) hT (s3 e e e) k1 (oA e (rnf (zA ?_))))))))
    refine zo ?_
    cases h
    exact zh (.tmp e .nil) k1 ⟨e,e⟩
   refine wkf (zn (wsr (oV (zE e Val.f0 zbU e (z:=a_v.kind)) (oV (za ty3 e) (oV (zE e GTyp.f0 zbI e (z:=y7.kind)) (oV (za ty3 e) (oV (zaV e e) (rnf ?_))))))))
   refine zf h e (fun _ h=>?_) (fun _ h=>?_)
   ·refine wsr (oA e (rnf (zA (zo ?_))))
    cases h
    exact zh (.tmp e .nil) k1 ⟨e,e⟩
   refine wkf (zn (wsr (oV (zE e GTyp.f0 zbI e (z:=y7.kind)) (oV (za ty3 e) (rnf (zB (wsr (oV (zP e e) ?_))))))))
   refine oA e (rnf (zf h e (fun _ h=>?_) (fun _ h=>?_)))
   ·refine wsr (oV (za ty46 e) (zb h fun y10 hy10 h=>oT (zx (zb9 hy10) hT (s2 e e) .nil (oM e (zQ (jb 63) je .nil h 9 e (fun q11 g11 h=>?_) (fun J12 h hJ12=>?_))))))
    ·refine oA e (rnf (zA (zw (zo ?_))))
     cases h
     exact zh (.tmp e .nil) k1 ⟨e,e⟩
    refine zm (j:=54) h e (fun g13 h=>?_) (fun g13 h=>?_)
    ·refine oK 54 e e e g13 (zE e Val.f1 zbk e (z:=a_v.n)) (oK 54 e e e g13 (za ty2 e) (oK 54 e e e g13 (zP e e) (oK 54 e e e g13 (zu e) (zQ (jb 62) je .nil h 4 e (fun q14 g14 h=>?_) (fun J15 h hJ15=>?_)))))
     ·exact oV (zi e g13 e) (hJ12 _ () h _ (jk 6 63 e e e))
     refine zm (j:=58) h e (fun g16 h=>?_) (fun g16 h=>?_)
     ·exact oP 58 e e g16 (oP 58 e e g16 (oP 58 e e g16 (oK 54 e e e g13 (zi e g16 e) (hJ15 _ () h _ (jk 4 62 e e e)))))
     exact oK 58 e e e g16 (zE e Val.f1 zbk e (z:=a_v.n)) (oK 58 e e e g16 (za ty2 e) (oK 58 e e e g16 (zP e e) (oK 54 e e e g13 (zj e g16 e) (hJ15 _ () h _ (jk 4 62 e e e)))))
    refine oP 54 e e g13 (oP 54 e e g13 (oP 54 e e g13 (oP 54 e e g13 (zk e (dj:=58) e (zk e (dj:=58) e (zk e (dj:=58) e (oP 54 e e g13 (oV (zj e g13 e) ?_))))))))
    exact hJ12 _ () h _ (jk 9 63 e e e)
   refine wsr (oV (zP e e) (oA e (rnf (zf h e (fun _ h=>?_) (fun _ h=>?_)))))
   ·refine wsr (oV (za ty46 e) (zb h fun y17 hy17 h=>oT (zx (zb9 hy17) hT (s2 e e) .nil (oM e (zQ (jb 79) je .nil h 11 e (fun q18 g18 h=>?_) (fun J19 h hJ19=>?_))))))
    ·refine oA e (rnf (zA (zw (zo ?_))))
     cases h
     exact zh (.tmp e .nil) k1 ⟨e,e⟩
    refine zm (j:=68) h e (fun g20 h=>?_) (fun g20 h=>?_)
    ·refine oK 68 e e e g20 (zE e GTyp.f2 zeu e (z:=y7.con)) (oK 68 e e e g20 (zE e GCon.f3 zjB e (z:=y7.con.more)) (oK 68 e e e g20 (za ty4 e) (oK 68 e e e g20 (zu e) (zQ (jb 78) je .nil h 6 e (fun q21 g21 h=>?_) (fun J22 h hJ22=>?_)))))
     ·exact oV (zi e g20 e) (hJ19 _ () h _ (jk 6 79 e e e))
     refine zm (j:=72) h e (fun g23 h=>?_) (fun g23 h=>?_)
     ·exact oP 72 e e g23 (oP 72 e e g23 (oP 72 e e g23 (oP 72 e e g23 (oP 72 e e g23 (oK 68 e e e g20 (zi e g23 e) (hJ22 _ () h _ (jk 6 78 e e e)))))))
     exact oK 72 e e e g23 (zE e GTyp.f2 zeu e (z:=y7.con)) (oK 72 e e e g23 (za ty83 e) (oK 72 e e e g23 (zE e Val.f1 zbk e (z:=a_v.n)) (oK 72 e e e g23 (za ty2 e) (zb h fun y24 hy24 h=>zad e e (dj:=72) e g23 (zx (zfV hy24) hT (s2 e e) .nil (oK 68 e e e g20 (zj e g23 e) (hJ22 _ () h _ (jk 6 78 e e e))))))))
    refine oP 68 e e g20 (oP 68 e e g20 (oP 68 e e g20 (oP 68 e e g20 (zk e (dj:=72) e (zk e (dj:=72) e (zk e (dj:=72) e (zk e (dj:=72) e (zk e (dj:=72) e ?_))))))))
    exact oP 68 e e g20 (oV (zj e g20 e) (hJ19 _ () h _ (jk 11 79 e e e)))
   refine wsr (oV (zP e e) (oA e (rnf (zf h e (fun _ h=>?_) (fun _ h=>?_)))))
   ·refine wsr (oV (za ty46 e) (zb h fun y25 hy25 h=>oT (zx (zb9 hy25) hT (s2 e e) .nil (oM e (zQ (jb 90) je .nil h 6 e (fun q26 g26 h=>?_) (fun J27 h hJ27=>?_))))))
    ·refine oA e (rnf (zA (zw (zo ?_))))
     cases h
     exact zh (.tmp e .nil) k1 ⟨e,e⟩
    refine zm (j:=84) h e (fun g28 h=>?_) (fun g28 h=>?_)
    ·exact oK 84 e e e g28 (za ty87 e) (oK 84 e e e g28 (zE e Val.f1 zbk e (z:=a_v.n)) (oK 84 e e e g28 (za ty2 e) (zb h fun y29 hy29 h=>zad e e (dj:=84) e g28 (zx (zkh hy29) hT (s2 e e) .nil (oK 84 e e e g28 (zck e e) (oV (zi e g28 e) (hJ27 _ () h _ (jk 6 90 e e e))))))))
    exact oP 84 e e g28 (oP 84 e e g28 (oP 84 e e g28 (oP 84 e e g28 (oP 84 e e g28 (oV (zj e g28 e) (hJ27 _ () h _ (jk 6 90 e e e)))))))
   refine wsr (oV (zP e e) (oA e (rnf (zf h e (fun _ h=>?_) (fun _ h=>?_)))))
   ·refine wsr (oV (za ty46 e) (zb h fun y30 hy30 h=>oT (zx (zb9 hy30) hT (s2 e e) .nil (oA e (rnf (zA (zw (zo ?_))))))))
    cases h
    exact zh (.tmp e .nil) k1 ⟨e,e⟩
   refine zn (wsr (oV (zP e e) (oA e (rnf (zdF (jb 95) je .nil h (fun q31 g31 h=>?_) (fun J32 h hJ32=>?_))))))
   ·refine zf h e (fun _ h=>?_) (fun _ h=>?_)
    ·refine wsr (oM e (oV (za ty87 e) (oV (za ty46 e) (zb h fun y33 hy33 h=>oT (zx (zhA hy33) hT (s3 e e e) k1 (oA e (rnf (zA ?_))))))))
     refine zw (zo ?_)
     cases h
     exact zh (.tmp e .nil) k1 ⟨e,e⟩
    refine wsr (oV (zP e e) (oA e (rnf (zf h e (fun _ h=>?_) (fun _ h=>?_)))))
    ·refine wsr (oM e (oV (za ty87 e) (oV (za ty46 e) (oM e (zb h fun y34 hy34 h=>oT (zx (zbP hy34) hT (s4 e e e e) k1 (oA e (rnf ?_))))))))
     refine zA (zw (zo ?_))
     cases h
     exact zh (.tmp e .nil) k1 ⟨e,e⟩
    refine wsr (oV (zP e e) (oA e (rnf (zf h e (fun _ h=>?_) (fun _ h=>?_)))))
    ·refine zn (z8 (.v 0 (.t 1 (.v 2 (.v 3 (.v 4 (.v 5 (.v 6 (.v 7 (.v 8 (.v 9 (.v 10 (.v 11 (.v 12 (.v 13 (.v 14 (.v 15 (.v 16 (.v 17 (.v 18 (.v 19 (.v 20 (.v 21 (.v 22 (.v 23 (.v 24 (.v 25 (.v 26 (.v 27 (.v 28 (.v 29 (.v 30 (.v 31 (.v 32 (.v 33 (.v 34 (.v 35 (.t 36 (.v 37 (.v 38 .nil))))))))))))))))))))))))))))))))))))))) moOrd (by kernel_rfl) ?_)
     refine zy e (za ty46 e) (zb h fun y35 hy35 h=>zay e e (zx (zb9 hy35) hT (s2 e e) .nil (rvm e e (zcZ (jb 117) je .nil h 4 e (fun q36 g36 h=>?_) (fun J37 h hJ37=>?_)))))
     ·refine rvm e e (zcZ (jb 125) je .nil h 7 e (fun q39 g39 h=>?_) (fun J40 h hJ40=>?_))
      ·refine rvm e e (zcZ (jb 131) je .nil h 5 e (fun q42 g42 h=>?_) (fun J43 h hJ43=>?_))
       ·refine rvm e e (zcZ (ι:=Bool × GChk) (γ:=Unit) (fun q45 g45=>[(148,isv (q45.1))]) (fun q45 g45=>[boxE za0 (q45.2:GChk)]) k1 h 16 e (fun q45 g45 h=>?_) (fun J46 h hJ46=>?_))
        ·refine zy e (zaI e) (zau (zD (zA (zw (zo ?_)))))
         cases h
         exact zh (.tmp e .nil) k1 ⟨e,e⟩
        refine zaG (j:=132) h e (fun g47 h=>?_) (fun g47 h=>?_)
        ·refine rvt 132 e e e g47 (zu e) (rvt 132 e e e g47 (zE e GTyp.f4 za2 e (z:=y7.fields)) (rvt 132 e e e g47 (za ty85 e) (rvt 132 e e e g47 (zE e Val.f1 zbk e (z:=a_v.n)) (rvt 132 e e e g47 (za ty2 e) (zb h fun y48 hy48 h=>rvt 132 e e e g47 (zam (l:=y7.fields) e hI e sl85 hy48) (rvt 132 e e e g47 (zE e GFld.f1 zdb e (z:=y48.ty)) (rvt 132 e e e g47 (za ty3 e) ?_)))))))
         refine rvt 132 e e e g47 (zE e Val.f3 zbl e (z:=a_v.l)) (rvt 132 e e e g47 (za ty43 e) (zb h fun y49 hy49 h=>rvt 132 e e e g47 (zam (l:=a_v.l) e hI e sl43 hy49) (rvt 132 e e e g47 (za ty46 e) (rvt 132 e e e g47 (zu e) (zJ h fun q50 h=>rvt 132 e e e g47 (zah e e q50) (zb h fun y51 hy51 h=>?_))))))
         exact zfW e e e (dj:=132) e g47 (zx (zbc hy51) hT (s4 e e e e) k1 (zy e (zi e g47 e) (hJ46 _ () h _ (jk 16 148 e e e))))
        refine rpv 132 e e e g47 (rpv 132 e e e g47 (rpv 132 e e e g47 (rpv 132 e e e g47 (rpv 132 e e e g47 (rpv 132 e e e g47 (rpv 132 e e e g47 (rpv 132 e e e g47 (rpv 132 e e e g47 ?_))))))))
        exact rpv 132 e e e g47 (rpv 132 e e e g47 (rpv 132 e e e g47 (rpv 132 e e e g47 (rpv 132 e e e g47 (zcp e e (dj:=132) e g47 (zy e (zj e g47 e) (hJ46 _ () h _ (jk 16 148 e e e))))))))
       refine zaG (j:=126) h e (fun g44 h=>?_) (fun g44 h=>?_)
       ·exact rvt 126 e e e g44 (zE e Val.f3 zbl e (z:=a_v.l)) (rvt 126 e e e g44 (za ty43 e) (rvt 126 e e e g44 (zaq (l:=a_v.l) e hI sl43) (rvt 126 e e e g44 (zP e e) (zy e (zi e g44 e) (hJ43 _ () h _ (jk 5 131 e e e))))))
       exact rpv 126 e e e g44 (rpv 126 e e e g44 (rpv 126 e e e g44 (rpv 126 e e e g44 (zy e (zj e g44 e) (hJ43 _ () h _ (jk 5 131 e e e))))))
      refine zaG (j:=118) h e (fun g41 h=>?_) (fun g41 h=>?_)
      ·exact rvt 118 e e e g41 (zE e Val.f1 zbk e (z:=a_v.n)) (rvt 118 e e e g41 (za ty2 e) (rvt 118 e e e g41 (zE e GTyp.f4 za2 e (z:=y7.fields)) (rvt 118 e e e g41 (za ty85 e) (rvt 118 e e e g41 (zaq (l:=y7.fields) e hI sl85) (rvt 118 e e e g41 (zao e e) (zy e (zi e g41 e) (hJ40 _ () h _ (jk 7 125 e e e))))))))
      exact rpv 118 e e e g41 (rpv 118 e e e g41 (rpv 118 e e e g41 (rpv 118 e e e g41 (rpv 118 e e e g41 (rpv 118 e e e g41 (zy e (zj e g41 e) (hJ40 _ () h _ (jk 7 125 e e e))))))))
     refine zaG (j:=113) h e (fun g38 h=>?_) (fun g38 h=>?_)
     ·exact rvt 113 e e e g38 (zE e Val.f1 zbk e (z:=a_v.n)) (rvt 113 e e e g38 (za ty2 e) (rvt 113 e e e g38 (zck e e) (zy e (zi e g38 e) (hJ37 _ () h _ (jk 4 117 e e e)))))
     exact rpv 113 e e e g38 (rpv 113 e e e g38 (rpv 113 e e e g38 (zy e (zj e g38 e) (hJ37 _ () h _ (jk 4 117 e e e)))))
    refine zn (wsr (oV (zP e e) (oA e (rnf (zdF (jb 149) je .nil h (fun q52 g52 h=>?_) (fun J53 h hJ53=>?_))))))
    ·refine zf h e (fun _ h=>?_) (fun _ h=>?_)
     ·refine wsr (oM e (oM e (oV (za ty46 e) (oM e (zb h fun y54 hy54 h=>oT (zx (zbB hy54) hT (s4 e e e e) k1 (oA e (rnf ?_))))))))
      refine zA (zw (zo ?_))
      cases h
      exact zh (.tmp e .nil) k1 ⟨e,e⟩
     refine zZ (zt (zD (wsr (oA e (rnf (zA ?_))))))
     cases h
     exact zh (.tmp e .nil) k1 ⟨e,e⟩
    refine zf h e (fun _ h=>?_) (fun _ h=>?_)
    ·exact zZ (hJ53 _ () h _ (jk 0 149 e e e))
    exact zr (oV (zP e e) (oA e (zG (hJ53 _ () h _ (jk 2 149 e e e)))))
   refine zf h e (fun _ h=>?_) (fun _ h=>?_)
   ·exact zZ (hJ32 _ () h _ (jk 0 95 e e e))
   exact zr (oV (zP e e) (oA e (zG (hJ32 _ () h _ (jk 2 95 e e e)))))
  refine zm (j:=23) h e (fun g6 h=>?_) (fun g6 h=>?_)
  ·exact oP 23 e e g6 (oP 23 e e g6 (oV (zi e g6 e) (hJ5 _ () h _ (jk 3 26 e e e))))
  exact oK 23 e e e g6 (zu e) (oK 23 e e e g6 (zbn e e) (oV (zj e g6 e) (hJ5 _ () h _ (jk 3 26 e e e))))
 refine zm (j:=12) h e (fun g3 h=>?_) (fun g3 h=>?_)
 ·refine oP 12 e e g3 (oP 12 e e g3 (oP 12 e e g3 (oP 12 e e g3 (oP 12 e e g3 (oP 12 e e g3 (oP 12 e e g3 (oP 12 e e g3 (oP 12 e e g3 ?_))))))))
  exact oV (zi e g3 e) (hJ2 _ () h _ (jk 10 22 e e e))
 refine oK 12 e e e g3 (zu e) (oK 12 e e e g3 (zu e) (oK 12 e e e g3 (zz e) (oK 12 e e e g3 (zae e GChk.f0 zeO) (oK 12 e e e g3 (zae e GTbd.f0 zeM) (oK 12 e e e g3 (zae e GTab.f3 zca) (zad e e (dj:=12) e g3 (zK (R:=isv (a_c.tabled.t.types)) ty24 e .here hI (oK 12 e e e g3 (zaq (l:=a_c.tabled.t.types) e hI sl24) (oK 12 e e e g3 (zck e e) ?_)))))))))
 exact oV (zj e g3 e) (hJ2 _ () h _ (jk 10 22 e e e))

theorem zie {zV:Val→GChk→GTyp→Int→Option (Bool × GChk)} {zaa:GChk→Int→Val→Int→Option (Bool × GChk)} {zaf:GChk→GTyp→Val→Int→Option (Bool × GChk)} {zC:(List Val)→GChk→GTyp→Int→Option (Bool × GChk)} {zF:(List Val)→GChk→GTyp→Int→Option (Int × GChk)} {z6:GChk→Int→Val→Int→Option (Bool × GChk)} (zbw:za8 zV) (zbc:zbd zaa) (zbP:zbx zaf) (zaz:zat zC) (zaF:zax zF) (zbB:zbe z6):∀ {a_c:GChk} {a_x:GTyp} {a_v:Val} {zH:Int} {za0:Nat} {r:Bool × GChk},zcc zV zaa zaf zC zF z6 a_c a_x a_v zH=some r→Ctr Tryz.prog 87 [ptrv za0 (Fld.id GChk),isv (a_x),isv (a_v),isv (zH)] [boxE za0 (a_c:GChk)] (fun R H=>R=oneOf [isv (r.1)]∧H=[boxE za0 (r.2)]):=by
 intro a_c a_x a_v zH za0 r h
 unfold zcc at h
 refine zq Tryz.func87 e fun w0 S0 hT=>wsr (oT (zai (y:=PtrB.mk za0) e zpm (oT (zai (y:=a_x) e hI (oT (zai (y:=a_v) e hI (oT (zai (y:=zH) e hI (oA e (rnf (wsr ?_)))))))))))
 refine oV (za ty46 e) (zb h fun y1 hy1 h=>oT (zx (zb9 hy1) hT (s2 e e) .nil (oM e (zQ (jb 23) je .nil h 12 e (fun q2 g2 h=>?_) (fun J3 h hJ3=>?_)))))
 ·refine oM e (zQ (ι:=Bool × GChk) (γ:=Unit) (fun q9 g9=>[(30,isv (q9.1))]) (fun q9 g9=>[boxE za0 (q9.2:GChk)]) k1 h 6 e (fun q9 g9 h=>?_) (fun J10 h hJ10=>?_))
  ·refine oA e (rnf (zA ?_))
   cases h
   exact zh (.tmp e .nil) k1 ⟨e,e⟩
  refine zm (j:=24) h e (fun g11 h=>?_) (fun g11 h=>?_)
  ·exact oK 24 e e e g11 (zE e Val.f3 zbl e (z:=a_v.l)) (oK 24 e e e g11 (za ty43 e) (oK 24 e e e g11 (zhP (s3 e e e)) (zb h fun y12 hy12 h=>zad e e (dj:=24) e g11 (zx (zaz hy12) hT (s2 e e) k1 (oK 24 e e e g11 (zaD e) (oV (zi e g11 e) (hJ10 _ () h _ (jk 6 30 e e e))))))))
  exact oP 24 e e g11 (oP 24 e e g11 (oP 24 e e g11 (oP 24 e e g11 (oP 24 e e g11 (oV (zj e g11 e) (hJ10 _ () h _ (jk 6 30 e e e)))))))
 refine zm (j:=11) h e (fun g4 h=>?_) (fun g4 h=>?_)
 ·refine oK 11 e e e g4 (zE e GTyp.f2 zeu e (z:=a_x.con)) (oK 11 e e e g4 (zE e GCon.f3 zjB e (z:=a_x.con.more)) (oK 11 e e e g4 (za ty4 e) (oK 11 e e e g4 (zu e) (zQ (jb 22) je .nil h 7 e (fun q5 g5 h=>?_) (fun J6 h hJ6=>?_)))))
  ·exact oV (zi e g4 e) (hJ3 _ () h _ (jk 6 23 e e e))
  refine zm (j:=15) h e (fun g7 h=>?_) (fun g7 h=>?_)
  ·exact oP 15 e e g7 (oP 15 e e g7 (oP 15 e e g7 (oP 15 e e g7 (oP 15 e e g7 (oP 15 e e g7 (oK 11 e e e g4 (zi e g7 e) (hJ6 _ () h _ (jk 7 22 e e e))))))))
  exact oK 15 e e e g7 (zE e GTyp.f2 zeu e (z:=a_x.con)) (oK 15 e e e g7 (za ty83 e) (oK 15 e e e g7 (zE e Val.f3 zbl e (z:=a_v.l)) (oK 15 e e e g7 (za ty43 e) (oK 15 e e e g7 (zaq (l:=a_v.l) e hI sl43) (zb h fun y8 hy8 h=>zad e e (dj:=15) e g7 (zx (zfV hy8) hT (s2 e e) .nil (oK 11 e e e g4 (zj e g7 e) (hJ6 _ () h _ (jk 7 22 e e e)))))))))
 refine oP 11 e e g4 (oP 11 e e g4 (oP 11 e e g4 (oP 11 e e g4 (zk e (dj:=15) e (zk e (dj:=15) e (zk e (dj:=15) e (zk e (dj:=15) e (zk e (dj:=15) e ?_))))))))
 exact zk e (dj:=15) e (oP 11 e e g4 (oV (zj e g4 e) (hJ3 _ () h _ (jk 12 23 e e e))))

theorem zdd {zV:Val→GChk→GTyp→Int→Option (Bool × GChk)} {zaa:GChk→Int→Val→Int→Option (Bool × GChk)} {zaf:GChk→GTyp→Val→Int→Option (Bool × GChk)} {zC:(List Val)→GChk→GTyp→Int→Option (Bool × GChk)} {zF:(List Val)→GChk→GTyp→Int→Option (Int × GChk)} {z6:GChk→Int→Val→Int→Option (Bool × GChk)} (zbw:za8 zV) (zbc:zbd zaa) (zbP:zbx zaf) (zaz:zat zC) (zaF:zax zF) (zbB:zbe z6):∀ {a_s:(List Val)} {zce:GChk} {zcL:GTyp} {zfJ:Int} {zbr:Nat} {r:Bool × GChk},zaK zV zaa zaf zC zF z6 a_s zce zcL zfJ=some r→Ctr Tryz.prog 123 [isv (a_s),clov 124 [immv (PtrB.mk zbr),immv (zcL),immv (zfJ)]] [boxE zbr (zce:GChk)] (fun R H=>R=oneOf [isv (r.1)]∧H=[boxE zbr (r.2)]):=by
 intro a_s zce zcL zfJ zbr r h
 unfold zaK at h
 refine zq Tryz.func123 e fun w0 S0 hT=>wsr (oA e (rnf (wsr (oM e (oM e (zb h fun y1 hy1 h=>oT (zx (zaF hy1) hT (s2 e e) k1 ?_)))))))
 refine oV (zck e e) (oA e (rnf (zA ?_)))
 cases h
 exact zh (.tmp e .nil) k1 ⟨e,e⟩

theorem zdu {zV:Val→GChk→GTyp→Int→Option (Bool × GChk)} {zaa:GChk→Int→Val→Int→Option (Bool × GChk)} {zaf:GChk→GTyp→Val→Int→Option (Bool × GChk)} {zC:(List Val)→GChk→GTyp→Int→Option (Bool × GChk)} {zF:(List Val)→GChk→GTyp→Int→Option (Int × GChk)} {z6:GChk→Int→Val→Int→Option (Bool × GChk)} (zbw:za8 zV) (zbc:zbd zaa) (zbP:zbx zaf) (zaz:zat zC) (zaF:zax zF) (zbB:zbe z6):∀ {a_s:(List Val)} {zce:GChk} {zcL:GTyp} {zfJ:Int} {zbr:Nat} {r:Int × GChk},zaP zV zaa zaf zC zF z6 a_s zce zcL zfJ=some r→Ctr Tryz.prog 163 [isv (a_s),clov 124 [immv (PtrB.mk zbr),immv (zcL),immv (zfJ)]] [boxE zbr (zce:GChk)] (fun R H=>R=oneOf [isv (r.1)]∧H=[boxE zbr (r.2)]):=by
 intro a_s zce zcL zfJ zbr r h
 unfold zaP at h
 refine zq Tryz.func163 e fun w0 S0 hT=>wsr (oA e (rnf (zn (wsr (oM e (oV (zaq (l:=a_s) e hI sl43) (oM e ?_)))))))
 refine rnf (zB (za4 (ι:=Int × GChk) (γ:=Unit) (fun q1 g1=>[(8,isv (q1.1))]) (fun q1 g1=>[boxE zbr (q1.2:GChk)]) h () (zd (j:=8) e hI ze) k1 (fun L2 q1 g1 Q9 h hL2 eL2 rL2=>wsr (oV (zao e e) (rnf (zn (zf h e (fun _ h=>?_) (fun _ h=>?_))))))))
 ·refine wkf (zn (zB (wsr (oM e (oA e (rnf (wsr (oM e ?_))))))))
  refine oM e (oM e (zb h fun y6 hy6 h=>oV (zam (l:=a_s) e hI e sl43 hy6) (oV (za ty46 e) (zb h fun y7 hy7 h=>oT (zgF e (s1 e) (zbw hy7) hT k1 (fun R H' hR=>?_))))))
  obtain ⟨rfl,rfl⟩:=hR
  refine rnf (zf h e (fun _ h=>?_) (fun _ h=>?_))
  ·refine wsr (oM e (oA e (rnf (zA (zw (zo (rL2 _ (zw ?_))))))))
   refine zo ?_
   cases h
   exact zh (.tmp e .nil) k1 ⟨e,e⟩
  exact zZ (zt (zD (zr (zJ h fun q8 h=>oV (zah e e q8) (oM e (zG (hL2 _ () h _ (jk 12 8 e e e))))))))
 refine zaj (zX (eL2 _ _ (zI (zD (wsr (oA e (rnf (zA ?_))))))))
 cases h
 exact zh (.tmp e .nil) k1 ⟨e,e⟩

theorem zhp {zV:Val→GChk→GTyp→Int→Option (Bool × GChk)} {zaa:GChk→Int→Val→Int→Option (Bool × GChk)} {zaf:GChk→GTyp→Val→Int→Option (Bool × GChk)} {zC:(List Val)→GChk→GTyp→Int→Option (Bool × GChk)} {zF:(List Val)→GChk→GTyp→Int→Option (Int × GChk)} {z6:GChk→Int→Val→Int→Option (Bool × GChk)} (zbw:za8 zV) (zbc:zbd zaa) (zbP:zbx zaf) (zaz:zat zC) (zaF:zax zF) (zbB:zbe z6):∀ {a_c:GChk} {a_i:Int} {a_v:Val} {zH:Int} {za0:Nat} {r:Bool × GChk},zbV zV zaa zaf zC zF z6 a_c a_i a_v zH=some r→Ctr Tryz.prog 88 [ptrv za0 (Fld.id GChk),isv (a_i),isv (a_v),isv (zH)] [boxE za0 (a_c:GChk)] (fun R H=>R=oneOf [isv (r.1)]∧H=[boxE za0 (r.2)]):=by
 intro a_c a_i a_v zH za0 r h
 unfold zbV at h
 refine zq Tryz.func88 e fun w0 S0 hT=>wsr (oT (zai (y:=a_v) e hI (oA e (rnf (wsr (oM e (oV (zz e) (oV (zae e GChk.f0 zeO) ?_))))))))
 refine oV (zae e GTbd.f0 zeM) (oV (zae e GTab.f3 zca) (oT (zK (R:=isv (a_c.tabled.t.types)) ty24 e .here hI (oM e (zb h fun y1 hy1 h=>oV (zam (l:=a_c.tabled.t.types) e hI e sl24 hy1) (oV (za ty87 e) (oT (zac _ ze87 fun b2=>oT (zp (y':=(y1:GTyp)) ty87 e e hI .here e ?_)))))))))
 refine zY (zaE 9 .here e) (rnf (zn (wsr (oV (za ty46 e) (zb h fun y3 hy3 h=>oT (zx (zb9 hy3) hT (s2 e e) .nil (oV (zaD e) (oM e ?_))))))))
 refine zQ (jb 33) je .nil h 8 e (fun q4 g4 h=>?_) (fun J5 h hJ5=>?_)
 ·refine oM e (zQ (ι:=Bool × GChk) (γ:=Unit) (fun q7 g7=>[(40,isv (q7.1))]) (fun q7 g7=>[boxE za0 (q7.2:GChk)]) k1 h 6 e (fun q7 g7 h=>?_) (fun J8 h hJ8=>?_))
  ·refine rnf (zf h e (fun _ h=>?_) (fun _ h=>?_))
   ·refine wsr (oA e (rnf (zA (zo ?_))))
    cases h
    exact zh (.tmp e .nil) k1 ⟨e,e⟩
   refine wkf (zn (wsr (oV (zE e GTyp.f4 za2 e (z:=y1.fields)) (oV (za ty85 e) (oV (zaq (l:=y1.fields) e hI sl85) (oM e (rnf (zB ?_))))))))
   refine za4 (ι:=Int × GChk) (γ:=Unit) (fun q11 g11=>[(44,isv (q11.1))]) (fun q11 g11=>[boxE za0 (q11.2:GChk)]) h () (zd (j:=44) e hI ze) k1 (fun L12 q11 g11 Q57 h hL12 eL12 rL12=>wsr (oV (zao e e) (rnf (zn (zf h e (fun _ h=>?_) (fun _ h=>?_))))))
   ·refine wkf (zn (zdF (ι:=GChk) (γ:=Unit) (fun q35 g35=>[]) (fun q35 g35=>[boxE za0 (q35:GChk)]) k1 h (fun q35 g35 h=>?_) (fun J36 h hJ36=>?_)))
    ·exact zr (zJ h fun q55 h=>oV (zah e e q55) (oM e (zG (hL12 _ () h _ (jk 4 44 e e e)))))
    refine zB (wsr (oM e (zb h fun y37 hy37 h=>oV (zam (l:=y1.fields) e hI e sl85 hy37) (oV (za ty92 e) (oT (zac _ ze92 fun b38=>oA e (oT (zp (y':=(y37:GFld)) ty92 e e hI .here e ?_))))))))
    refine zY (zaE 11 .here e) (rnf (wsr (oV (zE e Val.f3 zbl e (z:=a_v.l)) (oV (za ty43 e) (oM e (zb h fun y39 hy39 h=>oV (zam (l:=a_v.l) e hI e sl43 hy39) (oV (za ty46 e) ?_)))))))
    refine oT (zac _ ze46 fun b40=>oT (zp (y':=(y39:Val)) ty46 e e hI .here e (zY (zaE 12 .here e) (rnf (zB (wsr (oV (zE e Val.f0 zbU e (z:=y39.kind)) (oV (za ty3 e) (oV (zP e e) ?_)))))))))
    refine oA e (rnf (zf h e (fun _ h=>?_) (fun _ h=>?_)))
    ·refine wsr (oV (za ty46 e) (zb h fun y41 hy41 h=>oT (zx (ziJ hy41) hT (s1 e) .nil (oV (zaD e) (oM e (zQ (jb 66) je .nil h 5 e (fun q42 g42 h=>?_) (fun J43 h hJ43=>?_)))))))
     ·refine rnf (zf h e (fun _ h=>?_) (fun _ h=>?_))
      ·refine wsr (oA e (rnf (zA (zw (zw (zo (rL12 _ (zw ?_))))))))
       refine zo ?_
       cases h
       exact zh (.tmp e .nil) k1 ⟨e,e⟩
      exact zZ (zt (zt (hJ36 _ () h _ (jn 22 e e))))
     refine zm (j:=61) h e (fun g44 h=>?_) (fun g44 h=>?_)
     ·exact oP 61 e e g44 (oP 61 e e g44 (oP 61 e e g44 (oP 61 e e g44 (oV (zi e g44 e) (hJ43 _ () h _ (jk 5 66 e e e))))))
     exact oK 61 e e e g44 (za ty87 e) (oK 61 e e e g44 (zu e) (zb h fun y45 hy45 h=>zad e e (dj:=61) e g44 (zx (zjk hy45) hT (s2 e e) .nil (oK 61 e e e g44 (zaD e) (oV (zj e g44 e) (hJ43 _ () h _ (jk 5 66 e e e)))))))
    refine wsr (oM e (oV (zE e GFld.f1 zdb e (z:=y37.ty)) (oV (za ty3 e) (oV (za ty46 e) (oM e (zJ h fun q46 h=>oV (zah e e q46) (zb h fun y47 hy47 h=>?_)))))))
    refine oT (zx (zbc hy47) hT (s4 e e e e) k1 (oV (zaD e) (oM e (zQ (jb 85) je .nil h 9 e (fun q48 g48 h=>?_) (fun J49 h hJ49=>?_)))))
    ·refine oA e (rnf (zf h e (fun _ h=>?_) (fun _ h=>?_)))
     ·refine wsr (oA e (rnf (zA (zw (zw (zo (rL12 _ (zw ?_))))))))
      refine zo ?_
      cases h
      exact zh (.tmp e .nil) k1 ⟨e,e⟩
     exact zZ (zt (zt (hJ36 _ () h _ (jn 28 e e))))
    refine zm (j:=76) h e (fun g50 h=>?_) (fun g50 h=>?_)
    ·refine oP 76 e e g50 (oP 76 e e g50 (oP 76 e e g50 (zk e (dj:=79) e (zk e (dj:=79) e (zk e (dj:=79) e (zk e (dj:=79) e (oP 76 e e g50 (oV (zi e g50 e) ?_))))))))
     exact hJ49 _ () h _ (jk 9 85 e e e)
    refine oK 76 e e e g50 (zE e GFld.f3 zhL e (z:=y37.has)) (oK 76 e e e g50 (za ty4 e) (oK 76 e e e g50 (zu e) (zQ (jb 84) je .nil h 5 e (fun q51 g51 h=>?_) (fun J52 h hJ52=>?_))))
    ·exact oV (zj e g50 e) (hJ49 _ () h _ (jk 5 85 e e e))
    refine zm (j:=79) h e (fun g53 h=>?_) (fun g53 h=>?_)
    ·exact oK 79 e e e g53 (za ty46 e) (oK 79 e e e g53 (zE e GFld.f4 zlg e (z:=y37.dflt)) (oK 79 e e e g53 (za ty46 e) (zb h fun y54 hy54 h=>zad e e (dj:=79) e g53 (zx (zna fuel hy54) hT (s2 e e) .nil (oK 76 e e e g50 (zi e g53 e) (hJ52 _ () h _ (jk 5 84 e e e)))))))
    exact oP 79 e e g53 (oP 79 e e g53 (oP 79 e e g53 (oP 79 e e g53 (oK 76 e e e g50 (zj e g53 e) (hJ52 _ () h _ (jk 5 84 e e e))))))
   refine zaj (zX (eL12 _ _ (zI (zD (wsr (oM e (oM e (oV (za ty46 e) ?_))))))))
   refine zb h fun y56 hy56 h=>oT (zx (zhG hy56) hT (s3 e e e) k1 (oA e (rnf (zA ?_))))
   cases h
   exact zh (.tmp e .nil) k1 ⟨e,e⟩
  refine zm (j:=34) h e (fun g9 h=>?_) (fun g9 h=>?_)
  ·exact oP 34 e e g9 (oP 34 e e g9 (oP 34 e e g9 (oP 34 e e g9 (oP 34 e e g9 (oV (zi e g9 e) (hJ8 _ () h _ (jk 6 40 e e e)))))))
  exact oK 34 e e e g9 (zu e) (oK 34 e e e g9 (zu e) (oK 34 e e e g9 (za ty46 e) (zb h fun y10 hy10 h=>zad e e (dj:=34) e g9 (zx (ziC hy10) hT (s3 e e e) k1 (oK 34 e e e g9 (zaD e) (oV (zj e g9 e) (hJ8 _ () h _ (jk 6 40 e e e))))))))
 refine zm (j:=25) h e (fun g6 h=>?_) (fun g6 h=>?_)
 ·exact oP 25 e e g6 (oP 25 e e g6 (oP 25 e e g6 (oP 25 e e g6 (oP 25 e e g6 (oP 25 e e g6 (oP 25 e e g6 (oV (zi e g6 e) (hJ5 _ () h _ (jk 8 33 e e e)))))))))
 exact oK 25 e e e g6 (zE e Val.f3 zbl e (z:=a_v.l)) (oK 25 e e e g6 (za ty43 e) (oK 25 e e e g6 (zaq (l:=a_v.l) e hI sl43) (oK 25 e e e g6 (zE e GTyp.f4 za2 e (z:=y1.fields)) (oK 25 e e e g6 (za ty85 e) (oK 25 e e e g6 (zaq (l:=y1.fields) e hI sl85) (oK 25 e e e g6 (zaV e e) (oV (zj e g6 e) (hJ5 _ () h _ (jk 8 33 e e e)))))))))

theorem zdA:∀ n,za8 (zbo n)∧zbd (za5 n)∧zbx (zbL n)∧zat (zaw n)∧zax (zaA n)∧zbe (zby n)
 | 0=>⟨fun h=>(by cases h),fun h=>(by cases h),fun h=>(by cases h),fun h=>(by cases h),fun h=>(by cases h),fun h=>(by cases h)⟩
 | n + 1=>by
  obtain ⟨h0,h1,h2,h3,h4,h5⟩:=zdA n
  exact ⟨zgY h0 h1 h2 h3 h4 h5,zic h0 h1 h2 h3 h4 h5,zie h0 h1 h2 h3 h4 h5,zdd h0 h1 h2 h3 h4 h5,zdu h0 h1 h2 h3 h4 h5,zhp h0 h1 h2 h3 h4 h5⟩
theorem ziy (n:Nat):zbd (za5 n):=(zdA n).2.1
def zgT (f':Val→Option (Int)):Prop :=
 ∀ {a_v:Val} {r:Int},f' a_v=some r→Ctr Tryz.prog 28 [isv (a_v)] [] (fun R H=>R=oneOf [isv (r)]∧H=[])
theorem zlY {zf0:Val→Option (Int)} (zl8:zgT zf0):∀ {a_v:Val} {r:Int},zed zf0 a_v=some r→Ctr Tryz.prog 28 [isv (a_v)] [] (fun R H=>R=oneOf [isv (r)]∧H=[]):=by
 intro a_v r h
 unfold zed at h
 refine zq Tryz.func28 e fun w0 S0 hT=>wsr (oT (zai (y:=a_v) e hI (oA e (rnf (wsr (oA e (rnf (zn ?_))))))))
 refine wsr (oV (zE e Val.f3 zbl e (z:=a_v.l)) (oV (za ty43 e) (oV (zaq (l:=a_v.l) e hI sl43) (oM e (rnf (zB (za4 (ι:=Int × Int) (γ:=Unit) (fun q1 g1=>[(3,isv (q1.1)),(9,isv (q1.2))]) (fun q1 g1=>[]) h () (zd (j:=3) e hI (zd (j:=9) e hI ze)) .nil (fun L2 q1 g1 Q13 h hL2 eL2 rL2=>wsr ?_))))))))
 refine oV (zao e e) (rnf (zn (zf h e (fun _ h=>?_) (fun _ h=>?_))))
 ·refine wkf (zn (zB (wsr (zb h fun y8 hy8 h=>oV (zam (l:=a_v.l) e hI e sl43 hy8) (oV (za ty46 e) (oT (zac _ ze46 fun b9=>oT (zp (y':=(y8:Val)) ty46 e e hI .here e ?_))))))))
  refine zY (zaE 5 .here e) (rnf (zr (oM e (oV (za ty46 e) (zb h fun y10 hy10 h=>oT (zx (zl8 hy10) hT (s1 e) .nil (zJ h fun q11 h=>oV (zah e e q11) ?_)))))))
  refine oA e (zG (zt (zD (zr (zJ h fun q12 h=>oV (zah e e q12) (oM e (zG ?_)))))))
  exact hL2 _ () h _ (zg 14 e e (zd (j:=3) e hI (zd (j:=9) e hI ze)) .nil)
 refine zaj (zX (eL2 _ _ (zI (zD (wsr (oM e (oA e (rnf ?_))))))))
 refine zA ?_
 cases h
 exact zh (.tmp e .nil) .nil ⟨e,e⟩

theorem zgE:∀ n,zgT (zdP n)
 | 0=>fun h=>(by cases h)
 | n + 1=>zlY (zgE n)
theorem zjn (n:Nat):zgT (zdP n):=(zgE n)

theorem zhK:∀ {a_t:GTab} {a_i:Int} {a_v:Val} {r:Bool},zdk a_t a_i a_v=some r→Ctr Tryz.prog 25 [isv (a_t),isv (a_i),isv (a_v)] [] (fun R H=>R=oneOf [isv (r)]∧H=[]):=by
 intro a_t a_i a_v r h
 unfold zdk at h
 refine zq Tryz.func25 e fun w0 S0 hT=>wsr (oT (zai (y:=a_t) e hI (oT (zai (y:=a_v) e hI (oA e (rnf (wsr (oV (za ty26 e) (oV (zar (z:=(GTbd.mk a_t)) e bu101 ze101 (.cons GTbd.f0 zeM e hI .nil)) ?_)))))))))
 refine oV (zar (z:=(GChk.mk (GTbd.mk a_t) false)) e bu103 ze103 (.cons GChk.f0 zeO e hI .nil)) (oT (zlV (y:=(GChk.mk (GTbd.mk a_t) false)) e hI fun b1=>oA e (rnf (wsr (oM e (oM e (oV (za ty46 e) (zb h fun y2 hy2 h=>?_))))))))
 refine oT (zx (ziy fuel hy2) hT (s4 e e e e) k1 (oM e (zQ (jb 20) je .nil h 4 e (fun q3 g3 h=>?_) (fun J4 h hJ4=>?_))))
 ·refine oA e (rnf (zA ?_))
  cases h
  exact zh (.tmp e .nil) .nil ⟨e,e⟩
 refine zm (j:=16) h e (fun g5 h=>?_) (fun g5 h=>?_)
 ·exact oK 16 e e e g5 (za ty46 e) (zb h fun y6 hy6 h=>zad e e (dj:=16) e g5 (zx (zjn fuel hy6) hT (s1 e) .nil (oK 16 e e e g5 (ziw e e) (oV (zi e g5 e) (hJ4 _ () h _ (jk 4 20 e e e))))))
 exact oP 16 e e g5 (oP 16 e e g5 (oP 16 e e g5 (oV (zj e g5 e) (hJ4 _ () h _ (jk 4 20 e e e)))))


theorem zje:∀  {r:Bool},zdG =some r→Ctr Tryz.prog 24 [] [] (fun R H=>R=oneOf [isv (r)]∧H=[]):=by
 intro  r h
 unfold zdG at h
 refine zq Tryz.func24 e fun w0 S0 hT=>wsr (oA e (rnf (wsr (zb h fun y1 hy1 h=>oT (zx (zgG hy1) hT (s1 e) .nil (oM e (oV (zO e e) ?_)))))))
 refine oV (zO e e) (oT (zac _ ze26 fun b2=>oT (zp (y':=(y1.1:GTab)) ty26 e e hI .here e (zY (zaE 1 .here e) (oA e (rnf (wsr (oM e (oM e ?_)))))))))
 refine zQ (jb 12) je .nil h 4 e (fun q3 g3 h=>?_) (fun J4 h hJ4=>?_)
 ·refine oM e (zQ (jb 18) je .nil h 5 e (fun q7 g7 h=>?_) (fun J8 h hJ8=>?_))
  ·refine oM e (zQ (jb 23) je .nil h 4 e (fun q11 g11 h=>?_) (fun J12 h hJ12=>?_))
   ·refine oA e (rnf (zA ?_))
    cases h
    exact zh (.tmp e .nil) .nil ⟨e,e⟩
   refine zm (j:=19) h e (fun g13 h=>?_) (fun g13 h=>?_)
   ·exact oK 19 e e e g13 (zar (z:=(Val.mk (4:Int) (0:Int) ([]:(List UInt8)) ([]:(List Val)) (0:Int) ([]:(List Raw)))) e bu46 ze46 (.cons Val.f0 zbU e hI .nil)) (zb h fun y14 hy14 h=>zad e e (dj:=19) e g13 (zx (zjn fuel hy14) hT (s1 e) .nil (oK 19 e e e g13 (zP e e) (oV (zi e g13 e) (hJ12 _ () h _ (ji 4 23 e e e))))))
   exact oP 19 e e g13 (oP 19 e e g13 (oP 19 e e g13 (oV (zj e g13 e) (hJ12 _ () h _ (ji 4 23 e e e)))))
  refine zm (j:=13) h e (fun g9 h=>?_) (fun g9 h=>?_)
  ·exact oK 13 e e e g9 (za ty26 e) (oK 13 e e e g9 (zar (z:=(Val.mk (2:Int) (8:Int) ([]:(List UInt8)) ([]:(List Val)) (0:Int) ([]:(List Raw)))) e bu46 ze46 (.cons Val.f0 zbU e hI (.cons Val.f1 zbk e hI .nil))) (zb h fun y10 hy10 h=>zad e e (dj:=13) e g9 (zx (zhK hy10) hT (s3 e e e) .nil (oK 13 e e e g9 (zaD e) (oV (zi e g9 e) (hJ8 _ () h _ (ji 5 18 e e e)))))))
  exact oP 13 e e g9 (oP 13 e e g9 (oP 13 e e g9 (oP 13 e e g9 (oV (zj e g9 e) (hJ8 _ () h _ (ji 5 18 e e e))))))
 refine zm (j:=8) h e (fun g5 h=>?_) (fun g5 h=>?_)
 ·exact oK 8 e e e g5 (za ty26 e) (oK 8 e e e g5 (zar (z:=(Val.mk (2:Int) (7:Int) ([]:(List UInt8)) ([]:(List Val)) (0:Int) ([]:(List Raw)))) e bu46 ze46 (.cons Val.f0 zbU e hI (.cons Val.f1 zbk e hI .nil))) (zb h fun y6 hy6 h=>zad e e (dj:=8) e g5 (zx (zhK hy6) hT (s3 e e e) .nil (oV (zi e g5 e) (hJ4 _ () h _ (ji 4 12 e e e))))))
 exact oP 8 e e g5 (oP 8 e e g5 (oP 8 e e g5 (oV (zj e g5 e) (hJ4 _ () h _ (ji 4 12 e e e)))))

end Go.Proofs.Q


namespace Go.Proofs.Q
open Go.Sy
set_option maxRecDepth 4000
end Go.Proofs.Q


namespace Go.Proofs.Q
open Go.Sy
set_option maxRecDepth 4000
theorem zku:∀ {a_t:GTab} {zeo:Int} {r:Int × Bool},zdQ a_t zeo=some r→Ctr Tryz.prog 29 [isv (a_t),isv (zeo)] [] (fun R H=>R=oneOf [isv (r.1),isv (r.2)]∧H=[]):=by
 intro a_t zeo r h
 unfold zdQ at h
 refine zq Tryz.func29 e fun w0 S0 hT=>wsr (oT (zai (y:=a_t) e hI (oA e (oA e (rnf (zn (wsr (oV (zE e GTab.f2 zjq e (z:=a_t.roots)) ?_))))))))
 refine oV (za ty23 e) (oV (zaq (l:=a_t.roots) e hI sl23) (oV (zP e e) (rnf (zf h e (fun _ h=>?_) (fun _ h=>?_)))))
 ·refine wsr (oA e (oA e (rnf (zA (zo ?_)))))
  cases h
  exact zh (.tmp e (.tmp e .nil)) .nil ⟨e,e⟩
 refine wkf (zn (z8 (.v 0 (.v 1 (.v 2 (.v 3 (.v 4 (.v 5 (.v 6 (.v 7 (.v 8 (.v 9 (.v 10 (.v 11 (.v 12 (.v 13 .nil)))))))))))))) moOrd (by kernel_rfl) ?_))
 refine zy e (zE e GTab.f2 zjq e (z:=a_t.roots)) (zy e (za ty23 e) (rvm e e (zy e (zsk Tryz.underlying3 Tryz.underlying39 e) (zy e (zE e GTab.f2 zjq e (z:=a_t.roots)) (zy e (za ty23 e) (zy e (zaq (l:=a_t.roots) e hI sl23) (zy e (zsk Tryz.underlying3 Tryz.underlying39 e) (zas h fun q1 h=>?_))))))))
 refine zy e (zrY e e q1) (zJ h fun q2 h=>zy e (zjJ Tryz.underlying39 Tryz.underlying3 e q2) (zb h fun y3 hy3 h=>zy e (zam (l:=a_t.roots) e hI e sl23 hy3) (zy e (za ty3 e) (zy e (zaI e) (zy e (zaI e) (zau ?_))))))
 refine zD (zA ?_)
 cases h
 exact zh (.tmp e (.tmp e .nil)) .nil ⟨e,e⟩


def zkK (f':Val→Int→Option (Bool × Int)):Prop :=
 ∀ {a_v:Val} {zbW:Int} {zbT:Nat} {r:Bool × Int},f' a_v zbW=some r→Ctr Tryz.prog 56 [isv (a_v),ptrv zbT (Fld.id Int)] [boxE zbT (zbW:Int)] (fun R H=>R=oneOf [isv (r.1)]∧H=[boxE zbT (r.2)])
theorem zoA {zj4:Val→Int→Option (Bool × Int)} (zpP:zkK zj4):∀ {a_v:Val} {zbW:Int} {zbT:Nat} {r:Bool × Int},zhg zj4 a_v zbW=some r→Ctr Tryz.prog 56 [isv (a_v),ptrv zbT (Fld.id Int)] [boxE zbT (zbW:Int)] (fun R H=>R=oneOf [isv (r.1)]∧H=[boxE zbT (r.2)]):=by
 intro a_v zbW zbT r h
 unfold zhg at h
 refine zq Tryz.func56 e fun w0 S0 hT=>wsr (oT (zai (y:=a_v) e hI (oA e (rnf (zn (z8 (.v 0 (.v 1 (.v 2 (.v 5 (.v 6 (.v 7 (.v 8 (.v 10 (.v 11 (.v 12 (.t 3 (.v 4 (.v 9 (.v 13 (.v 14 (.t 15 .nil)))))))))))))))) moOrd (by kernel_rfl) ?_))))))
 refine rvm e e (rvm e e (zy e (zz e) (zy e (zE e Val.f2 zbK e (z:=a_v.b)) (zy e (za ty42 e) (zy e (zaq (l:=a_v.b) e hI sl42) (zas h fun q1 h=>zJ h fun q2 h=>zy e (zqX e e q1 q2) ?_))))))
 refine zy e (zE e Val.f5 zdy e (z:=a_v.more)) (zy e (za ty44 e) (zy e (zaq (l:=a_v.more) e hI sl44) (zay e e (zK (R:=isv (zbW)) ty3 e .here hI (zJ h fun q3 h=>zy e (zda e e q3) (zJ h fun q4 h=>zy e (zda e e q4) (zJ h fun q5 h=>?_)))))))
 refine zy e (zda e e q5) (zy e (zz e) (zay e e (zp (y':=((((zbW - (1:Int)) - ((a_v.b.length:Int).tdiv (50:Int))) - (a_v.more.length:Int)):Int)) ty3 e e hI .here e (zau (zD (zn (wsr (oA e (rnf ?_)))))))))
 refine zB (za4 (ι:=Int × Int) (γ:=Unit) (fun q6 g6=>[(5,isv (q6.1))]) (fun q6 g6=>[boxE zbT (q6.2:Int)]) h () (zd (j:=5) e hI ze) k1 (fun L7 q6 g6 Q42 h hL7 eL7 rL7=>zn (wsr (oM e (oV (zE e Val.f5 zdy e (z:=a_v.more)) (oV (za ty44 e) (oV (zaq (l:=a_v.more) e hI sl44) (oV (zao e e) ?_))))))))
 refine oM e (zQ (jb 32) je .nil h 5 e (fun q25 g25 h=>?_) (fun J26 h hJ26=>?_))
 ·refine rnf (zf h e (fun _ h=>?_) (fun _ h=>?_))
  ·refine wkf (zn (zB (z8 (.v 0 (.v 1 (.v 2 (.v 4 (.v 5 (.v 6 (.v 7 (.v 8 (.v 9 (.v 10 (.v 11 (.t 3 (.v 12 (.v 13 (.t 14 .nil))))))))))))))) moOrd (by kernel_rfl) ?_)))
   refine rvm e e (rvm e e (zy e (zz e) (zy e (zE e Val.f5 zdy e (z:=a_v.more)) (zy e (za ty44 e) (rvm e e (zb h fun y28 hy28 h=>zy e (zam (l:=a_v.more) e hI e sl44 hy28) (zy e (zE e Raw.f1 zf5 e (z:=y28.b)) ?_)))))))
   refine zy e (za ty42 e) (zy e (zaq (l:=y28.b) e hI sl42) (zas h fun q29 h=>zJ h fun q30 h=>zy e (zqX e e q29 q30) (zay e e (zK (R:=isv (q6.2)) ty3 e .here hI (zJ h fun q31 h=>zy e (zda e e q31) (zy e (zz e) ?_))))))
   refine zay e e (zp (y':=((q6.2 - ((y28.b.length:Int).tdiv (50:Int))):Int)) ty3 e e hI .here e (zau (zt (zD (zr (oM e (zJ h fun q32 h=>oV (zah e e q32) (oA e ?_))))))))
   exact zG (hL7 _ () h _ (jk 25 5 e e e))
  refine zaj (zX (eL7 _ _ (zI (zD (zn (wsr (oM e (oV (zz e) ?_))))))))
  refine oT (zK (R:=isv (q6.2)) ty3 e .here hI (oV (zao e e) (rnf (zf h e (fun _ h=>?_) (fun _ h=>?_)))))
  ·refine wsr (oA e (rnf (zA (zo ?_))))
   cases h
   exact zh (.tmp e .nil) k1 ⟨e,e⟩
  refine wkf (zn (wsr (oA e (rnf (zB (za4 (ι:=Int × Int) (γ:=Unit) (fun q33 g33=>[(6,isv (q33.1))]) (fun q33 g33=>[boxE zbT (q33.2:Int)]) h () (zd (j:=6) e hI ze) k1 (fun L34 q33 g33 Q41 h hL34 eL34 rL34=>zn (wsr ?_))))))))
  refine oM e (oV (zE e Val.f3 zbl e (z:=a_v.l)) (oV (za ty43 e) (oV (zaq (l:=a_v.l) e hI sl43) (oV (zao e e) (rnf (zf h e (fun _ h=>?_) (fun _ h=>?_)))))))
  ·refine wkf (zn (zB (wsr (oV (zE e Val.f3 zbl e (z:=a_v.l)) (oV (za ty43 e) (oM e (zb h fun y38 hy38 h=>oV (zam (l:=a_v.l) e hI e sl43 hy38) ?_)))))))
   refine oV (za ty46 e) (oM e (zb h fun y39 hy39 h=>oT (zx (zpP hy39) hT (s2 e e) k1 (oV (zaD e) (rnf (zf h e (fun _ h=>?_) (fun _ h=>?_)))))))
   ·refine wsr (oA e (rnf (zA (zw (zo (rL34 _ (zw (zo ?_))))))))
    cases h
    exact zh (.tmp e .nil) k1 ⟨e,e⟩
   refine zZ (zt (zD (zr (oM e (zJ h fun q40 h=>oV (zah e e q40) (oA e (zG ?_)))))))
   exact hL34 _ () h _ (jk 17 6 e e e)
  refine zaj (zX (eL34 _ _ (zI (zD (wsr (oA e (rnf (zA ?_))))))))
  cases h
  exact zh (.tmp e .nil) k1 ⟨e,e⟩
 refine zm (j:=27) h e (fun g27 h=>?_) (fun g27 h=>?_)
 ·exact oK 27 e e e g27 (zu e) (oK 27 e e e g27 (zz e) (zad e e (dj:=27) e g27 (zK (R:=isv (q6.2)) ty3 e .here hI (oK 27 e e e g27 (zck e e) (oV (zi e g27 e) (hJ26 _ () h _ (jk 5 32 e e e)))))))
 exact oP 27 e e g27 (oP 27 e e g27 (oP 27 e e g27 (oP 27 e e g27 (oV (zj e g27 e) (hJ26 _ () h _ (jk 5 32 e e e))))))

theorem zjm:∀ n,zkK (zki n)
 | 0=>fun h=>(by cases h)
 | n + 1=>zoA (zjm n)
theorem zp9 (n:Nat):zkK (zki n):=(zjm n)

theorem zpI:∀ {a_v:Val} {zkq:Int} {r:Bool},zjU a_v zkq=some r→Ctr Tryz.prog 30 [isv (a_v),isv (zkq)] [] (fun R H=>R=oneOf [isv (r)]∧H=[]):=by
 intro a_v zkq r h
 unfold zjU at h
 refine zq Tryz.func30 e fun w0 S0 hT=>wsr (oT (zai (y:=a_v) e hI (oA e (rnf (wsr (oM e (oT (zac _ ze3 fun b1=>oT (zp (y':=(zkq:Int)) ty3 e e hI .here e ?_)))))))))
 refine rnf (wsr (oV (za ty46 e) (zb h fun y2 hy2 h=>oT (zx (zp9 fuel hy2) hT (s2 e e) k1 (oA e (rnf (zA ?_)))))))
 cases h
 exact zh (.tmp e .nil) .nil ⟨e,e⟩


theorem zd7:∀ {a_s:(List UInt8)} {r:(List UInt8)},zbM a_s=some r→Ctr Tryz.prog 57 [isv (a_s)] [] (fun R H=>R=oneOf [isv (r)]∧H=[]):=by
 intro a_s r h
 unfold zbM at h
 refine zq Tryz.func57 e fun w0 S0 hT=>wsr (oA e (rnf (zn (wsr (oM e (oV (zsb (l:=a_s) sl42 e e) (rnf ?_)))))))
 refine zrS h e (fun hn=>by rw [hn];rfl) (fun _ h=>?_) (fun h=>?_)
 ·refine wsr (oA e (rnf (zA (zo ?_))))
  cases h
  exact zh (.as e (zdc (α:=UInt8)) .nil) .nil ⟨e,e⟩
 refine wkf (wsr (oT (z7 (l:=([]:(List UInt8))) el42 .nil e e (oM e (zY (zaQ) (zas h fun q3 h=>oT (zbv (l:=([]:(List UInt8))) (m:=a_s) zjQ e hI e hI .here q3 fun t2=>oA e (rnf ?_))))))))
 refine zA ?_
 cases h
 exact zh (.as e zM .nil) .nil ⟨e,e⟩


def zgZ (f':Val→Option (Val)):Prop :=
 ∀ {a_v:Val} {r:Val},f' a_v=some r→Ctr Tryz.prog 31 [isv (a_v)] [] (fun R H=>R=oneOf [isv (r)]∧H=[])
theorem zlp {zf3:Val→Option (Val)} (zjf:zgZ zf3):∀ {a_v:Val} {r:Val},zej zf3 a_v=some r→Ctr Tryz.prog 31 [isv (a_v)] [] (fun R H=>R=oneOf [isv (r)]∧H=[]):=by
 intro a_v r h
 unfold zej at h
 refine zq Tryz.func31 e fun w0 S0 hT=>wsr (oT (zai (y:=a_v) e hI (oT (zac _ ze46 fun b1=>rnf (zn (wsr (oV (zE e Val.f0 zbU e (z:=a_v.kind)) (oV (za ty3 e) ?_))))))))
 refine oV (zP e e) (rnf (zf h e (fun _ h=>?_) (fun _ h=>?_)))
 ·refine wsr (oV (zar (z:=(Val.mk (12:Int) (0:Int) ([]:(List UInt8)) ([]:(List Val)) (0:Int) ([]:(List Raw)))) e bu46 ze46 (.cons Val.f0 zbU e hI .nil)) (oT (zp (y':=((Val.mk (12:Int) (0:Int) ([]:(List UInt8)) ([]:(List Val)) (0:Int) ([]:(List Raw))):Val)) ty46 e e hI .here e (rnf (zA (zo ?_))))))
  cases h
  exact zh (.cell e .here ty46 .nil) .nil ⟨e,e⟩
 refine wkf (zn (zdF (ι:=Val) (γ:=Nat × Tok) (fun q2 g2=>[(3,ptrv g2.1 (Fld.id (Int × Int × (List UInt8) × (TList Val) × Int × (List Raw))))]) (fun q2 g2=>[boxE g2.1 ((q2.kind,q2.n,q2.b,(TList.mk g2.2 q2.l),q2.rule,q2.more):(Int × Int × (List UInt8) × (TList Val) × Int × (List Raw))),tokE g2.2]) .nil h (fun q2 g2 h=>?_) (fun J3 h hJ3=>?_)))
 ·refine zn (wsr (oV (zE e Val.f3 zbl e (z:=a_v.l)) (oV (za ty43 e) (oV (zaq (l:=a_v.l) e hI sl43) (oM e (rnf (zB (za4 (ι:=Int × Val) (γ:=Tok) (fun q11 g11=>[(21,isv (q11.1))]) (fun q11 g11=>[boxE g2.1 ((q11.2.kind,q11.2.n,q11.2.b,(TList.mk g11 q11.2.l),q11.2.rule,q11.2.more):(Int × Int × (List UInt8) × (TList Val) × Int × (List Raw))),tokE g11]) h (g2.2) (zd (j:=21) e hI ze) k2 (fun L12 q11 g11 Q35 h hL12 eL12 rL12=>?_)))))))))
  refine wsr (oV (zao e e) (rnf (zn (zf h e (fun _ h=>?_) (fun _ h=>?_)))))
  ·refine wkf (zn (zB (wsr (zb h fun y24 hy24 h=>oV (zam (l:=a_v.l) e hI e sl43 hy24) (oV (za ty46 e) (oT (zac _ ze46 fun b25=>oT (zp (y':=(y24:Val)) ty46 e e hI .here e ?_))))))))
   refine zY (zaE 5 .here e) (rnf (z8 (.v 0 (.v 2 (.alt 1 (.t 3 (.t 4 (.t 5 (.v 6 (.t 7 .nil))))) (.t 3 (.alt 1 (.t 4 (.t 5 (.v 6 (.t 7 .nil)))) (.t 4 (.t 1 (.t 5 (.v 6 (.t 7 .nil)))))))))) moOrd (by kernel_rfl) ?_))
   refine zy e (zae e zkn zbl) (zy e (za ty46 e) (zb h fun y26 hy26 h=>zas h fun q29 h=>zJ h fun q30 h=>zfr ?_ ?_))
   ·refine zay e e (zK (R:=appv g11 (q11.2.l)) ty43 e .here isvT1 (zay e e (zx (zjf hy26) hT (s1 e) .nil (zay e e (z7 (l:=([y26]:(List Val))) el43 (.cons e hI .nil) e e (zay e e (zbv (l:=q11.2.l) (m:=([y26]:(List Val))) zmQ e hI e zM tH q29 fun t28=>zy e (zae e zkn zbl) (zay e e (zp (y':=((q11.2.kind,q11.2.n,q11.2.b,(TList.mk t28 (q11.2.l ++ ([y26]:(List Val)))),q11.2.rule,q11.2.more):(Int × Int × (List UInt8) × (TList Val) × Int × (List Raw)))) ty43 e e isvT2 tH e (zau (zt (zD ?_))))))))))))
    exact zr (oV (zah e e q30) (oM e (zG (hL12 _ (t28) h _ (zg 15 e e (zd (j:=21) e hI ze) k3)))))
   refine zay e e (zx (zjf hy26) hT (s1 e) .nil (zfr ?_ ?_))
   ·refine zay e e (zK (R:=appv g11 (q11.2.l)) ty43 e .here isvT1 (zay e e (z7 (l:=([y26]:(List Val))) el43 (.cons e hI .nil) e e (zay e e (zbv (l:=q11.2.l) (m:=([y26]:(List Val))) zmQ e hI e zM tH q29 fun t32=>zy e (zae e zkn zbl) (zay e e (zp (y':=((q11.2.kind,q11.2.n,q11.2.b,(TList.mk t32 (q11.2.l ++ ([y26]:(List Val)))),q11.2.rule,q11.2.more):(Int × Int × (List UInt8) × (TList Val) × Int × (List Raw)))) ty43 e e isvT2 tH e (zau (zt (zD (zr ?_)))))))))))
    exact oV (zah e e q30) (oM e (zG (hL12 _ (t32) h _ (zg 15 e e (zd (j:=21) e hI ze) k3))))
   refine zay e e (z7 (l:=([y26]:(List Val))) el43 (.cons e hI .nil) e e (zay e e (zK (R:=appv g11 (q11.2.l)) ty43 e .here isvT1 (zay e e (zbv (l:=q11.2.l) (m:=([y26]:(List Val))) zmQ e hI e zM tH q29 fun t34=>zy e (zae e zkn zbl) (zay e e (zp (y':=((q11.2.kind,q11.2.n,q11.2.b,(TList.mk t34 (q11.2.l ++ ([y26]:(List Val)))),q11.2.rule,q11.2.more):(Int × Int × (List UInt8) × (TList Val) × Int × (List Raw)))) ty43 e e isvT2 tH e (zau (zt (zD (zr ?_)))))))))))
   exact oV (zah e e q30) (oM e (zG (hL12 _ (t34) h _ (zg 15 e e (zd (j:=21) e hI ze) k3))))
  refine zaj (zX (eL12 _ _ (zI (zD (wsr (oT (zK (y:=((q11.2.kind,q11.2.n,q11.2.b,(TList.mk g11 q11.2.l),q11.2.rule,q11.2.more):(Int × Int × (List UInt8) × (TList Val) × Int × (List Raw)))) (R:=isv (((q11.2.kind,q11.2.n,q11.2.b,(TList.mk g11 q11.2.l),q11.2.rule,q11.2.more)):((Int × Int × (List UInt8) × (TList Val) × Int × (List Raw))))) ty46 e .here (by exact hI) ?_)))))))
  refine zY (zaR (R':=isv (q11.2)) 33 e (Cv.isv e fun S=>(fun cs h=>Cv.val cs (((Cv.pair Cv.id (Cv.pair Cv.id (Cv.pair Cv.id (Cv.pair Cv.tl (Cv.pair Cv.id Cv.id))))):Cv S ((q11.2.kind,q11.2.n,q11.2.b,(TList.mk g11 q11.2.l),q11.2.rule,q11.2.more):(Int × Int × (List UInt8) × (TList Val) × Int × (List Raw))) (Val.to q11.2)) cs h)))) (oT (zp (y':=(q11.2:Val)) ty46 e e hI tI e (rnf (zA ?_))))
  cases h
  exact zh (.cell e .here ty46 .nil) .nil ⟨e,e⟩
 refine z8 (.v 0 (.v 1 (.v 2 (.v 3 (.v 4 (.v 5 (.alt 6 (.v 7 (.t 8 (.t 9 .nil))) (.t 8 (.t 6 (.v 7 (.t 9 .nil))))))))))) moOrd (by kernel_rfl) ?_
 refine zy e (zE e Val.f0 zbU e (z:=a_v.kind)) (zy e (za ty3 e) (zy e (zE e Val.f1 zbk e (z:=a_v.n)) (zy e (za ty2 e) (zy e (zE e Val.f2 zbK e (z:=a_v.b)) (zy e (za ty42 e) (zb h fun y4 hy4 h=>zfr ?_ ?_))))))
 ·exact zay e e (zx (zd7 hy4) hT (s1 e) .nil (zy e (zar (z:=((a_v.kind,a_v.n,y4,(TList.mk none ([]:(List Val))),(0:Int),([]:(List Raw))):(Int × Int × (List UInt8) × (TList Val) × Int × (List Raw)))) e bu46 zmU (.cons znQ zbU e hI (.cons znU zbk e hI (.cons zn5 zbK e hI .nil)))) (zay e e (zac _ zmU fun b5=>ze8 (zaQ) (ze8 (zaQ) (zay e e (zp (y':=((a_v.kind,a_v.n,y4,(TList.mk none ([]:(List Val))),(0:Int),([]:(List Raw))):(Int × Int × (List UInt8) × (TList Val) × Int × (List Raw)))) ty46 e e hI tI e (zau (hJ3 _ (b5,none) h _ (zg 9 e e (zd (j:=3) e hI ze) (.cons .here (.cons .here (.cons tH .nil)))))))))))))
 exact zay e e (zac _ zmU fun b8=>ze8 (zaQ) (zay e e (zx (zd7 hy4) hT (s1 e) .nil (zy e (zar (z:=((a_v.kind,a_v.n,y4,(TList.mk none ([]:(List Val))),(0:Int),([]:(List Raw))):(Int × Int × (List UInt8) × (TList Val) × Int × (List Raw)))) e bu46 zmU (.cons znQ zbU e hI (.cons znU zbk e hI (.cons zn5 zbK e hI .nil)))) (ze8 (zaQ) (zay e e (zp (y':=((a_v.kind,a_v.n,y4,(TList.mk none ([]:(List Val))),(0:Int),([]:(List Raw))):(Int × Int × (List UInt8) × (TList Val) × Int × (List Raw)))) ty46 e e hI tI e (zau (hJ3 _ (b8,none) h _ (zg 9 e e (zd (j:=3) e hI ze) (.cons .here (.cons .here (.cons tH .nil)))))))))))))

theorem zgP:∀ n,zgZ (zeI n)
 | 0=>fun h=>(by cases h)
 | n + 1=>zlp (zgP n)
theorem zjg (n:Nat):zgZ (zeI n):=(zgP n)

theorem zkx:∀ {a_a:(List UInt8)} {a_b:(List UInt8)} {r:Bool},zj2 a_a a_b=some r→Ctr Tryz.prog 58 [isv (a_a),isv (a_b)] [] (fun R H=>R=oneOf [isv (r)]∧H=[]):=by
 intro a_a a_b r h
 unfold zj2 at h
 refine zq Tryz.func58 e fun w0 S0 hT=>wsr (oA e (rnf (wsr (oM e (oV (zqA (l:=a_a) Tryz.underlying42 Tryz.underlying5 Tryz.underlying9 e hI) (oM e (oV (zqA (l:=a_b) Tryz.underlying42 Tryz.underlying5 Tryz.underlying9 e hI) ?_)))))))
 refine oV (zcs eq9 e e) (oA e (rnf (zA ?_)))
 cases h
 exact zh (.tmp e .nil) .nil ⟨e,e⟩


theorem zr0:∀ {a_a:Raw} {a_b:Raw} {r:Bool},znC a_a a_b=some r→Ctr Tryz.prog 61 [isv (a_a),isv (a_b)] [] (fun R H=>R=oneOf [isv (r)]∧H=[]):=by
 intro a_a a_b r h
 unfold znC at h
 refine zq Tryz.func61 e fun w0 S0 hT=>wsr (oT (zai (y:=a_a) e hI (oT (zai (y:=a_b) e hI (oA e (rnf (wsr (oV (zE e Raw.f0 zem e (z:=a_a.n)) (oV (za ty3 e) ?_)))))))))
 refine oV (zE e Raw.f0 zem e (z:=a_b.n)) (oV (za ty3 e) (oV (zP e e) (oM e (zQ (jb 16) je .nil h 6 e (fun q1 g1 h=>?_) (fun J2 h hJ2=>?_)))))
 ·refine oA e (rnf (zA ?_))
  cases h
  exact zh (.tmp e .nil) .nil ⟨e,e⟩
 refine zm (j:=10) h e (fun g3 h=>?_) (fun g3 h=>?_)
 ·exact oK 10 e e e g3 (zE e Raw.f1 zf5 e (z:=a_a.b)) (oK 10 e e e g3 (za ty42 e) (oK 10 e e e g3 (zE e Raw.f1 zf5 e (z:=a_b.b)) (oK 10 e e e g3 (za ty42 e) (zb h fun y4 hy4 h=>zad e e (dj:=10) e g3 (zx (zkx hy4) hT (s2 e e) .nil (oV (zi e g3 e) (hJ2 _ () h _ (ji 6 16 e e e))))))))
 exact oP 10 e e g3 (oP 10 e e g3 (oP 10 e e g3 (oP 10 e e g3 (oP 10 e e g3 (oV (zj e g3 e) (hJ2 _ () h _ (ji 6 16 e e e)))))))


theorem zkN:∀ {a_a:(List Raw)} {a_b:(List Raw)} {r:Bool},ze5 a_a a_b=some r→Ctr Tryz.prog 60 [isv (a_a),isv (a_b),clov 61 []] [] (fun R H=>R=oneOf [isv (r)]∧H=[]):=by
 intro a_a a_b r h
 unfold ze5 at h
 refine zq Tryz.func60 e fun w0 S0 hT=>wsr (oA e (rnf (zn (wsr (oM e (oV (zaq (l:=a_a) e hI sl44) (oM e ?_)))))))
 refine oV (zaq (l:=a_b) e hI sl44) (oV (zaV e e) (rnf (zf h e (fun _ h=>?_) (fun _ h=>?_))))
 ·refine wsr (oA e (rnf (zA (zo ?_))))
  cases h
  exact zh (.tmp e .nil) .nil ⟨e,e⟩
 refine wkf (zn (wsr (oA e (rnf (zB (za4 (ι:=Int) (γ:=Unit) (fun q1 g1=>[(7,isv (q1))]) (fun q1 g1=>[]) h () (zd (j:=7) e hI ze) .nil (fun L2 q1 g1 Q11 h hL2 eL2 rL2=>zn (wsr ?_))))))))
 refine oM e (oM e (oV (zaq (l:=a_a) e hI sl44) (oV (zao e e) (rnf (zf h e (fun _ h=>?_) (fun _ h=>?_))))))
 ·refine wkf (zn (zB (zn (z8 (.v 0 (.v 1 (.v 2 (.v 3 (.v 4 (.v 5 (.v 6 (.v 7 (.v 8 (.t 9 (.v 10 .nil))))))))))) moOrd (by kernel_rfl) ?_))))
  refine rvm e e (rvm e e (rvm e e (zb h fun y7 hy7 h=>zy e (zam (l:=a_a) e hI e sl44 hy7) (zy e (za ty112 e) (rvm e e (rvm e e (zb h fun y8 hy8 h=>?_)))))))
  refine zy e (zam (l:=a_b) e hI e sl44 hy8) (zy e (za ty112 e) (zb h fun y9 hy9 h=>zay e e (zgF e (s2 e e) (zr0 hy9) hT .nil (fun R H' hR=>?_))))
  obtain ⟨rfl,rfl⟩:=hR
  refine zy e (zaD e) (zau (zD (zf h e (fun _ h=>?_) (fun _ h=>?_))))
  ·refine wsr (oA e (rnf (zA (zw (zo (rL2 _ (zw (zo ?_))))))))
   cases h
   exact zh (.tmp e .nil) .nil ⟨e,e⟩
  refine zZ (zt (zD (zr (oM e (zJ h fun q10 h=>oV (zah e e q10) (oA e (zG ?_)))))))
  exact hL2 _ () h _ (ji 19 7 e e e)
 refine zaj (zX (eL2 _ _ (zI (zD (wsr (oA e (rnf (zA ?_))))))))
 cases h
 exact zh (.tmp e .nil) .nil ⟨e,e⟩


def zey (f':(List Val)→(List Val)→Option (Bool)):Prop :=
 ∀ {a_a:(List Val)} {a_b:(List Val)} {r:Bool},f' a_a a_b=some r→Ctr Tryz.prog 59 [isv (a_a),isv (a_b),clov 32 []] [] (fun R H=>R=oneOf [isv (r)]∧H=[])
def ziU (f':Val→Val→Option (Bool)):Prop :=
 ∀ {a_a:Val} {a_b:Val} {r:Bool},f' a_a a_b=some r→Ctr Tryz.prog 32 [isv (a_a),isv (a_b)] [] (fun R H=>R=oneOf [isv (r)]∧H=[])
theorem zjc {zbE:(List Val)→(List Val)→Option (Bool)} {zfB:Val→Val→Option (Bool)} (zgd:zey zbE) (zmw:ziU zfB):∀ {a_a:(List Val)} {a_b:(List Val)} {r:Bool},zcz zbE zfB a_a a_b=some r→Ctr Tryz.prog 59 [isv (a_a),isv (a_b),clov 32 []] [] (fun R H=>R=oneOf [isv (r)]∧H=[]):=by
 intro a_a a_b r h
 unfold zcz at h
 refine zq Tryz.func59 e fun w0 S0 hT=>wsr (oA e (rnf (zn (wsr (oM e (oV (zaq (l:=a_a) e hI sl43) (oM e ?_)))))))
 refine oV (zaq (l:=a_b) e hI sl43) (oV (zaV e e) (rnf (zf h e (fun _ h=>?_) (fun _ h=>?_))))
 ·refine wsr (oA e (rnf (zA (zo ?_))))
  cases h
  exact zh (.tmp e .nil) .nil ⟨e,e⟩
 refine wkf (zn (wsr (oA e (rnf (zB (za4 (ι:=Int) (γ:=Unit) (fun q1 g1=>[(7,isv (q1))]) (fun q1 g1=>[]) h () (zd (j:=7) e hI ze) .nil (fun L2 q1 g1 Q11 h hL2 eL2 rL2=>zn (wsr ?_))))))))
 refine oM e (oM e (oV (zaq (l:=a_a) e hI sl43) (oV (zao e e) (rnf (zf h e (fun _ h=>?_) (fun _ h=>?_))))))
 ·refine wkf (zn (zB (zn (z8 (.v 0 (.v 1 (.v 2 (.v 3 (.v 4 (.v 5 (.v 6 (.v 7 (.v 8 (.t 9 (.v 10 .nil))))))))))) moOrd (by kernel_rfl) ?_))))
  refine rvm e e (rvm e e (rvm e e (zb h fun y7 hy7 h=>zy e (zam (l:=a_a) e hI e sl43 hy7) (zy e (za ty46 e) (rvm e e (rvm e e (zb h fun y8 hy8 h=>?_)))))))
  refine zy e (zam (l:=a_b) e hI e sl43 hy8) (zy e (za ty46 e) (zb h fun y9 hy9 h=>zay e e (zgF e (s2 e e) (zmw hy9) hT .nil (fun R H' hR=>?_))))
  obtain ⟨rfl,rfl⟩:=hR
  refine zy e (zaD e) (zau (zD (zf h e (fun _ h=>?_) (fun _ h=>?_))))
  ·refine wsr (oA e (rnf (zA (zw (zo (rL2 _ (zw (zo ?_))))))))
   cases h
   exact zh (.tmp e .nil) .nil ⟨e,e⟩
  refine zZ (zt (zD (zr (oM e (zJ h fun q10 h=>oV (zah e e q10) (oA e (zG ?_)))))))
  exact hL2 _ () h _ (ji 19 7 e e e)
 refine zaj (zX (eL2 _ _ (zI (zD (wsr (oA e (rnf (zA ?_))))))))
 cases h
 exact zh (.tmp e .nil) .nil ⟨e,e⟩

theorem zoK {zbE:(List Val)→(List Val)→Option (Bool)} {zfB:Val→Val→Option (Bool)} (zgd:zey zbE) (zmw:ziU zfB):∀ {a_a:Val} {a_b:Val} {r:Bool},zhu zbE zfB a_a a_b=some r→Ctr Tryz.prog 32 [isv (a_a),isv (a_b)] [] (fun R H=>R=oneOf [isv (r)]∧H=[]):=by
 intro a_a a_b r h
 unfold zhu at h
 refine zq Tryz.func32 e fun w0 S0 hT=>wsr (oT (zai (y:=a_a) e hI (oT (zai (y:=a_b) e hI (oA e (rnf (wsr (oV (zE e Val.f0 zbU e (z:=a_a.kind)) (oV (za ty3 e) ?_)))))))))
 refine oV (zE e Val.f0 zbU e (z:=a_b.kind)) (oV (za ty3 e) (oV (zP e e) (oM e (zQ (jb 16) je .nil h 6 e (fun q1 g1 h=>?_) (fun J2 h hJ2=>?_)))))
 ·refine oM e (zQ (jb 23) je .nil h 6 e (fun q4 g4 h=>?_) (fun J5 h hJ5=>?_))
  ·refine oM e (zQ (jb 30) je .nil h 6 e (fun q8 g8 h=>?_) (fun J9 h hJ9=>?_))
   ·refine oM e (zQ (jb 37) je .nil h 6 e (fun q12 g12 h=>?_) (fun J13 h hJ13=>?_))
    ·refine oM e (zQ (jb 44) je .nil h 6 e (fun q15 g15 h=>?_) (fun J16 h hJ16=>?_))
     ·refine oA e (rnf (zA ?_))
      cases h
      exact zh (.tmp e .nil) .nil ⟨e,e⟩
     refine zm (j:=38) h e (fun g17 h=>?_) (fun g17 h=>?_)
     ·exact oK 38 e e e g17 (zE e Val.f5 zdy e (z:=a_a.more)) (oK 38 e e e g17 (za ty44 e) (oK 38 e e e g17 (zE e Val.f5 zdy e (z:=a_b.more)) (oK 38 e e e g17 (za ty44 e) (zb h fun y18 hy18 h=>zad e e (dj:=38) e g17 (zx (zkN hy18) hT (s3 e e e) .nil (oV (zi e g17 e) (hJ16 _ () h _ (ji 6 44 e e e))))))))
     exact oP 38 e e g17 (oP 38 e e g17 (oP 38 e e g17 (oP 38 e e g17 (oP 38 e e g17 (oV (zj e g17 e) (hJ16 _ () h _ (ji 6 44 e e e)))))))
    refine zm (j:=31) h e (fun g14 h=>?_) (fun g14 h=>?_)
    ·exact oK 31 e e e g14 (zE e Val.f4 zcT e (z:=a_a.rule)) (oK 31 e e e g14 (za ty3 e) (oK 31 e e e g14 (zE e Val.f4 zcT e (z:=a_b.rule)) (oK 31 e e e g14 (za ty3 e) (oK 31 e e e g14 (zP e e) (oV (zi e g14 e) (hJ13 _ () h _ (ji 6 37 e e e)))))))
    exact oP 31 e e g14 (oP 31 e e g14 (oP 31 e e g14 (oP 31 e e g14 (oP 31 e e g14 (oV (zj e g14 e) (hJ13 _ () h _ (ji 6 37 e e e)))))))
   refine zm (j:=24) h e (fun g10 h=>?_) (fun g10 h=>?_)
   ·exact oK 24 e e e g10 (zE e Val.f3 zbl e (z:=a_a.l)) (oK 24 e e e g10 (za ty43 e) (oK 24 e e e g10 (zE e Val.f3 zbl e (z:=a_b.l)) (oK 24 e e e g10 (za ty43 e) (zb h fun y11 hy11 h=>zad e e (dj:=24) e g10 (zx (zgd hy11) hT (s3 e e e) .nil (oV (zi e g10 e) (hJ9 _ () h _ (ji 6 30 e e e))))))))
   exact oP 24 e e g10 (oP 24 e e g10 (oP 24 e e g10 (oP 24 e e g10 (oP 24 e e g10 (oV (zj e g10 e) (hJ9 _ () h _ (ji 6 30 e e e)))))))
  refine zm (j:=17) h e (fun g6 h=>?_) (fun g6 h=>?_)
  ·exact oK 17 e e e g6 (zE e Val.f2 zbK e (z:=a_a.b)) (oK 17 e e e g6 (za ty42 e) (oK 17 e e e g6 (zE e Val.f2 zbK e (z:=a_b.b)) (oK 17 e e e g6 (za ty42 e) (zb h fun y7 hy7 h=>zad e e (dj:=17) e g6 (zx (zkx hy7) hT (s2 e e) .nil (oV (zi e g6 e) (hJ5 _ () h _ (ji 6 23 e e e))))))))
  exact oP 17 e e g6 (oP 17 e e g6 (oP 17 e e g6 (oP 17 e e g6 (oP 17 e e g6 (oV (zj e g6 e) (hJ5 _ () h _ (ji 6 23 e e e)))))))
 refine zm (j:=10) h e (fun g3 h=>?_) (fun g3 h=>?_)
 ·exact oK 10 e e e g3 (zE e Val.f1 zbk e (z:=a_a.n)) (oK 10 e e e g3 (za ty2 e) (oK 10 e e e g3 (zE e Val.f1 zbk e (z:=a_b.n)) (oK 10 e e e g3 (za ty2 e) (oK 10 e e e g3 (zP e e) (oV (zi e g3 e) (hJ2 _ () h _ (ji 6 16 e e e)))))))
 exact oP 10 e e g3 (oP 10 e e g3 (oP 10 e e g3 (oP 10 e e g3 (oP 10 e e g3 (oV (zj e g3 e) (hJ2 _ () h _ (ji 6 16 e e e)))))))

theorem zfc:∀ n,zey (zfl n)∧ziU (zf4 n)
 | 0=>⟨fun h=>(by cases h),fun h=>(by cases h)⟩
 | n + 1=>by
  obtain ⟨h0,h1⟩:=zfc n
  exact ⟨zjc h0 h1,zoK h0 h1⟩
theorem zi4 (n:Nat):ziU (zf4 n):=(zfc n).2

def zit (f':Val→Option (Int)):Prop :=
 ∀ {a_v:Val} {r:Int},f' a_v=some r→Ctr Tryz.prog 62 [isv (a_v)] [] (fun R H=>R=oneOf [isv (r)]∧H=[])
theorem znp {zhT:Val→Option (Int)} (znP:zit zhT):∀ {a_v:Val} {r:Int},zfL zhT a_v=some r→Ctr Tryz.prog 62 [isv (a_v)] [] (fun R H=>R=oneOf [isv (r)]∧H=[]):=by
 intro a_v r h
 unfold zfL at h
 refine zq Tryz.func62 e fun w0 S0 hT=>wsr (oT (zai (y:=a_v) e hI (oA e (rnf (wsr (oA e (rnf (zn ?_))))))))
 refine wsr (oA e (rnf (zB (za4 (ι:=Int × Int) (γ:=Unit) (fun q1 g1=>[(3,isv (q1.1)),(4,isv (q1.2))]) (fun q1 g1=>[]) h () (zd (j:=3) e hI (zd (j:=4) e hI ze)) .nil (fun L2 q1 g1 Q11 h hL2 eL2 rL2=>zn (wsr (oM e (oV (zE e Val.f3 zbl e (z:=a_v.l)) ?_))))))))
 refine oV (za ty43 e) (oV (zaq (l:=a_v.l) e hI sl43) (oV (zao e e) (rnf (zf h e (fun _ h=>?_) (fun _ h=>?_)))))
 ·refine wkf (zn (zB (zr (oM e (oV (zE e Val.f3 zbl e (z:=a_v.l)) (oV (za ty43 e) (oM e (zb h fun y7 hy7 h=>?_))))))))
  refine oV (zam (l:=a_v.l) e hI e sl43 hy7) (oV (za ty46 e) (zb h fun y8 hy8 h=>oT (zx (znP hy8) hT (s1 e) .nil (zJ h fun q9 h=>oV (zah e e q9) (oA e (zG (zt ?_)))))))
  exact zD (zr (oM e (zJ h fun q10 h=>oV (zah e e q10) (oA e (zG (hL2 _ () h _ (zg 19 e e (zd (j:=3) e hI (zd (j:=4) e hI ze)) .nil)))))))
 refine zaj (zX (eL2 _ _ (zI (zD (wsr (oM e (oA e (rnf ?_))))))))
 refine zA ?_
 cases h
 exact zh (.tmp e .nil) .nil ⟨e,e⟩

theorem zh7:∀ n,zit (zhk n)
 | 0=>fun h=>(by cases h)
 | n + 1=>znp (zh7 n)
theorem zn6 (n:Nat):zit (zhk n):=(zh7 n)

theorem znz:∀ {a_t:GTab} {a_i:Int} {r:Bool},zi3 a_t a_i=some r→Ctr Tryz.prog 51 [isv (a_t),isv (a_i)] [] (fun R H=>R=oneOf [isv (r)]∧H=[]):=by
 intro a_t a_i r h
 unfold zi3 at h
 refine zq Tryz.func51 e fun w0 S0 hT=>wsr (oT (zai (y:=a_t) e hI (oA e (rnf (wsr (oM e (oV (zck e e) (oM e ?_))))))))
 refine zQ (jb 13) je .nil h 6 e (fun q1 g1 h=>?_) (fun J2 h hJ2=>?_)
 ·refine oA e (rnf (zA ?_))
  cases h
  exact zh (.tmp e .nil) .nil ⟨e,e⟩
 refine zm (j:=7) h e (fun g3 h=>?_) (fun g3 h=>?_)
 ·exact oK 7 e e e g3 (zu e) (oK 7 e e e g3 (zE e GTab.f3 zca e (z:=a_t.types)) (oK 7 e e e g3 (za ty24 e) (oK 7 e e e g3 (zaq (l:=a_t.types) e hI sl24) (oK 7 e e e g3 (zao e e) (oV (zi e g3 e) (hJ2 _ () h _ (ji 6 13 e e e)))))))
 exact oP 7 e e g3 (oP 7 e e g3 (oP 7 e e g3 (oP 7 e e g3 (oP 7 e e g3 (oV (zj e g3 e) (hJ2 _ () h _ (ji 6 13 e e e)))))))


theorem ziD:∀ {a_t:GTab} {a_i:Int} {r:(List (List Int))},zfh a_t a_i=some r→Ctr Tryz.prog 22 [isv (a_t),isv (a_i)] [] (fun R H=>R=oneOf [isv (r)]∧H=[]):=by
 intro a_t a_i r h
 unfold zfh at h
 refine zq Tryz.func22 e fun w0 S0 hT=>wsr (oT (zai (y:=a_t) e hI (oA e (zY (zaQ) (zY (zeT (α:=NL Int)) (zY (zaR 4 e nilvV) (rnf (zn ?_))))))))
 refine wsr (oV (za ty26 e) (oM e (zb h fun y3 hy3 h=>oT (zx (znz hy3) hT (s2 e e) .nil (oV (zaD e) (rnf (zf h e (fun _ h=>?_) (fun _ h=>?_))))))))
 ·refine wsr (oA e (zY (zaQ) (zY (zeT (α:=NL Int)) (zY (zaR 4 e nilvV) (rnf (zA (zo (zfy (zg1 4 .here e (by first | rfl | simp)) ?_))))))))
  refine zfy (zaR 4 e (zij (t:=none) (L:=(([]:(List (List Int))):List (List Int))))) ?_
  cases h
  exact zh (.tmp e .nil) .nil ⟨e,e⟩
 refine wkf (wsr (oV (zE e GTab.f3 zca e (z:=a_t.types)) (oV (za ty24 e) (oM e (zb h fun y6 hy6 h=>oV (zam (l:=a_t.types) e hI e sl24 hy6) (oV (za ty87 e) (oT (zac _ ze87 fun b7=>?_))))))))
 refine oT (zp (y':=(y6:GTyp)) ty87 e e hI .here e (zY (zaE 5 .here e) (rnf (zn (wsr (oV (zE e GTyp.f0 zbI e (z:=y6.kind)) (oV (za ty3 e) (oV (zaV e e) (oM e ?_)))))))))
 refine zQ (jb 25) je .nil h 4 e (fun q8 g8 h=>?_) (fun J9 h hJ9=>?_)
 ·refine oM e (zQ (jb 30) je .nil h 4 e (fun q11 g11 h=>?_) (fun J12 h hJ12=>?_))
  ·refine rnf (zf h e (fun _ h=>?_) (fun _ h=>?_))
   ·refine wsr (oA e (zY (zaQ) (zY (zeT (α:=NL Int)) (zY (zaR 4 e nilvV) (rnf (zA (zo (zfy (zg1 4 .here e (by first | rfl | simp)) ?_))))))))
    refine zfy (zaR 4 e (zij (t:=none) (L:=(([]:(List (List Int))):List (List Int))))) ?_
    cases h
    exact zh (.tmp e .nil) .nil ⟨e,e⟩
   refine wkf (wsr (oA e (zY (zaQ) (zY (zeT (α:=NL Int)) (zY (zaR 6 e nilvV) (rnf (zn (wsr ?_))))))))
   refine oV (zE e GTyp.f5 zfR e (z:=y6.root)) (oV (za ty3 e) (oA e (rnf (zB (za4 (ι:=(List (List Int)) × Int) (γ:=Vt × Tok) (fun q18 g18=>[(6,vecv g18.1 (q18.1.length)),(7,isv (q18.2))]) (fun q18 g18=>[vecE g18.1 (nestL g18.2 (q18.1:List (List Int))),tokE g18.2]) h (none,none) (zd (j:=6) e (vecvE (by first | rfl | simp)) (zd (j:=7) e hI ze)) k2 (fun L19 q18 g18 Q78 h hL19 eL19 rL19=>?_))))))
   refine zn (wsr (oM e (oV (zE e GTyp.f4 za2 e (z:=y6.fields)) (oV (za ty85 e) (oV (zaq (l:=y6.fields) e hI sl85) (oV (zao e e) (rnf (zf h e (fun _ h=>?_) (fun _ h=>?_)))))))))
   ·refine wkf (zn (zdF (ι:=(List (List Int))) (γ:=Vt × Tok) (fun q49 g49=>[(6,vecv g49.1 (q49.length))]) (fun q49 g49=>[vecE g49.1 (nestL g49.2 (q49:List (List Int))),tokE g49.2]) k2 h (fun q49 g49 h=>?_) (fun J50 h hJ50=>?_)))
    ·exact zr (oM e (zJ h fun q77 h=>oV (zah e e q77) (oA e (zG (hL19 _ (g49.1,g49.2) h _ (zg 11 e e (zd (j:=6) e (vecvE (by first | rfl | simp)) (zd (j:=7) e hI ze)) k4))))))
    refine zB (wsr (oV (zE e GTyp.f4 za2 e (z:=y6.fields)) (oV (za ty85 e) (oM e (zb h fun y51 hy51 h=>oV (zam (l:=y6.fields) e hI e sl85 hy51) (oV (zE e GFld.f5 zjC e (z:=y51.group)) (oV (za ty3 e) ?_)))))))
    refine oA e (rnf (wsr (oV (zE e GTyp.f0 zbI e (z:=y6.kind)) (oV (za ty3 e) (oV (zaV e e) (oM e (zQ (jb 52) je .nil h 3 e (fun q52 g52 h=>?_) (fun J53 h hJ53=>?_))))))))
    ·refine oM e (zQ (jb 58) je .nil h 5 e (fun q55 g55 h=>?_) (fun J56 h hJ56=>?_))
     ·refine oM e (zQ (jb 69) je .nil h 10 e (fun q58 g58 h=>?_) (fun J59 h hJ59=>?_))
      ·refine rnf (zf h e (fun _ h=>?_) (fun _ h=>?_))
       ·refine zr (oM e (oM e (oV (ziG sl36 e) (zJ h fun q63 h=>oV (zda e e q63) (oM e (oM e (oV (ziG sl36 e) ?_)))))))
        refine zJ h fun q64 h=>oV (zda e e q64) (zap h fun q65 h=>oV (zcu (α:=NL Int) sl36 e e q65.1 q65.2) (zap h fun q66 h=>zb h fun y67 hy67 h=>oT (zcX ty23 e .here (zgv q66 hy67) ?_)))
        refine zY (zaR 79 e zqH) (oM e (oT (z7 (l:=([q18.2]:(List Int))) el23 (.cons e hI .nil) e e (zas h fun q70 h=>oT (zbv (l:=y67) (m:=([q18.2]:(List Int))) zen e hI e zM tH q70 fun t69=>zap h fun q71 h=>oV (zcu (α:=NL Int) sl36 e e q71.1 q71.2) (zap h fun q72 h=>zb h fun y73 hy73 h=>?_))))))
        refine zY (zaR 82 e znl) (oT (zfG ty23 e e tH (zgv q72 hy73) (zY (zny .here (zkE q72)) (zY (zaR (R':=vecv g18.1 (q18.1.set ((((q18.1.length:Nat):Int) - (1:Int)).toNat) (y67 ++ ([q18.2]:(List Int)))).length) 6 e (vecvE (by simp))) ?_))))
        refine zY (zaR (R':=vecv g18.1 (q18.1.set ((((q18.1.length:Nat):Int) - (1:Int)).toNat) (y67 ++ ([q18.2]:(List Int)))).length) 70 e (vecvE (by simp))) ?_
        refine zY (zaR (R':=vecv g18.1 (q18.1.set ((((q18.1.length:Nat):Int) - (1:Int)).toNat) (y67 ++ ([q18.2]:(List Int)))).length) 71 e (vecvE (by simp))) ?_
        refine zY (zaR (R':=vecv g18.1 (q18.1.set ((((q18.1.length:Nat):Int) - (1:Int)).toNat) (y67 ++ ([q18.2]:(List Int)))).length) 74 e (vecvE (by simp))) ?_
        refine zY (zaR (R':=vecv g18.1 (q18.1.set ((((q18.1.length:Nat):Int) - (1:Int)).toNat) (y67 ++ ([q18.2]:(List Int)))).length) 75 e (vecvE (by simp))) ?_
        exact zG (zt (hJ50 _ (g18.1,t69) h _ (zg 37 e e (zd (j:=6) e (vecvE (by first | rfl | simp)) ze) k4)))
       refine zr (oM e (oM e (oT (z7 (l:=([q18.2]:(List Int))) el23 (.cons e hI .nil) e e (zY (zaQ) (oT (z7 (l:=[NL.mk (([q18.2]:(List Int))) (some none)]) el36 (.cons e znl .nil) e e (zas h fun q76 h=>oT (ziQ (m:=[NL.mk (([q18.2]:(List Int))) (some none)]) zmI e e zM tH (by first | rfl | simp) (by rw [zd5];exact q76) fun v75=>?_)))))))))
       refine zY (znr .here) (zY (zaR (R':=vecv v75 (q18.1 ++ [([q18.2]:(List Int))]).length) 88 e (vecvE (by simp))) ?_)
       exact oA e (zG (zt (hJ50 _ (v75,none) h _ (zg 23 e e (zd (j:=6) e (vecvE (by first | rfl | simp)) ze) (.cons .here (.cons .here (.cons tH (.cons tH .nil))))))))
      refine zm (j:=59) h e (fun g60 h=>?_) (fun g60 h=>?_)
      ·refine oK 59 e e e g60 (zE e GTyp.f4 za2 e (z:=y6.fields)) (oK 59 e e e g60 (za ty85 e) (oK 59 e e e g60 (zu e) (zJ h fun q61 h=>oK 59 e e e g60 (zda e e q61) (zb h fun y62 hy62 h=>oK 59 e e e g60 (zam (l:=y6.fields) e hI e sl85 hy62) (oK 59 e e e g60 (zE e GFld.f5 zjC e (z:=y62.group)) (oK 59 e e e g60 (za ty3 e) ?_))))))
       exact oK 59 e e e g60 (zu e) (oK 59 e e e g60 (zP e e) (oV (zi e g60 e) (hJ59 _ () h _ (zg 10 e e (zd (j:=69) e hI ze) k4))))
      refine oP 59 e e g60 (oP 59 e e g60 (oP 59 e e g60 (oP 59 e e g60 (oP 59 e e g60 (oP 59 e e g60 (oP 59 e e g60 (oP 59 e e g60 (oP 59 e e g60 ?_))))))))
      exact oV (zj e g60 e) (hJ59 _ () h _ (zg 10 e e (zd (j:=69) e hI ze) k4))
     refine zm (j:=53) h e (fun g57 h=>?_) (fun g57 h=>?_)
     ·exact oK 53 e e e g57 (zu e) (oK 53 e e e g57 (zE e GTyp.f5 zfR e (z:=y6.root)) (oK 53 e e e g57 (za ty3 e) (oK 53 e e e g57 (zbn e e) (oV (zi e g57 e) (hJ56 _ () h _ (zg 5 e e (zd (j:=58) e hI ze) k4))))))
     exact oP 53 e e g57 (oP 53 e e g57 (oP 53 e e g57 (oP 53 e e g57 (oV (zj e g57 e) (hJ56 _ () h _ (zg 5 e e (zd (j:=58) e hI ze) k4))))))
    refine zm (j:=49) h e (fun g54 h=>?_) (fun g54 h=>?_)
    ·exact oK 49 e e e g54 (zu e) (oK 49 e e e g54 (zbn e e) (oV (zi e g54 e) (hJ53 _ () h _ (zg 3 e e (zd (j:=52) e hI ze) k4))))
    exact oP 49 e e g54 (oP 49 e e g54 (oV (zj e g54 e) (hJ53 _ () h _ (zg 3 e e (zd (j:=52) e hI ze) k4))))
   refine zaj (zX (eL19 _ _ (zI (zD (wsr (oM e (oA e (rnf ?_))))))))
   refine zA (zfy (zg1 4 .here e (by first | rfl | simp)) ?_)
   refine zfy (zaR 4 e (zij (t:=g18.2) (L:=(q18.1:List (List Int))))) ?_
   cases h
   exact zh (.tmp e .nil) .nil ⟨e,e⟩
  refine zm (j:=26) h e (fun g13 h=>?_) (fun g13 h=>?_)
  ·exact oK 26 e e e g13 (zE e GTyp.f0 zbI e (z:=y6.kind)) (oK 26 e e e g13 (za ty3 e) (oK 26 e e e g13 (zaV e e) (oV (zi e g13 e) (hJ12 _ () h _ (zg 4 e e (zd (j:=30) e hI ze) k2)))))
  exact oP 26 e e g13 (oP 26 e e g13 (oP 26 e e g13 (oV (zj e g13 e) (hJ12 _ () h _ (zg 4 e e (zd (j:=30) e hI ze) k2)))))
 refine zm (j:=21) h e (fun g10 h=>?_) (fun g10 h=>?_)
 ·exact oK 21 e e e g10 (zE e GTyp.f0 zbI e (z:=y6.kind)) (oK 21 e e e g10 (za ty3 e) (oK 21 e e e g10 (zaV e e) (oV (zi e g10 e) (hJ9 _ () h _ (zg 4 e e (zd (j:=25) e hI ze) k2)))))
 exact oP 21 e e g10 (oP 21 e e g10 (oP 21 e e g10 (oV (zj e g10 e) (hJ9 _ () h _ (zg 4 e e (zd (j:=25) e hI ze) k2)))))


theorem zkJ:∀ {a_b:(List UInt8)} {r:UInt64 × Int × Int},zdR a_b=some r→Ctr Tryz.prog 190 [isv (a_b)] [] (fun R H=>R=oneOf [isv (r.1),isv (r.2.1),isv (r.2.2)]∧H=[]):=by
 intro a_b r h
 unfold zdR at h
 refine zq Tryz.func190 e fun w0 S0 hT=>wsr (oA e (oA e (oA e (rnf (wsr (oA e (rnf ?_)))))))
 refine zn (wsr (oA e (rnf (zB (za4 (ι:=UInt64 × Int) (γ:=Unit) (fun q1 g1=>[(5,isv (q1.1)),(6,isv (q1.2))]) (fun q1 g1=>[]) h () (zd (j:=5) e hI (zd (j:=6) e hI ze)) .nil (fun L2 q1 g1 Q27 h hL2 eL2 rL2=>zn (wsr (oM e ?_))))))))
 refine oM e (oV (zaq (l:=a_b) e hI sl42) (oV (zao e e) (rnf (zf h e (fun _ h=>?_) (fun _ h=>?_)))))
 ·refine wkf (zn (zB (zn (wsr (oM e (oV (zP e e) (oM e (zQ (jb 20) je .nil h 5 e (fun q15 g15 h=>?_) (fun J16 h hJ16=>?_)))))))))
  ·refine oM e (zQ (jb 24) je .nil h 3 e (fun q19 g19 h=>?_) (fun J20 h hJ20=>?_))
   ·refine rnf (zf h e (fun _ h=>?_) (fun _ h=>?_))
    ·refine wsr (oA e (oA e (oA e (rnf (zA (zo (zw (zo ?_))))))))
     refine rL2 _ (zw (zo ?_))
     cases h
     exact zh (.tmp e (.tmp e (.tmp e .nil))) .nil ⟨e,e⟩
    refine wkf (wsr (oM e (zas h fun q22 h=>oV (zfa e e q22) (oM e (oM e (zb h fun y23 hy23 h=>oV (zam (l:=a_b) e hI e sl42 hy23) ?_))))))
    refine oV (za ty5 e) (oV (zjD e e) (oV (zdD Tryz.underlying5 Tryz.underlying41 e) (oV (zev e e) (oA e (rnf (wsr (oM e (oM e ?_))))))))
    refine zb h fun y24 hy24 h=>oV (zam (l:=a_b) e hI e sl42 hy24) (oV (za ty5 e) (oV (zd8 e e) (rnf (zf h e (fun _ h=>?_) (fun _ h=>?_)))))
    ·refine wsr (oM e (oM e (zJ h fun q25 h=>oV (zah e e q25) (oA e (oA e (oA e (rnf ?_)))))))
     refine zA (zw (zo (rL2 _ (zw (zo ?_)))))
     cases h
     exact zh (.tmp e (.tmp e (.tmp e .nil))) .nil ⟨e,e⟩
    refine zZ (zt (zD (zr (oM e (zJ h fun q26 h=>oV (zah e e q26) (oA e (zG ?_)))))))
    exact hL2 _ () h _ (zg 30 e e (zd (j:=5) e hI (zd (j:=6) e hI ze)) .nil)
   refine zm (j:=21) h e (fun g21 h=>?_) (fun g21 h=>?_)
   ·exact oP 21 e e g21 (oP 21 e e g21 (oV (zi e g21 e) (hJ20 _ () h _ (ji 3 24 e e e))))
   exact oK 21 e e e g21 (zu e) (oK 21 e e e g21 (zr9 e e) (oV (zj e g21 e) (hJ20 _ () h _ (ji 3 24 e e e))))
  refine zm (j:=15) h e (fun g17 h=>?_) (fun g17 h=>?_)
  ·exact oK 15 e e e g17 (zu e) (zb h fun y18 hy18 h=>oK 15 e e e g17 (zam (l:=a_b) e hI e sl42 hy18) (oK 15 e e e g17 (za ty5 e) (oK 15 e e e g17 (zcs eq5 e e) (oV (zi e g17 e) (hJ16 _ () h _ (ji 5 20 e e e))))))
  exact oP 15 e e g17 (oP 15 e e g17 (oP 15 e e g17 (oP 15 e e g17 (oV (zj e g17 e) (hJ16 _ () h _ (ji 5 20 e e e))))))
 refine zaj (zX (eL2 _ _ (zI (zD (wsr (oA e (oA e (oA e ?_))))))))
 refine rnf (zA ?_)
 cases h
 exact zh (.tmp e (.tmp e (.tmp e .nil))) .nil ⟨e,e⟩


theorem zlZ:∀ {a_v:UInt64} {r:(List UInt8)},zeY a_v=some r→Ctr Tryz.prog 197 [isv (a_v)] [] (fun R H=>R=oneOf [isv (r)]∧H=[]):=by
 intro a_v r h
 unfold zeY at h
 refine zq Tryz.func197 e fun w0 S0 hT=>wsr (oA e (rnf (wsr (oM e (oV (zo7 Tryz.underlying41 Tryz.underlying5 e) (oT (z7 (l:=([a_v.toUInt8]:(List UInt8))) el42 (.cons e hI .nil) e e (oA e ?_))))))))
 refine rnf (zn (zB (zhc (zaQ) (za4 (ι:=UInt64 × (List UInt8)) (γ:=Tok) (fun q2 g2=>[(0,isv (q2.1)),(3,appv g2 (q2.2))]) (fun q2 g2=>[tokE g2]) h (none) (zd (j:=0) e hI (zd (j:=3) e hI ze)) k1 (fun L3 q2 g2 Q10 h hL3 eL3 rL3=>zn (wsr (oM e (oV (ziV e e) ?_))))))))
 refine rnf (zf h e (fun _ h=>?_) (fun _ h=>?_))
 ·refine wkf (zB (wsr (oM e (oV (zpg (q:=(8:UInt64)) e e (by decide)) ?_))))
  refine oA e (rnf (zr (oM e (oV (zo7 Tryz.underlying41 Tryz.underlying5 e) (oT (z7 (l:=([(q2.1 >>> (8:UInt64)).toUInt8]:(List UInt8))) el42 (.cons e hI .nil) e e (oM e (zY (zaQ) (zas h fun q9 h=>?_)))))))))
  exact oT (zbv (l:=([(q2.1 >>> (8:UInt64)).toUInt8]:(List UInt8))) (m:=q2.2) zjQ e hI e zM .here q9 fun t8=>oA e (zG (zt (hL3 _ (t8) h _ (zg 13 e e (zd (j:=0) e hI (zd (j:=3) e hI ze)) k1)))))
 refine zaj (zX (eL3 _ _ (zI (zD (wsr (oM e (oA e (rnf ?_))))))))
 refine zA ?_
 cases h
 exact zh (.as e zM .nil) .nil ⟨e,e⟩


theorem zjw:∀ {a_b:(List UInt8)} {r:UInt64 × Int},zc8 a_b=some r→Ctr Tryz.prog 191 [isv (a_b)] [] (fun R H=>R=oneOf [isv (r.1),isv (r.2)]∧H=[]):=by
 intro a_b r h
 unfold zc8 at h
 refine zq Tryz.func191 e fun w0 S0 hT=>wsr (oA e (oA e (rnf (zn (wsr (oM e (oV (zaq (l:=a_b) e hI sl42) ?_)))))))
 refine oV (zP e e) (rnf (zf h e (fun _ h=>?_) (fun _ h=>?_)))
 ·refine wsr (oA e (oA e (rnf (zA (zo ?_)))))
  cases h
  exact zh (.tmp e (.tmp e .nil)) .nil ⟨e,e⟩
 refine wkf (zn (wsr (oM e (oV (zaq (l:=a_b) e hI sl42) (oV (zbn e e) (rnf (zf h e (fun _ h=>?_) (fun _ h=>?_))))))))
 ·refine wsr (oA e (oA e (rnf (zA (zo ?_)))))
  cases h
  exact zh (.tmp e (.tmp e .nil)) .nil ⟨e,e⟩
 refine wkf (wsr (oA e (rnf (zn (wsr (oA e (rnf (zB ?_))))))))
 refine za4 (ι:=UInt64 × Int) (γ:=Unit) (fun q1 g1=>[(4,isv (q1.1)),(5,isv (q1.2))]) (fun q1 g1=>[]) h () (zd (j:=4) e hI (zd (j:=5) e hI ze)) .nil (fun L2 q1 g1 Q13 h hL2 eL2 rL2=>zn (wsr (oM e (oM e (oV (zaq (l:=a_b) e hI sl42) (oV (zao e e) (rnf (zf h e (fun _ h=>?_) (fun _ h=>?_)))))))))
 ·refine wkf (zn (zB (zr (oM e (zas h fun q8 h=>oV (zfa e e q8) (oM e (oM e ?_)))))))
  refine zb h fun y9 hy9 h=>oV (zam (l:=a_b) e hI e sl42 hy9) (oV (za ty5 e) (oV (zdD Tryz.underlying5 Tryz.underlying41 e) (oV (zev e e) (oA e (zG (zt (zD ?_)))))))
  exact zr (oM e (zJ h fun q10 h=>oV (zah e e q10) (oA e (zG (hL2 _ () h _ (zg 18 e e (zd (j:=4) e hI (zd (j:=5) e hI ze)) .nil))))))
 refine zaj (zX (eL2 _ _ (zI (zD (zn (wsr (oM e (zb h fun y11 hy11 h=>?_))))))))
 refine oT (zx (zlZ hy11) hT (s1 e) .nil (oM e (zb h fun y12 hy12 h=>oT (zx (zkx hy12) hT (s2 e e) .nil (oV (zaD e) (rnf (zf h e (fun _ h=>?_) (fun _ h=>?_))))))))
 ·refine wsr (oA e (oA e (rnf (zA (zo ?_)))))
  cases h
  exact zh (.tmp e (.tmp e .nil)) .nil ⟨e,e⟩
 refine wkf (wsr (oM e (oA e (oA e (rnf (zA ?_))))))
 cases h
 exact zh (.tmp e (.tmp e .nil)) .nil ⟨e,e⟩


theorem zlG:∀ {a_b:(List UInt8)} {r:Tag × Bool × Int × Int × Int},zeN a_b=some r→Ctr Tryz.prog 181 [isv (a_b)] [] (fun R H=>R=oneOf [isv (r.1),isv (r.2.1),isv (r.2.2.1),isv (r.2.2.2.1),isv (r.2.2.2.2)]∧H=[]):=by
 intro a_b r h
 unfold zeN at h
 refine zq Tryz.func181 e fun w0 S0 hT=>wsr (oT (zac _ ze31 fun b1=>oA e (oA e (oA e (oA e (rnf (zn ?_)))))))
 refine wsr (oM e (oV (zaq (l:=a_b) e hI sl42) (oV (zP e e) (rnf (zf h e (fun _ h=>?_) (fun _ h=>?_))))))
 ·refine wsr (oV (zar (z:=(Tag.mk (0:Int) (0:Int))) e bu31 ze31 .nil) (oT (zp (y':=((Tag.mk (0:Int) (0:Int)):Tag)) ty31 e e hI .here e (oA e (oA e (oA e (oA e (rnf (zA ?_)))))))))
  refine zo ?_
  cases h
  exact zh (.cell e .here ty31 (.tmp e (.tmp e (.tmp e (.tmp e .nil))))) .nil ⟨e,e⟩
 refine wkf (zn (z8 (.v 0 (.v 1 (.v 2 (.v 3 (.v 4 (.v 5 (.v 6 (.v 7 (.v 8 (.v 9 (.v 10 (.t 11 (.t 12 .nil))))))))))))) moOrd (by kernel_rfl) ?_))
 refine rvm e e (zb h fun y2 hy2 h=>zy e (zam (l:=a_b) e hI e sl42 hy2) (zy e (za ty5 e) (zas h fun q3 h=>zy e (zoZ e e q3) (zy e (zkY Tryz.underlying5 Tryz.underlying3 e) (rvm e e (zb h fun y4 hy4 h=>?_))))))
 refine zy e (zam (l:=a_b) e hI e sl42 hy4) (zy e (za ty5 e) (zy e (zjD e e) (zy e (zkY Tryz.underlying5 Tryz.underlying3 e) (zy e (zar (z:=(Tag.mk ((shr8 y2 (6:UInt64).toNat).toNat:Int) ((y4 &&& (31:UInt8)).toNat:Int))) e bu31 ze31 (.cons Tag.f0 zgz e hI (.cons Tag.f1 zdJ e hI .nil))) (zay e e (zac _ ze31 fun b5=>zay e e (zp (y':=((Tag.mk ((shr8 y2 (6:UInt64).toNat).toNat:Int) ((y4 &&& (31:UInt8)).toNat:Int)):Tag)) ty31 e e hI .here e (zau (zD ?_)))))))))
 refine wsr (oM e (zb h fun y6 hy6 h=>oV (zam (l:=a_b) e hI e sl42 hy6) (oV (za ty5 e) (oV (zjD e e) (oV (zkm eq5 e e) (oA e (rnf ?_)))))))
 refine wsr (oA e (rnf (zn (wsr (oV (zae e Tag.f1 zdJ) (oT (zK (R:=isv (((y4 &&& (31:UInt8)).toNat:Int))) ty3 e .here hI (oV (zP e e) (rnf ?_)))))))))
 refine zdF (ι:=Int × Tag) (γ:=Unit) (fun q7 g7=>[(9,isv (q7.1))]) (fun q7 g7=>[boxE b5 (q7.2:Tag)]) k1 h (fun q7 g7 h=>?_) (fun J8 h hJ8=>?_)
 ·refine zn (wsr (oM e (oM e (oV (zaq (l:=a_b) e hI sl42) (oV (zck e e) (rnf (zf h e (fun _ h=>?_) (fun _ h=>?_))))))))
  ·refine wsr (oV (zar (z:=(Tag.mk (0:Int) (0:Int))) e bu31 ze31 .nil) (oT (zp (y':=((Tag.mk (0:Int) (0:Int)):Tag)) ty31 e e hI tH e (oA e (oA e (oA e (oA e (rnf (zA ?_)))))))))
   refine zo ?_
   cases h
   exact zh (.cell e .here ty31 (.tmp e (.tmp e (.tmp e (.tmp e .nil))))) .nil ⟨e,e⟩
  refine wkf (wsr (oM e (oM e (zb h fun y16 hy16 h=>oV (zam (l:=a_b) e hI e sl42 hy16) (oV (za ty5 e) (oV (zkY Tryz.underlying5 Tryz.underlying3 e) (oA e ?_)))))))
  refine rnf (wsr (oM e (zJ h fun q17 h=>oV (zah e e q17) (oA e (rnf (zn (wsr ?_)))))))
  refine oM e (oV (zck e e) (rnf (zdF (ι:=Int × Int) (γ:=Unit) (fun q18 g18=>[(9,isv (q18.1)),(13,isv (q18.2))]) (fun q18 g18=>[]) .nil h (fun q18 g18 h=>?_) (fun J19 h hJ19=>?_))))
  ·refine wsr (oT (zK (R:=isv (q7.2)) ty31 e .here hI (oM e (oM e (oM e (oT (zp (y':=(q7.2:Tag)) ty31 e e hI tH e (oA e (oA e (oA e ?_))))))))))
   refine oA e (rnf (zA ?_))
   cases h
   exact zh (.cell e .here ty31 (.tmp e (.tmp e (.tmp e (.tmp e .nil))))) .nil ⟨e,e⟩
  refine zf h e (fun _ h=>?_) (fun _ h=>?_)
  ·refine wsr (oM e (zJ h fun q20 h=>oV (zda e e q20) (oA e (rnf (zn (wsr (oM e ?_)))))))
   refine oV (zP e e) (oM e (zQ (jb 84) je .nil h 3 e (fun q21 g21 h=>?_) (fun J22 h hJ22=>?_)))
   ·refine rnf (zf h e (fun _ h=>?_) (fun _ h=>?_))
    ·refine wsr (oV (zar (z:=(Tag.mk (0:Int) (0:Int))) e bu31 ze31 .nil) (oT (zp (y':=((Tag.mk (0:Int) (0:Int)):Tag)) ty31 e e hI tH e (oA e (oA e (oA e (oA e (rnf (zA ?_)))))))))
     refine zo (zo ?_)
     cases h
     exact zh (.cell e .here ty31 (.tmp e (.tmp e (.tmp e (.tmp e .nil))))) .nil ⟨e,e⟩
    refine wkf (zn (wsr (oM e (oV (zaq (l:=a_b) e hI sl42) (oM e (zJ h fun q24 h=>oV (zda e e q24) (oM e ?_)))))))
    refine oV (zao e e) (rnf (zf h e (fun _ h=>?_) (fun _ h=>?_)))
    ·refine wsr (oV (zar (z:=(Tag.mk (0:Int) (0:Int))) e bu31 ze31 .nil) (oT (zp (y':=((Tag.mk (0:Int) (0:Int)):Tag)) ty31 e e hI tH e (oA e (oA e (oA e (oA e (rnf (zA ?_)))))))))
     refine zo (zo ?_)
     cases h
     exact zh (.cell e .here ty31 (.tmp e (.tmp e (.tmp e (.tmp e .nil))))) .nil ⟨e,e⟩
    refine wkf (wsr (oM e (oM e (oM e (oM e (zJ h fun q25 h=>oV (zah e e q25) (zap h fun q26 h=>?_)))))))
    refine oV (zfk (l:=a_b) e hI sl42 (.inr ⟨_,e,e⟩) (.inr ⟨_,e,e⟩) q26.1 q26.2.1 q26.2.2) (zb h fun y27 hy27 h=>oT (zx (zjw hy27) hT (s1 e) .nil (oM e (oV (zO e e) (oV (zO e e) (oA e (oA e (rnf ?_))))))))
    refine zn (wsr (oM e (oV (zaV e e) (oM e (zQ (jb 108) je .nil h 3 e (fun q28 g28 h=>?_) (fun J29 h hJ29=>?_))))))
    ·refine oM e (zQ (jb 112) je .nil h 3 e (fun q31 g31 h=>?_) (fun J32 h hJ32=>?_))
     ·refine rnf (zf h e (fun _ h=>?_) (fun _ h=>?_))
      ·refine wsr (oV (zar (z:=(Tag.mk (0:Int) (0:Int))) e bu31 ze31 .nil) (oT (zp (y':=((Tag.mk (0:Int) (0:Int)):Tag)) ty31 e e hI tH e (oA e (oA e (oA e (oA e (rnf (zA ?_)))))))))
       refine zo (zo ?_)
       cases h
       exact zh (.cell e .here ty31 (.tmp e (.tmp e (.tmp e (.tmp e .nil))))) .nil ⟨e,e⟩
      refine wkf (zr (oM e (zJ h fun q34 h=>oV (zjJ Tryz.underlying41 Tryz.underlying3 e q34) (oM e (oM e (zJ h fun q35 h=>oV (zah e e q35) ?_))))))
      exact oA e (oA e (zG (hJ19 _ () h _ (zg 38 e e (zd (j:=9) e hI (zd (j:=13) e hI ze)) k2))))
     refine zm (j:=109) h e (fun g33 h=>?_) (fun g33 h=>?_)
     ·exact oP 109 e e g33 (oP 109 e e g33 (oV (zi e g33 e) (hJ32 _ () h _ (zg 3 e e (zd (j:=112) e hI ze) k2))))
     exact oK 109 e e e g33 (zu e) (oK 109 e e e g33 (ziV e e) (oV (zj e g33 e) (hJ32 _ () h _ (zg 3 e e (zd (j:=112) e hI ze) k2))))
    refine zm (j:=105) h e (fun g30 h=>?_) (fun g30 h=>?_)
    ·exact oP 105 e e g30 (oP 105 e e g30 (oV (zi e g30 e) (hJ29 _ () h _ (zg 3 e e (zd (j:=108) e hI ze) k2))))
    exact oK 105 e e e g30 (zu e) (oK 105 e e e g30 (zk8 e e) (oV (zj e g30 e) (hJ29 _ () h _ (zg 3 e e (zd (j:=108) e hI ze) k2))))
   refine zm (j:=81) h e (fun g23 h=>?_) (fun g23 h=>?_)
   ·exact oP 81 e e g23 (oP 81 e e g23 (oV (zi e g23 e) (hJ22 _ () h _ (zg 3 e e (zd (j:=84) e hI ze) k2))))
   exact oK 81 e e e g23 (zu e) (oK 81 e e e g23 (zbn e e) (oV (zj e g23 e) (hJ22 _ () h _ (zg 3 e e (zd (j:=84) e hI ze) k2))))
  exact zZ (hJ19 _ () h _ (zg 0 e e (zd (j:=9) e hI (zd (j:=13) e hI ze)) k2))
 refine zf h e (fun _ h=>?_) (fun _ h=>?_)
 ·refine wsr (oM e (zap h fun q9 h=>oV (zfk (l:=a_b) e hI sl42 (.inr ⟨_,e,e⟩) (.inl ⟨e,e⟩) q9.1 q9.2.1 q9.2.2) (zb h fun y10 hy10 h=>oT (zx (zkJ hy10) hT (s1 e) .nil (oM e (oV (zO e e) (oV (zO e e) ?_)))))))
  refine oV (zO e e) (oA e (oA e (oA e (rnf (zn (wsr (oM e (oV (zaV e e) ?_))))))))
  refine rnf (zf h e (fun _ h=>?_) (fun _ h=>?_))
  ·refine wsr (oV (zar (z:=(Tag.mk (0:Int) (0:Int))) e bu31 ze31 .nil) (oM e (oT (zp (y':=((Tag.mk (0:Int) (0:Int)):Tag)) ty31 e e hI tH e (oA e (oA e (oA e (oA e (rnf ?_)))))))))
   refine zA (zo (zo ?_))
   cases h
   exact zh (.cell e .here ty31 (.tmp e (.tmp e (.tmp e (.tmp e .nil))))) .nil ⟨e,e⟩
  refine wkf (zn (wsr (oM e (oV (zk8 e e) (oM e (zQ (jb 56) je .nil h 3 e (fun q11 g11 h=>?_) (fun J12 h hJ12=>?_)))))))
  ·refine rnf (zf h e (fun _ h=>?_) (fun _ h=>?_))
   ·refine wsr (oV (zar (z:=(Tag.mk (0:Int) (0:Int))) e bu31 ze31 .nil) (oT (zp (y':=((Tag.mk (0:Int) (0:Int)):Tag)) ty31 e e hI tH e (oA e (oA e (oA e (oA e (rnf (zA ?_)))))))))
    refine zo (zo ?_)
    cases h
    exact zh (.cell e .here ty31 (.tmp e (.tmp e (.tmp e (.tmp e .nil))))) .nil ⟨e,e⟩
   refine wkf (zr (oM e (zJ h fun q14 h=>oV (zjJ Tryz.underlying41 Tryz.underlying3 e q14) (oM e (zJ h fun q15 h=>oV (zah e e q15) (oV (zae e Tag.f1 zdJ) ?_))))))
   exact oT (zp (y':=((Tag.mk ((shr8 y2 (6:UInt64).toNat).toNat:Int) (y10.1.toNat:Int)):Tag)) ty3 e e hI .here e (oA e (zG (hJ8 _ () h _ (zg 22 e e (zd (j:=9) e hI ze) k2)))))
  refine zm (j:=53) h e (fun g13 h=>?_) (fun g13 h=>?_)
  ·exact oP 53 e e g13 (oP 53 e e g13 (oV (zi e g13 e) (hJ12 _ () h _ (zg 3 e e (zd (j:=56) e hI ze) k2))))
  exact oK 53 e e e g13 (zu e) (oK 53 e e e g13 (ziV e e) (oV (zj e g13 e) (hJ12 _ () h _ (zg 3 e e (zd (j:=56) e hI ze) k2))))
 exact zZ (hJ8 _ () h _ (zg 0 e e (zd (j:=9) e hI ze) k2))


theorem zmg:∀ {a_b:(List UInt8)} {r:(List UInt8)},zgH a_b=some r→Ctr Tryz.prog 182 [isv (a_b)] [] (fun R H=>R=oneOf [isv (r)]∧H=[]):=by
 intro a_b r h
 unfold zgH at h
 refine zq Tryz.func182 e fun w0 S0 hT=>wsr (oA e (rnf (wsr (oM e (zas h fun q2 h=>oT (zkF (m:=a_b) zjQ e e hI q2 fun t1=>oA e ?_))))))
 refine rnf (zA ?_)
 cases h
 exact zh (.as e zM .nil) .nil ⟨e,e⟩


theorem zox:∀ {a_b:(List UInt8)} {r:Tag × Bool × (List UInt8) × Int × Int},ziL a_b=some r→Ctr Tryz.prog 164 [isv (a_b)] [] (fun R H=>R=oneOf [isv (r.1),isv (r.2.1),isv (r.2.2.1),isv (r.2.2.2.1),isv (r.2.2.2.2)]∧H=[]):=by
 intro a_b r h
 unfold ziL at h
 refine zq Tryz.func164 e fun w0 S0 hT=>wsr (oT (zac _ ze31 fun b1=>oA e (oA e (oA e (oA e (rnf (wsr ?_)))))))
 refine oM e (zb h fun y2 hy2 h=>oT (zx (zlG hy2) hT (s1 e) .nil (oM e (oV (zO e e) (oV (zO e e) (oV (zO e e) (oV (zO e e) (oV (zO e e) ?_))))))))
 refine oT (zac _ ze31 fun b3=>oT (zp (y':=(y2.1:Tag)) ty31 e e hI .here e (zY (zaE 7 .here e) (oA e (oA e (oA e (oA e (rnf (zn ?_)))))))))
 refine wsr (oM e (oV (zaV e e) (rnf (zf h e (fun _ h=>?_) (fun _ h=>?_)))))
 ·refine wsr (oV (zar (z:=(Tag.mk (0:Int) (0:Int))) e bu31 ze31 .nil) (oM e (oT (zp (y':=((Tag.mk (0:Int) (0:Int)):Tag)) ty31 e e hI .here e (oA e (oA e (oA e (oA e (rnf ?_)))))))))
  refine zA (zo ?_)
  cases h
  exact zh (.cell e .here ty31 (.tmp e (.as e (zdc (α:=UInt8)) (.tmp e (.tmp e .nil))))) .nil ⟨e,e⟩
 refine wkf (zn (wsr (oM e (oM e (oV (zaq (l:=a_b) e hI sl42) (oM e (zJ h fun q4 h=>oV (zda e e q4) ?_)))))))
 refine oV (zbn e e) (rnf (zf h e (fun _ h=>?_) (fun _ h=>?_)))
 ·refine wsr (oV (zar (z:=(Tag.mk (0:Int) (0:Int))) e bu31 ze31 .nil) (oT (zp (y':=((Tag.mk (0:Int) (0:Int)):Tag)) ty31 e e hI .here e (oA e (oA e (oA e (oA e (rnf (zA ?_)))))))))
  refine zo ?_
  cases h
  exact zh (.cell e .here ty31 (.tmp e (.as e (zdc (α:=UInt8)) (.tmp e (.tmp e .nil))))) .nil ⟨e,e⟩
 refine wkf (zn (z8 (.v 0 (.v 1 (.v 2 (.v 3 (.v 4 (.v 5 (.v 6 (.v 7 (.v 9 (.v 10 (.v 11 (.t 8 (.t 12 (.v 13 (.v 14 (.v 15 (.v 16 .nil))))))))))))))))) moOrd (by kernel_rfl) ?_))
 refine zy e (za ty31 e) (rvm e e (rvm e e (rvm e e (rvm e e (rvm e e (zJ h fun q5 h=>zy e (zah e e q5) (zap h fun q6 h=>?_)))))))
 refine zy e (zfk (l:=a_b) e hI sl42 (.inr ⟨_,e,e⟩) (.inr ⟨_,e,e⟩) q6.1 q6.2.1 q6.2.2) (rvm e e (rvm e e (zJ h fun q7 h=>zy e (zah e e q7) (zb h fun y8 hy8 h=>zay e e (zx (zmg hy8) hT (s1 e) .nil (zay e e (zp (y':=(y2.1:Tag)) ty31 e e hI .here e (zy e (zaI e) ?_))))))))
 refine zy e (zaI e) (zy e (zaI e) (zy e (zaI e) (zau (zD (zA ?_)))))
 cases h
 exact zh (.cell e .here ty31 (.tmp e (.tmp e (.tmp e (.tmp e .nil))))) .nil ⟨e,e⟩


def zgt (f':(List GTyp)→Int→Option ((List Tag))):Prop :=
 ∀ {a_l:(List GTyp)} {a_i:Int} {r:(List Tag)},f' a_l a_i=some r→Ctr Tryz.prog 79 [isv (a_l),isv (a_i)] [] (fun R H=>R=oneOf [isv (r)]∧H=[])
theorem zk6 {zfx:(List GTyp)→Int→Option ((List Tag))} (zly:zgt zfx):∀ {a_l:(List GTyp)} {a_i:Int} {r:(List Tag)},zdO zfx a_l a_i=some r→Ctr Tryz.prog 79 [isv (a_l),isv (a_i)] [] (fun R H=>R=oneOf [isv (r)]∧H=[]):=by
 intro a_l a_i r h
 unfold zdO at h
 refine zq Tryz.func79 e fun w0 S0 hT=>wsr (oA e (rnf (zn (wsr (oM e (oM e (zb h fun y1 hy1 h=>?_)))))))
 refine oV (zam (l:=a_l) e hI e sl24 hy1) (oV (zE e GTyp.f1 zfU e (z:=y1.tags)) (oV (za ty78 e) (oV (zaq (l:=y1.tags) e hI sl78) (oV (zbn e e) (rnf (zf h e (fun _ h=>?_) (fun _ h=>?_)))))))
 ·refine wsr (oM e (oM e (zb h fun y2 hy2 h=>oV (zam (l:=a_l) e hI e sl24 hy2) (oV (zE e GTyp.f1 zfU e (z:=y2.tags)) (oV (za ty78 e) (zap h fun q3 h=>oV (zfk (l:=y2.tags) e hI sl78 (.inl ⟨e,e⟩) (.inr ⟨_,e,e⟩) q3.1 q3.2.1 q3.2.2) ?_))))))
  refine oA e (rnf (zA (zo ?_)))
  cases h
  exact zh (.tmp e .nil) .nil ⟨e,e⟩
 refine wkf (wsr (oA e (rnf (zn (wsr (oA e (rnf (zB ?_))))))))
 refine zhc (zaQ) (za4 (ι:=(List Tag) × Int) (γ:=Tok) (fun q4 g4=>[(5,appv g4 (q4.1)),(6,isv (q4.2))]) (fun q4 g4=>[tokE g4]) h (none) (zd (j:=5) e zb1 (zd (j:=6) e hI ze)) k1 (fun L5 q4 g4 Q21 h hL5 eL5 rL5=>zn (wsr (oM e (oM e (oM e (zb h fun y13 hy13 h=>oV (zam (l:=a_l) e hI e sl24 hy13) ?_)))))))
 refine oV (zE e GTyp.f4 za2 e (z:=y13.fields)) (oV (za ty85 e) (oV (zaq (l:=y13.fields) e hI sl85) (oV (zao e e) (rnf (zf h e (fun _ h=>?_) (fun _ h=>?_))))))
 ·refine wkf (zn (zB (zr (oM e (oM e (oM e (oM e (zb h fun y14 hy14 h=>?_))))))))
  refine oV (zam (l:=a_l) e hI e sl24 hy14) (oV (zE e GTyp.f4 za2 e (z:=y14.fields)) (oV (za ty85 e) (oM e (zb h fun y15 hy15 h=>oV (zam (l:=y14.fields) e hI e sl85 hy15) (oV (zE e GFld.f1 zdb e (z:=y15.ty)) (oV (za ty3 e) (zb h fun y16 hy16 h=>?_)))))))
  refine oT (zx (zly hy16) hT (s2 e e) .nil (zas h fun q18 h=>oT (zbv (l:=q4.1) (m:=y16) zgK e hI e hI .here q18 fun t17=>oA e (zG (zt (zD (zr (oM e ?_))))))))
  exact zJ h fun q19 h=>oV (zah e e q19) (oA e (zG (hL5 _ (t17) h _ (zg 27 e e (zd (j:=5) e hI (zd (j:=6) e hI ze)) k1))))
 refine zaj (zX (eL5 _ _ (zI (zD (wsr (oM e (oA e (rnf ?_))))))))
 refine zA ?_
 cases h
 exact zh (.as e zM .nil) .nil ⟨e,e⟩

theorem zgf:∀ n,zgt (zeU n)
 | 0=>fun h=>(by cases h)
 | n + 1=>zk6 (zgf n)
theorem zlo (n:Nat):zgt (zeU n):=(zgf n)

theorem zm5:∀ {a_t:GTab} {a_i:Int} {r:(List Tag)},zgn a_t a_i=some r→Ctr Tryz.prog 43 [isv (a_t),isv (a_i)] [] (fun R H=>R=oneOf [isv (r)]∧H=[]):=by
 intro a_t a_i r h
 unfold zgn at h
 refine zq Tryz.func43 e fun w0 S0 hT=>wsr (oT (zai (y:=a_t) e hI (oA e (rnf (zn (wsr (oM e (oV (zao e e) ?_))))))))
 refine oM e (zQ (jb 13) je .nil h 6 e (fun q1 g1 h=>?_) (fun J2 h hJ2=>?_))
 ·refine rnf (zf h e (fun _ h=>?_) (fun _ h=>?_))
  ·refine wsr (oA e (rnf (zA (zo ?_))))
   cases h
   exact zh (.as e (zdc (α:=Tag)) .nil) .nil ⟨e,e⟩
  refine wkf (wsr (oV (zE e GTab.f3 zca e (z:=a_t.types)) (oV (za ty24 e) (oM e (zb h fun y4 hy4 h=>oT (zx (zlo fuel hy4) hT (s2 e e) .nil (zas h fun q6 h=>oT (zkF (m:=y4) zgK e e hI q6 fun t5=>?_))))))))
  refine oA e (rnf (zA ?_))
  cases h
  exact zh (.as e zM .nil) .nil ⟨e,e⟩
 refine zm (j:=7) h e (fun g3 h=>?_) (fun g3 h=>?_)
 ·exact oP 7 e e g3 (oP 7 e e g3 (oP 7 e e g3 (oP 7 e e g3 (oP 7 e e g3 (oV (zi e g3 e) (hJ2 _ () h _ (ji 6 13 e e e)))))))
 exact oK 7 e e e g3 (zu e) (oK 7 e e e g3 (zE e GTab.f3 zca e (z:=a_t.types)) (oK 7 e e e g3 (za ty24 e) (oK 7 e e e g3 (zaq (l:=a_t.types) e hI sl24) (oK 7 e e e g3 (zck e e) (oV (zj e g3 e) (hJ2 _ () h _ (ji 6 13 e e e)))))))


theorem zj6:∀ {a_t:GTab} {a_i:Int} {a_b:(List UInt8)} {r:Tag × Bool},zfu a_t a_i a_b=some r→Ctr Tryz.prog 129 [isv (a_t),isv (a_i),isv (a_b)] [] (fun R H=>R=oneOf [isv (r.1),isv (r.2)]∧H=[]):=by
 intro a_t a_i a_b r h
 unfold zfu at h
 refine zq Tryz.func129 e fun w0 S0 hT=>wsr (oT (zai (y:=a_t) e hI (oT (zac _ ze31 fun b1=>oA e (rnf (wsr (oM e (zb h fun y2 hy2 h=>?_))))))))
 refine oT (zx (zox hy2) hT (s1 e) .nil (oM e (oV (zO e e) (oV (zO e e) (oV (zO e e) (oV (zO e e) (oV (zO e e) (oT (zac _ ze31 fun b3=>oT (zp (y':=(y2.1:Tag)) ty31 e e hI .here e ?_))))))))))
 refine zY (zaE 8 .here e) (oA e (oA e (oA e (oA e (rnf (zn (wsr (oM e ?_))))))))
 refine oV (zaV e e) (oM e (zQ (jb 30) je .nil h 5 e (fun q4 g4 h=>?_) (fun J5 h hJ5=>?_)))
 ·refine rnf (zf h e (fun _ h=>?_) (fun _ h=>?_))
  ·refine wsr (oV (za ty31 e) (oT (zp (y':=(y2.1:Tag)) ty31 e e hI .here e (oA e (rnf (zA (zo ?_)))))))
   cases h
   exact zh (.cell e .here ty31 (.tmp e .nil)) .nil ⟨e,e⟩
  refine wkf (wsr (oA e (rnf (zn (wsr (oV (zE e GTab.f3 zca e (z:=a_t.types)) (oV (za ty24 e) (oM e ?_))))))))
  refine zb h fun y7 hy7 h=>oV (zam (l:=a_t.types) e hI e sl24 hy7) (oV (zE e GTyp.f0 zbI e (z:=y7.kind)) (oV (za ty3 e) (oV (zP e e) (rnf (zdF (ι:=Int) (γ:=Unit) (fun q8 g8=>[(13,isv (q8))]) (fun q8 g8=>[]) .nil h (fun q8 g8 h=>?_) (fun J9 h hJ9=>?_))))))
  ·refine zn (wsr (oM e (oA e (rnf (zB (za4 (ι:=Int) (γ:=Unit) (fun q12 g12=>[(14,isv (q12))]) (fun q12 g12=>[]) h () (zd (j:=14) e hI ze) .nil (fun L13 q12 g12 Q26 h hL13 eL13 rL13=>zn (wsr ?_))))))))
   refine oM e (oV (zE e GTab.f3 zca e (z:=a_t.types)) (oV (za ty24 e) (oM e (zb h fun y20 hy20 h=>oV (zam (l:=a_t.types) e hI e sl24 hy20) (oV (zE e GTyp.f4 za2 e (z:=y20.fields)) (oV (za ty85 e) (oV (zaq (l:=y20.fields) e hI sl85) ?_)))))))
   refine oV (zao e e) (rnf (zf h e (fun _ h=>?_) (fun _ h=>?_)))
   ·refine wkf (zn (zB (zn (z8 (.v 0 (.v 1 (.v 2 (.v 3 (.v 4 (.v 5 (.v 6 (.v 7 (.v 8 (.v 9 (.v 10 (.v 12 (.t 11 (.t 13 .nil)))))))))))))) moOrd (by kernel_rfl) ?_))))
    refine zy e (za ty26 e) (zy e (zE e GTab.f3 zca e (z:=a_t.types)) (zy e (za ty24 e) (rvm e e (zb h fun y21 hy21 h=>zy e (zam (l:=a_t.types) e hI e sl24 hy21) (zy e (zE e GTyp.f4 za2 e (z:=y21.fields)) (zy e (za ty85 e) (rvm e e ?_)))))))
    refine zb h fun y22 hy22 h=>zy e (zam (l:=y21.fields) e hI e sl85 hy22) (zy e (zE e GFld.f1 zdb e (z:=y22.ty)) (zy e (za ty3 e) (zy e (za ty31 e) (zb h fun y23 hy23 h=>zay e e (zx (zm5 hy23) hT (s2 e e) .nil (zb h fun y24 hy24 h=>zay e e (zx (zig hy24) hT (s2 e e) .nil ?_)))))))
    refine zau (zD (zf h e (fun _ h=>?_) (fun _ h=>?_)))
    ·refine wsr (oV (za ty31 e) (oT (zp (y':=(y2.1:Tag)) ty31 e e hI .here e (oA e (rnf (zA (zw (zo (rL13 _ ?_)))))))))
     refine zw (zo ?_)
     cases h
     exact zh (.cell e .here ty31 (.tmp e .nil)) .nil ⟨e,e⟩
    refine zZ (zt (zD (zr (oM e (zJ h fun q25 h=>oV (zah e e q25) (oA e (zG ?_)))))))
    exact hL13 _ () h _ (jk 27 14 e e e)
   refine zaj (zX (eL13 _ _ (zI (zD (wsr (oV (za ty31 e) (oT (zp (y':=(y2.1:Tag)) ty31 e e hI .here e (oA e ?_)))))))))
   refine rnf (zA ?_)
   cases h
   exact zh (.cell e .here ty31 (.tmp e .nil)) .nil ⟨e,e⟩
  refine zf h e (fun _ h=>?_) (fun _ h=>?_)
  ·refine zr (oV (zE e GTab.f3 zca e (z:=a_t.types)) (oV (za ty24 e) (oM e (zb h fun y10 hy10 h=>oV (zam (l:=a_t.types) e hI e sl24 hy10) (oV (za ty87 e) (zb h fun y11 hy11 h=>oT (zx (zlF hy11) hT (s1 e) .nil ?_)))))))
   exact oA e (zG (hJ9 _ () h _ (jk 7 13 e e e)))
  exact zZ (hJ9 _ () h _ (jk 0 13 e e e))
 refine zm (j:=25) h e (fun g6 h=>?_) (fun g6 h=>?_)
 ·exact oP 25 e e g6 (oP 25 e e g6 (oP 25 e e g6 (oP 25 e e g6 (oV (zi e g6 e) (hJ5 _ () h _ (jk 5 30 e e e))))))
 exact oK 25 e e e g6 (zu e) (oK 25 e e e g6 (zu e) (oK 25 e e e g6 (zaq (l:=a_b) e hI sl42) (oK 25 e e e g6 (zaV e e) (oV (zj e g6 e) (hJ5 _ () h _ (jk 5 30 e e e))))))


theorem zlU:∀ {a_x:GTyp} {a_n_:Int} {r:Int},zfF a_x a_n_=some r→Ctr Tryz.prog 92 [isv (a_x),isv (a_n_)] [] (fun R H=>R=oneOf [isv (r)]∧H=[]):=by
 intro a_x a_n_ r h
 unfold zfF at h
 refine zq Tryz.func92 e fun w0 S0 hT=>wsr (oT (zai (y:=a_x) e hI (oA e (rnf (zn (wsr (oA e (rnf ?_))))))))
 refine zB (za4 (ι:=Int) (γ:=Unit) (fun q1 g1=>[(5,isv (q1))]) (fun q1 g1=>[]) h () (zd (j:=5) e hI ze) .nil (fun L2 q1 g1 Q7 h hL2 eL2 rL2=>zn (wsr (oM e (oV (zE e GTyp.f3 zh5 e (z:=a_x.items)) (oV (za ty84 e) (oV (zaq (l:=a_x.items) e hI sl84) (oV (zao e e) ?_))))))))
 refine rnf (zf h e (fun _ h=>?_) (fun _ h=>?_))
 ·refine wkf (zn (zB (wsr (oV (zE e GTyp.f3 zh5 e (z:=a_x.items)) (oV (za ty84 e) (oM e (zb h fun y5 hy5 h=>oV (zam (l:=a_x.items) e hI e sl84 hy5) ?_)))))))
  refine oV (zE e GItem.f1 zec e (z:=y5.number)) (oV (za ty2 e) (oM e (oV (zP e e) (rnf (zf h e (fun _ h=>?_) (fun _ h=>?_))))))
  ·refine wsr (oM e (oA e (rnf (zA (zw (zo (rL2 _ (zw ?_))))))))
   refine zo ?_
   cases h
   exact zh (.tmp e .nil) .nil ⟨e,e⟩
  refine zZ (zt (zD (zr (oM e (zJ h fun q6 h=>oV (zah e e q6) (oA e (zG ?_)))))))
  exact hL2 _ () h _ (ji 17 5 e e e)
 refine zaj (zX (eL2 _ _ (zI (zD (wsr (oA e (rnf (zA ?_))))))))
 cases h
 exact zh (.tmp e .nil) .nil ⟨e,e⟩


theorem zl2:∀ {a_b:(List UInt8)} {r:Bool},zg5 a_b=some r→Ctr Tryz.prog 130 [isv (a_b)] [] (fun R H=>R=oneOf [isv (r)]∧H=[]):=by
 intro a_b r h
 unfold zg5 at h
 refine zq Tryz.func130 e fun w0 S0 hT=>wsr (oA e (rnf (wsr (oM e (oV (zaq (l:=a_b) e hI sl42) (oV (zck e e) (oM e ?_)))))))
 refine zQ (jb 10) je .nil h 4 e (fun q1 g1 h=>?_) (fun J2 h hJ2=>?_)
 ·refine oA e (rnf (zA ?_))
  cases h
  exact zh (.tmp e .nil) .nil ⟨e,e⟩
 refine zm (j:=6) h e (fun g3 h=>?_) (fun g3 h=>?_)
 ·exact oK 6 e e e g3 (zu e) (oK 6 e e e g3 (zaq (l:=a_b) e hI sl42) (oK 6 e e e g3 (ziw e e) (oV (zi e g3 e) (hJ2 _ () h _ (ji 4 10 e e e)))))
 exact oP 6 e e g3 (oP 6 e e g3 (oP 6 e e g3 (oV (zj e g3 e) (hJ2 _ () h _ (ji 4 10 e e e)))))


theorem zl9:∀ {a_t:GTab} {a_i:Int} {a_v:Val} {r:Bool},zfN a_t a_i a_v=some r→Ctr Tryz.prog 89 [isv (a_t),isv (a_i),isv (a_v)] [] (fun R H=>R=oneOf [isv (r)]∧H=[]):=by
 intro a_t a_i a_v r h
 unfold zfN at h
 refine zq Tryz.func89 e fun w0 S0 hT=>wsr (oT (zai (y:=a_t) e hI (oT (zai (y:=a_v) e hI (oA e (rnf (wsr (oV (zE e GTab.f3 zca e (z:=a_t.types)) (oV (za ty24 e) ?_)))))))))
 refine oM e (zb h fun y1 hy1 h=>oV (zam (l:=a_t.types) e hI e sl24 hy1) (oV (za ty87 e) (oT (zac _ ze87 fun b2=>oT (zp (y':=(y1:GTyp)) ty87 e e hI .here e (zY (zaE 7 .here e) (rnf (zn ?_))))))))
 refine wsr (oV (zE e GTyp.f6 ziu e (z:=y1.more)) (oV (za ty4 e) (oV (zaD e) (oM e (zQ (jb 28) je .nil h 9 e (fun q3 g3 h=>?_) (fun J4 h hJ4=>?_))))))
 ·refine oM e (zQ (jb 34) je .nil h 5 e (fun q9 g9 h=>?_) (fun J10 h hJ10=>?_))
  ·refine oM e (zQ (jb 40) je .nil h 5 e (fun q12 g12 h=>?_) (fun J13 h hJ13=>?_))
   ·refine rnf (zf h e (fun _ h=>?_) (fun _ h=>?_))
    ·refine wsr (oA e (rnf (zA (zo ?_))))
     cases h
     exact zh (.tmp e .nil) .nil ⟨e,e⟩
    refine wkf (wsr (oV (zE e GTyp.f3 zh5 e (z:=y1.items)) (oV (za ty84 e) (oV (zaq (l:=y1.items) e hI sl84) (oV (zE e GTyp.f5 zfR e (z:=y1.root)) (oV (za ty3 e) (zJ h fun q15 h=>oV (zda e e q15) ?_)))))))
    refine oA e (rnf (zn (wsr (oV (zE e GTyp.f0 zbI e (z:=y1.kind)) (oV (za ty3 e) (oV (zP e e) (rnf (zdF (ι:=Int) (γ:=Unit) (fun q16 g16=>[(8,isv (q16))]) (fun q16 g16=>[]) .nil h (fun q16 g16 h=>?_) (fun J17 h hJ17=>?_)))))))))
    ·refine zn (zB (wsr (oV (zE e Val.f4 zcT e (z:=a_v.rule)) (oV (za ty3 e) (oV (zP e e) (oM e (zQ (jb 62) je .nil h 4 e (fun q19 g19 h=>?_) (fun J20 h hJ20=>?_))))))))
     ·refine oA e (rnf (zf h e (fun _ h=>?_) (fun _ h=>?_)))
      ·refine wsr (oV (za ty26 e) (oM e (oV (zE e Val.f2 zbK e (z:=a_v.b)) (oV (za ty42 e) (zb h fun y22 hy22 h=>oT (zx (zj6 hy22) hT (s3 e e e) .nil (oM e (oV (zO e e) ?_))))))))
       refine oV (zO e e) (oT (zac _ ze31 fun b23=>oT (zp (y':=(y22.1:Tag)) ty31 e e hI .here e (zY (zaE 9 .here e) (oA e (rnf (wsr (oM e (oM e ?_)))))))))
       refine zQ (jb 76) je .nil h 4 e (fun q24 g24 h=>?_) (fun J25 h hJ25=>?_)
       ·refine oA e (rnf (zA (zw (zo ?_))))
        cases h
        exact zh (.tmp e .nil) .nil ⟨e,e⟩
       refine zm (j:=72) h e (fun g26 h=>?_) (fun g26 h=>?_)
       ·exact oK 72 e e e g26 (zE e Val.f1 zbk e (z:=a_v.n)) (oK 72 e e e g26 (za ty2 e) (oK 72 e e e g26 (zP e e) (oV (zi e g26 e) (hJ25 _ () h _ (ji 4 76 e e e)))))
       exact oP 72 e e g26 (oP 72 e e g26 (oP 72 e e g26 (oV (zj e g26 e) (hJ25 _ () h _ (ji 4 76 e e e)))))
      refine wsr (oV (zE e Val.f4 zcT e (z:=a_v.rule)) (oV (za ty3 e) (oV (zP e e) (oA e (rnf (zf h e (fun _ h=>?_) (fun _ h=>?_)))))))
      ·refine wsr (oV (zE e Val.f2 zbK e (z:=a_v.b)) (oV (za ty42 e) (oV (zaq (l:=a_v.b) e hI sl42) (oV (zP e e) (oM e (zQ (jb 91) je .nil h 6 e (fun q27 g27 h=>?_) (fun J28 h hJ28=>?_)))))))
       ·refine oA e (rnf (zA (zw (zo ?_))))
        cases h
        exact zh (.tmp e .nil) .nil ⟨e,e⟩
       refine zm (j:=85) h e (fun g29 h=>?_) (fun g29 h=>?_)
       ·exact oK 85 e e e g29 (za ty87 e) (oK 85 e e e g29 (zE e Val.f1 zbk e (z:=a_v.n)) (oK 85 e e e g29 (za ty2 e) (zb h fun y30 hy30 h=>zad e e (dj:=85) e g29 (zx (zlU hy30) hT (s2 e e) .nil (oK 85 e e e g29 (zao e e) (oV (zi e g29 e) (hJ28 _ () h _ (ji 6 91 e e e))))))))
       exact oP 85 e e g29 (oP 85 e e g29 (oP 85 e e g29 (oP 85 e e g29 (oP 85 e e g29 (oV (zj e g29 e) (hJ28 _ () h _ (ji 6 91 e e e)))))))
      refine wsr (oV (zE e Val.f4 zcT e (z:=a_v.rule)) (oV (za ty3 e) (oV (zP e e) (oA e (rnf (zf h e (fun _ h=>?_) (fun _ h=>?_)))))))
      ·refine wsr (oV (zE e Val.f1 zbk e (z:=a_v.n)) (oV (za ty2 e) (oM e (oV (zck e e) (oM e (zQ (jb 104) je .nil h 4 e (fun q31 g31 h=>?_) (fun J32 h hJ32=>?_)))))))
       ·refine oM e (zQ (jb 125) je .nil h 20 e (fun q34 g34 h=>?_) (fun J35 h hJ35=>?_))
        ·refine oA e (rnf (zA (zw (zo ?_))))
         cases h
         exact zh (.tmp e .nil) .nil ⟨e,e⟩
        refine zm (j:=105) h e (fun g36 h=>?_) (fun g36 h=>?_)
        ·refine oK 105 e e e g36 (zE e GTyp.f0 zbI e (z:=y1.kind)) (oK 105 e e e g36 (za ty3 e) (oK 105 e e e g36 (zP e e) (oK 105 e e e g36 (zu e) (zQ (jb 113) je .nil h 4 e (fun q37 g37 h=>?_) (fun J38 h hJ38=>?_)))))
         ·refine oK 105 e e e g36 (zu e) (zQ (jb 124) je .nil h 10 e (fun q41 g41 h=>?_) (fun J42 h hJ42=>?_))
          ·exact oV (zi e g36 e) (hJ35 _ () h _ (ji 8 125 e e e))
          refine zm (j:=114) h e (fun g43 h=>?_) (fun g43 h=>?_)
          ·refine oP 114 e e g43 (oP 114 e e g43 (oP 114 e e g43 (oP 114 e e g43 (zk e (dj:=118) e (zk e (dj:=118) e (zk e (dj:=118) e (zk e (dj:=118) e (oP 114 e e g43 ?_))))))))
           exact oK 105 e e e g36 (zi e g43 e) (hJ42 _ () h _ (ji 10 124 e e e))
          refine oK 114 e e e g43 (zE e GTyp.f0 zbI e (z:=y1.kind)) (oK 114 e e e g43 (za ty3 e) (oK 114 e e e g43 (zP e e) (oK 114 e e e g43 (zu e) (zQ (jb 123) je .nil h 5 e (fun q44 g44 h=>?_) (fun J45 h hJ45=>?_)))))
          ·exact oK 105 e e e g36 (zj e g43 e) (hJ42 _ () h _ (ji 6 124 e e e))
          refine zm (j:=118) h e (fun g46 h=>?_) (fun g46 h=>?_)
          ·exact oK 118 e e e g46 (zE e Val.f2 zbK e (z:=a_v.b)) (oK 118 e e e g46 (za ty42 e) (oK 118 e e e g46 (zaq (l:=a_v.b) e hI sl42) (oK 118 e e e g46 (zP e e) (oK 114 e e e g43 (zi e g46 e) (hJ45 _ () h _ (ji 5 123 e e e))))))
          exact oP 118 e e g46 (oP 118 e e g46 (oP 118 e e g46 (oP 118 e e g46 (oK 114 e e e g43 (zj e g46 e) (hJ45 _ () h _ (ji 5 123 e e e))))))
         refine zm (j:=109) h e (fun g39 h=>?_) (fun g39 h=>?_)
         ·exact oK 109 e e e g39 (zE e Val.f2 zbK e (z:=a_v.b)) (oK 109 e e e g39 (za ty42 e) (zb h fun y40 hy40 h=>zad e e (dj:=109) e g39 (zx (zl2 hy40) hT (s1 e) .nil (oK 105 e e e g36 (zi e g39 e) (hJ38 _ () h _ (ji 4 113 e e e))))))
         exact oP 109 e e g39 (oP 109 e e g39 (oP 109 e e g39 (oK 105 e e e g36 (zj e g39 e) (hJ38 _ () h _ (ji 4 113 e e e)))))
        refine oP 105 e e g36 (oP 105 e e g36 (oP 105 e e g36 (oP 105 e e g36 (zk e (dj:=109) e (zk e (dj:=109) e (zk e (dj:=109) e (oP 105 e e g36 (oP 105 e e g36 ?_))))))))
        refine zk e (dj:=114) e (zk e (dj:=114) e (zk e (dj:=114) e (zk e (dj:=114) e (zk e (dj:=118) e (zk e (dj:=118) e (zk e (dj:=118) e (zk e (dj:=118) e (zk e (dj:=114) e ?_))))))))
        exact oP 105 e e g36 (oV (zj e g36 e) (hJ35 _ () h _ (ji 20 125 e e e)))
       refine zm (j:=100) h e (fun g33 h=>?_) (fun g33 h=>?_)
       ·exact oK 100 e e e g33 (zE e Val.f1 zbk e (z:=a_v.n)) (oK 100 e e e g33 (za ty2 e) (oK 100 e e e g33 (zao e e) (oV (zi e g33 e) (hJ32 _ () h _ (ji 4 104 e e e)))))
       exact oP 100 e e g33 (oP 100 e e g33 (oP 100 e e g33 (oV (zj e g33 e) (hJ32 _ () h _ (ji 4 104 e e e)))))
      refine zZ (zt (zD (wsr (oA e (rnf (zA ?_))))))
      cases h
      exact zh (.tmp e .nil) .nil ⟨e,e⟩
     refine zm (j:=58) h e (fun g21 h=>?_) (fun g21 h=>?_)
     ·exact oK 58 e e e g21 (zE e GTyp.f0 zbI e (z:=y1.kind)) (oK 58 e e e g21 (za ty3 e) (oK 58 e e e g21 (zP e e) (oV (zi e g21 e) (hJ20 _ () h _ (ji 4 62 e e e)))))
     exact oP 58 e e g21 (oP 58 e e g21 (oP 58 e e g21 (oV (zj e g21 e) (hJ20 _ () h _ (ji 4 62 e e e)))))
    refine zf h e (fun _ h=>?_) (fun _ h=>?_)
    ·exact zr (oV (za ty26 e) (oM e (zb h fun y18 hy18 h=>oT (zx (ziD hy18) hT (s2 e e) .nil (oV (zaq (l:=y18) e hI sl36) (oA e (zG (hJ17 _ () h _ (ji 5 8 e e e)))))))))
    exact zZ (hJ17 _ () h _ (ji 0 8 e e e))
   refine zm (j:=35) h e (fun g14 h=>?_) (fun g14 h=>?_)
   ·exact oP 35 e e g14 (oP 35 e e g14 (oP 35 e e g14 (oP 35 e e g14 (oV (zi e g14 e) (hJ13 _ () h _ (ji 5 40 e e e))))))
   exact oK 35 e e e g14 (zE e Val.f5 zdy e (z:=a_v.more)) (oK 35 e e e g14 (za ty44 e) (oK 35 e e e g14 (zaq (l:=a_v.more) e hI sl44) (oK 35 e e e g14 (zbn e e) (oV (zj e g14 e) (hJ13 _ () h _ (ji 5 40 e e e))))))
  refine zm (j:=29) h e (fun g11 h=>?_) (fun g11 h=>?_)
  ·exact oP 29 e e g11 (oP 29 e e g11 (oP 29 e e g11 (oP 29 e e g11 (oV (zi e g11 e) (hJ10 _ () h _ (ji 5 34 e e e))))))
  exact oK 29 e e e g11 (zE e Val.f3 zbl e (z:=a_v.l)) (oK 29 e e e g11 (za ty43 e) (oK 29 e e e g11 (zaq (l:=a_v.l) e hI sl43) (oK 29 e e e g11 (zbn e e) (oV (zj e g11 e) (hJ10 _ () h _ (ji 5 34 e e e))))))
 refine zm (j:=19) h e (fun g5 h=>?_) (fun g5 h=>?_)
 ·refine oP 19 e e g5 (oP 19 e e g5 (oP 19 e e g5 (oP 19 e e g5 (zk e (dj:=23) e (zk e (dj:=23) e (zk e (dj:=23) e (oP 19 e e g5 (oV (zi e g5 e) ?_))))))))
  exact hJ4 _ () h _ (ji 9 28 e e e)
 refine oK 19 e e e g5 (zE e GTyp.f0 zbI e (z:=y1.kind)) (oK 19 e e e g5 (za ty3 e) (oK 19 e e e g5 (zaV e e) (oK 19 e e e g5 (zu e) (zQ (jb 27) je .nil h 4 e (fun q6 g6 h=>?_) (fun J7 h hJ7=>?_)))))
 ·exact oV (zj e g5 e) (hJ4 _ () h _ (ji 6 28 e e e))
 refine zm (j:=23) h e (fun g8 h=>?_) (fun g8 h=>?_)
 ·exact oK 23 e e e g8 (zE e GTyp.f0 zbI e (z:=y1.kind)) (oK 23 e e e g8 (za ty3 e) (oK 23 e e e g8 (zaV e e) (oK 19 e e e g5 (zi e g8 e) (hJ7 _ () h _ (ji 4 27 e e e)))))
 exact oP 23 e e g8 (oP 23 e e g8 (oP 23 e e g8 (oK 19 e e e g5 (zj e g8 e) (hJ7 _ () h _ (ji 4 27 e e e)))))

end Go.Proofs.Q

