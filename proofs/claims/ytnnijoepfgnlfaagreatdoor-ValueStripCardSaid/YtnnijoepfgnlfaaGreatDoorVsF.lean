/- Walks, printed by mill.py. -/
import Derived.Test.YtnnijoepfgnlfaaGreatDoorVsA
import Derived.Test.YtnnijoepfgnlfaaGreatDoorVsB
import Derived.Test.YtnnijoepfgnlfaaGreatDoorVsC
import Derived.Test.YtnnijoepfgnlfaaGreatDoorVsD
import Derived.Test.YtnnijoepfgnlfaaGreatDoorVsE
set_option linter.unusedVariables false
set_option linter.unusedSimpArgs false

namespace Go.Proofs.Q
open Go.Sy
set_option maxRecDepth 4000
theorem zdf:∀ {a_v:Val} {a_n_:Bool} {a_b:Bool} {a_l:Bool} {zlW:Bool} {r:Bool},zcI a_v a_n_ a_b a_l zlW=some r→Ctr Tryz.prog 90 [isv (a_v),isv (a_n_),isv (a_b),isv (a_l),isv (zlW)] [] (fun R H=>R=oneOf [isv (r)]∧H=[]):=by
 intro a_v a_n_ a_b a_l zlW r h
 unfold zcI at h
 refine zq Tryz.func90 e fun w0 S0 hT=>wsr (oT (zai (y:=a_v) e hI (oA e (rnf (wsr (oM e (oM e (zQ (jb 16) je .nil h 4 e (fun q1 g1 h=>?_) (fun J2 h hJ2=>?_)))))))))
 ·refine oM e (zQ (jb 25) je .nil h 8 e (fun q4 g4 h=>?_) (fun J5 h hJ5=>?_))
  ·refine oM e (zQ (jb 34) je .nil h 8 e (fun q10 g10 h=>?_) (fun J11 h hJ11=>?_))
   ·refine oM e (zQ (jb 48) je .nil h 13 e (fun q16 g16 h=>?_) (fun J17 h hJ17=>?_))
    ·refine oA e (rnf (zA ?_))
     cases h
     exact zh (.tmp e .nil) .nil ⟨e,e⟩
    refine zm (j:=35) h e (fun g18 h=>?_) (fun g18 h=>?_)
    ·refine oK 35 e e e g18 (zu e) (oK 35 e e e g18 (zu e) (zQ (jb 47) je .nil h 10 e (fun q19 g19 h=>?_) (fun J20 h hJ20=>?_)))
     ·exact oV (zi e g18 e) (hJ17 _ () h _ (ji 4 48 e e e))
     refine zm (j:=37) h e (fun g21 h=>?_) (fun g21 h=>?_)
     ·refine oP 37 e e g21 (oP 37 e e g21 (oP 37 e e g21 (oP 37 e e g21 (zk e (dj:=41) e (zk e (dj:=41) e (zk e (dj:=41) e (zk e (dj:=41) e (oP 37 e e g21 ?_))))))))
      exact oK 35 e e e g18 (zi e g21 e) (hJ20 _ () h _ (ji 10 47 e e e))
     refine oK 37 e e e g21 (zE e Val.f4 zcT e (z:=a_v.rule)) (oK 37 e e e g21 (za ty3 e) (oK 37 e e e g21 (zP e e) (oK 37 e e e g21 (zu e) (zQ (jb 46) je .nil h 5 e (fun q22 g22 h=>?_) (fun J23 h hJ23=>?_)))))
     ·exact oK 35 e e e g18 (zj e g21 e) (hJ20 _ () h _ (ji 6 47 e e e))
     refine zm (j:=41) h e (fun g24 h=>?_) (fun g24 h=>?_)
     ·exact oK 41 e e e g24 (zE e Val.f5 zdy e (z:=a_v.more)) (oK 41 e e e g24 (za ty44 e) (oK 41 e e e g24 (zaq (l:=a_v.more) e hI sl44) (oK 41 e e e g24 (zP e e) (oK 37 e e e g21 (zi e g24 e) (hJ23 _ () h _ (ji 5 46 e e e))))))
     exact oP 41 e e g24 (oP 41 e e g24 (oP 41 e e g24 (oP 41 e e g24 (oK 37 e e e g21 (zj e g24 e) (hJ23 _ () h _ (ji 5 46 e e e))))))
    refine oP 35 e e g18 (oP 35 e e g18 (zk e (dj:=37) e (zk e (dj:=37) e (zk e (dj:=37) e (zk e (dj:=37) e (zk e (dj:=41) e (zk e (dj:=41) e (zk e (dj:=41) e ?_))))))))
    exact zk e (dj:=41) e (zk e (dj:=37) e (oP 35 e e g18 (oV (zj e g18 e) (hJ17 _ () h _ (ji 13 48 e e e)))))
   refine zm (j:=26) h e (fun g12 h=>?_) (fun g12 h=>?_)
   ·refine oK 26 e e e g12 (zu e) (oK 26 e e e g12 (zu e) (zQ (jb 33) je .nil h 5 e (fun q13 g13 h=>?_) (fun J14 h hJ14=>?_)))
    ·exact oV (zi e g12 e) (hJ11 _ () h _ (ji 4 34 e e e))
    refine zm (j:=28) h e (fun g15 h=>?_) (fun g15 h=>?_)
    ·exact oP 28 e e g15 (oP 28 e e g15 (oP 28 e e g15 (oP 28 e e g15 (oK 26 e e e g12 (zi e g15 e) (hJ14 _ () h _ (ji 5 33 e e e))))))
    exact oK 28 e e e g15 (zE e Val.f3 zbl e (z:=a_v.l)) (oK 28 e e e g15 (za ty43 e) (oK 28 e e e g15 (zaq (l:=a_v.l) e hI sl43) (oK 28 e e e g15 (zP e e) (oK 26 e e e g12 (zj e g15 e) (hJ14 _ () h _ (ji 5 33 e e e))))))
   exact oP 26 e e g12 (oP 26 e e g12 (zk e (dj:=28) e (zk e (dj:=28) e (zk e (dj:=28) e (zk e (dj:=28) e (oP 26 e e g12 (oV (zj e g12 e) (hJ11 _ () h _ (ji 8 34 e e e)))))))))
  refine zm (j:=17) h e (fun g6 h=>?_) (fun g6 h=>?_)
  ·refine oK 17 e e e g6 (zu e) (oK 17 e e e g6 (zu e) (zQ (jb 24) je .nil h 5 e (fun q7 g7 h=>?_) (fun J8 h hJ8=>?_)))
   ·exact oV (zi e g6 e) (hJ5 _ () h _ (ji 4 25 e e e))
   refine zm (j:=19) h e (fun g9 h=>?_) (fun g9 h=>?_)
   ·exact oP 19 e e g9 (oP 19 e e g9 (oP 19 e e g9 (oP 19 e e g9 (oK 17 e e e g6 (zi e g9 e) (hJ8 _ () h _ (ji 5 24 e e e))))))
   exact oK 19 e e e g9 (zE e Val.f2 zbK e (z:=a_v.b)) (oK 19 e e e g9 (za ty42 e) (oK 19 e e e g9 (zaq (l:=a_v.b) e hI sl42) (oK 19 e e e g9 (zP e e) (oK 17 e e e g6 (zj e g9 e) (hJ8 _ () h _ (ji 5 24 e e e))))))
  exact oP 17 e e g6 (oP 17 e e g6 (zk e (dj:=19) e (zk e (dj:=19) e (zk e (dj:=19) e (zk e (dj:=19) e (oP 17 e e g6 (oV (zj e g6 e) (hJ5 _ () h _ (ji 8 25 e e e)))))))))
 refine zm (j:=12) h e (fun g3 h=>?_) (fun g3 h=>?_)
 ·exact oP 12 e e g3 (oP 12 e e g3 (oP 12 e e g3 (oV (zi e g3 e) (hJ2 _ () h _ (ji 4 16 e e e)))))
 exact oK 12 e e e g3 (zE e Val.f1 zbk e (z:=a_v.n)) (oK 12 e e e g3 (za ty2 e) (oK 12 e e e g3 (zP e e) (oV (zj e g3 e) (hJ2 _ () h _ (ji 4 16 e e e)))))


theorem zoF:∀ {a_a:Tag} {a_b:Tag} {r:Bool},zio a_a a_b=some r→Ctr Tryz.prog 44 [isv (a_a),isv (a_b)] [] (fun R H=>R=oneOf [isv (r)]∧H=[]):=by
 intro a_a a_b r h
 unfold zio at h
 refine zq Tryz.func44 e fun w0 S0 hT=>wsr (oT (zai (y:=a_a) e hI (oT (zai (y:=a_b) e hI (oA e (rnf (wsr (oV (zE e Tag.f0 zgz e (z:=a_a.cls)) (oV (za ty3 e) ?_)))))))))
 refine oV (zE e Tag.f0 zgz e (z:=a_b.cls)) (oV (za ty3 e) (oV (zao e e) (oM e (zQ (jb 23) je .nil h 13 e (fun q1 g1 h=>?_) (fun J2 h hJ2=>?_)))))
 ·refine oA e (rnf (zA ?_))
  cases h
  exact zh (.tmp e .nil) .nil ⟨e,e⟩
 refine zm (j:=10) h e (fun g3 h=>?_) (fun g3 h=>?_)
 ·refine oP 10 e e g3 (oP 10 e e g3 (oP 10 e e g3 (oP 10 e e g3 (oP 10 e e g3 (oP 10 e e g3 (zk e (dj:=16) e (zk e (dj:=16) e (zk e (dj:=16) e ?_))))))))
  exact zk e (dj:=16) e (zk e (dj:=16) e (oP 10 e e g3 (oV (zi e g3 e) (hJ2 _ () h _ (ji 13 23 e e e)))))
 refine oK 10 e e e g3 (zE e Tag.f0 zgz e (z:=a_a.cls)) (oK 10 e e e g3 (za ty3 e) (oK 10 e e e g3 (zE e Tag.f0 zgz e (z:=a_b.cls)) (oK 10 e e e g3 (za ty3 e) (oK 10 e e e g3 (zP e e) (oK 10 e e e g3 (zu e) (zQ (jb 22) je .nil h 6 e (fun q4 g4 h=>?_) (fun J5 h hJ5=>?_)))))))
 ·exact oV (zj e g3 e) (hJ2 _ () h _ (ji 8 23 e e e))
 refine zm (j:=16) h e (fun g6 h=>?_) (fun g6 h=>?_)
 ·exact oK 16 e e e g6 (zE e Tag.f1 zdJ e (z:=a_a.num)) (oK 16 e e e g6 (za ty3 e) (oK 16 e e e g6 (zE e Tag.f1 zdJ e (z:=a_b.num)) (oK 16 e e e g6 (za ty3 e) (oK 16 e e e g6 (zao e e) (oK 10 e e e g3 (zi e g6 e) (hJ5 _ () h _ (ji 6 22 e e e)))))))
 exact oP 16 e e g6 (oP 16 e e g6 (oP 16 e e g6 (oP 16 e e g6 (oP 16 e e g6 (oK 10 e e e g3 (zj e g6 e) (hJ5 _ () h _ (ji 6 22 e e e)))))))


theorem zoM:∀ {a_t:GTab} {a_i:Int} {a_v:Val} {r:Bool},zgl a_t a_i a_v=some r→Ctr Tryz.prog 132 [isv (a_t),isv (a_i),isv (a_v)] [] (fun R H=>R=oneOf [isv (r)]∧H=[]):=by
 intro a_t a_i a_v r h
 unfold zgl at h
 refine zq Tryz.func132 e fun w0 S0 hT=>wsr (oT (zai (y:=a_t) e hI (oT (zai (y:=a_v) e hI (oA e (rnf (zn (wsr (oV (zE e Val.f5 zdy e (z:=a_v.more)) ?_)))))))))
 refine oV (za ty44 e) (oV (zaq (l:=a_v.more) e hI sl44) (oV (zP e e) (rnf (zf h e (fun _ h=>?_) (fun _ h=>?_)))))
 ·refine wsr (oV (zE e Val.f4 zcT e (z:=a_v.rule)) (oV (za ty3 e) (oV (zP e e) (oA e (rnf (zA (zo ?_)))))))
  cases h
  exact zh (.tmp e .nil) .nil ⟨e,e⟩
 refine wkf (zn (wsr (oV (zE e GTab.f3 zca e (z:=a_t.types)) (oV (za ty24 e) (oM e (zb h fun y1 hy1 h=>oV (zam (l:=a_t.types) e hI e sl24 hy1) (oV (zE e GTyp.f6 ziu e (z:=y1.more)) ?_)))))))
 refine oV (za ty4 e) (oV (zaD e) (oM e (zQ (jb 36) je .nil h 9 e (fun q2 g2 h=>?_) (fun J3 h hJ3=>?_))))
 ·refine rnf (zf h e (fun _ h=>?_) (fun _ h=>?_))
  ·refine wsr (oA e (rnf (zA (zo ?_))))
   cases h
   exact zh (.tmp e .nil) .nil ⟨e,e⟩
  refine wkf (wsr (oT (zac _ ze31 fun b8=>rnf (zn (wsr (oA e (rnf (zB ?_))))))))
  refine za4 (ι:=Int × Tag) (γ:=Unit) (fun q9 g9=>[(8,isv (q9.1))]) (fun q9 g9=>[boxE b8 (q9.2:Tag)]) h () (zd (j:=8) e hI ze) k1 (fun L10 q9 g9 Q79 h hL10 eL10 rL10=>zn (wsr (oM e (oV (zE e Val.f5 zdy e (z:=a_v.more)) (oV (za ty44 e) (oV (zaq (l:=a_v.more) e hI sl44) (oV (zao e e) (rnf ?_))))))))
  refine zf h e (fun _ h=>?_) (fun _ h=>?_)
  ·refine wkf (zn (zdF (ι:=Tag) (γ:=Unit) (fun q45 g45=>[]) (fun q45 g45=>[boxE b8 (q45:Tag)]) k1 h (fun q45 g45 h=>?_) (fun J46 h hJ46=>?_)))
   ·exact zr (oM e (zJ h fun q78 h=>oV (zah e e q78) (oA e (zG (hL10 _ () h _ (jk 9 8 e e e))))))
   refine zB (wsr (oV (zE e Val.f5 zdy e (z:=a_v.more)) (oV (za ty44 e) (oM e (zb h fun y47 hy47 h=>oV (zam (l:=a_v.more) e hI e sl44 hy47) (oV (za ty112 e) (oT (zac _ ze112 fun b48=>?_))))))))
   refine oT (zp (y':=(y47:Raw)) ty112 e e hI .here e (zY (zaE 9 .here e) (rnf (zn (wsr (oV (zE e Val.f4 zcT e (z:=a_v.rule)) (oV (za ty3 e) (oV (zP e e) (rnf ?_)))))))))
   refine zf h e (fun _ h=>?_) (fun _ h=>?_)
   ·refine wsr (oV (za ty26 e) (oM e (zb h fun y49 hy49 h=>oT (zx (ziD hy49) hT (s2 e e) .nil (oV (zaq (l:=y49) e hI sl36) (oA e (rnf (zn ?_))))))))
    refine wsr (oM e (oV (zbn e e) (rnf (zdF (ι:=Int) (γ:=Unit) (fun q50 g50=>[(10,isv (q50))]) (fun q50 g50=>[]) .nil h (fun q50 g50 h=>?_) (fun J51 h hJ51=>?_)))))
    ·refine zn (wsr (oV (zE e Raw.f0 zem e (z:=y47.n)) (oV (za ty3 e) (oM e (oV (zao e e) (oM e (zQ (jb 74) je .nil h 4 e (fun q55 g55 h=>?_) (fun J56 h hJ56=>?_))))))))
     ·refine oM e (zQ (jb 80) je .nil h 5 e (fun q58 g58 h=>?_) (fun J59 h hJ59=>?_))
      ·refine rnf (zf h e (fun _ h=>?_) (fun _ h=>?_))
       ·refine wsr (oA e (rnf (zA (zo (zo (zw (zo (rL10 _ ?_))))))))
        refine zw (zo ?_)
        cases h
        exact zh (.tmp e .nil) .nil ⟨e,e⟩
       exact wkf (zaj (zX (zI (hJ46 _ () h _ (jn 26 e e)))))
      refine zm (j:=75) h e (fun g60 h=>?_) (fun g60 h=>?_)
      ·exact oP 75 e e g60 (oP 75 e e g60 (oP 75 e e g60 (oP 75 e e g60 (oV (zi e g60 e) (hJ59 _ () h _ (jk 5 80 e e e))))))
      exact oK 75 e e e g60 (zE e Raw.f1 zf5 e (z:=y47.b)) (oK 75 e e e g60 (za ty42 e) (zb h fun y61 hy61 h=>zad e e (dj:=75) e g60 (zx (zl2 hy61) hT (s1 e) .nil (oK 75 e e e g60 (zaD e) (oV (zj e g60 e) (hJ59 _ () h _ (jk 5 80 e e e)))))))
     refine zm (j:=70) h e (fun g57 h=>?_) (fun g57 h=>?_)
     ·exact oP 70 e e g57 (oP 70 e e g57 (oP 70 e e g57 (oV (zi e g57 e) (hJ56 _ () h _ (jk 4 74 e e e)))))
     exact oK 70 e e e g57 (zE e Raw.f0 zem e (z:=y47.n)) (oK 70 e e e g57 (za ty3 e) (oK 70 e e e g57 (zck e e) (oV (zj e g57 e) (hJ56 _ () h _ (jk 4 74 e e e)))))
    refine zf h e (fun _ h=>?_) (fun _ h=>?_)
    ·refine zr (oV (zE e Val.f5 zdy e (z:=a_v.more)) (oV (za ty44 e) (oM e (zJ h fun q52 h=>oV (zda e e q52) (zb h fun y53 hy53 h=>oV (zam (l:=a_v.more) e hI e sl44 hy53) (oV (zE e Raw.f0 zem e (z:=y53.n)) ?_))))))
     exact oV (za ty3 e) (zJ h fun q54 h=>oV (zah e e q54) (oA e (zG (hJ51 _ () h _ (jk 9 10 e e e)))))
    exact zZ (hJ51 _ () h _ (jk 0 10 e e e))
   refine wkf (wsr (oV (za ty26 e) (oM e (oV (zE e Raw.f1 zf5 e (z:=y47.b)) (oV (za ty42 e) (zb h fun y62 hy62 h=>oT (zx (zj6 hy62) hT (s3 e e e) .nil (oM e ?_))))))))
   refine oV (zO e e) (oV (zO e e) (oT (zac _ ze31 fun b63=>oT (zp (y':=(y62.1:Tag)) ty31 e e hI .here e (zY (zaE 11 .here e) (oA e (rnf (zn (wsr ?_)))))))))
   refine oM e (oV (zaD e) (oM e (zQ (jb 95) je .nil h 4 e (fun q64 g64 h=>?_) (fun J65 h hJ65=>?_))))
   ·refine oM e (zQ (jb 114) je .nil h 18 e (fun q67 g67 h=>?_) (fun J68 h hJ68=>?_))
    ·refine rnf (zf h e (fun _ h=>?_) (fun _ h=>?_))
     ·refine wsr (oA e (rnf (zA (zo (zw (zo (rL10 _ (zw ?_))))))))
      refine zo ?_
      cases h
      exact zh (.tmp e .nil) .nil ⟨e,e⟩
     exact wkf (zr (oV (za ty31 e) (oT (zp (y':=(y62.1:Tag)) ty31 e e hI .here e (zG (zt (hJ46 _ () h _ (jn 28 e e))))))))
    refine zm (j:=96) h e (fun g69 h=>?_) (fun g69 h=>?_)
    ·refine oP 96 e e g69 (oP 96 e e g69 (oP 96 e e g69 (oP 96 e e g69 (oP 96 e e g69 (oP 96 e e g69 (oP 96 e e g69 (oP 96 e e g69 (zk e (dj:=104) e ?_))))))))
     refine zk e (dj:=104) e (oP 96 e e g69 (oP 96 e e g69 (zk e (dj:=108) e (zk e (dj:=108) e (zk e (dj:=108) e (zk e (dj:=108) e (oP 96 e e g69 (oV (zi e g69 e) ?_))))))))
     exact hJ68 _ () h _ (jk 18 114 e e e)
    refine oK 96 e e e g69 (zE e GTab.f3 zca e (z:=a_t.types)) (oK 96 e e e g69 (za ty24 e) (oK 96 e e e g69 (zu e) (zb h fun y70 hy70 h=>oK 96 e e e g69 (zam (l:=a_t.types) e hI e sl24 hy70) (oK 96 e e e g69 (zE e GTyp.f0 zbI e (z:=y70.kind)) (oK 96 e e e g69 (za ty3 e) (oK 96 e e e g69 (zP e e) (oK 96 e e e g69 (zu e) ?_)))))))
    refine zQ (jb 107) je .nil h 3 e (fun q71 g71 h=>?_) (fun J72 h hJ72=>?_)
    ·refine oK 96 e e e g69 (zu e) (zQ (jb 113) je .nil h 5 e (fun q74 g74 h=>?_) (fun J75 h hJ75=>?_))
     ·exact oV (zj e g69 e) (hJ68 _ () h _ (jk 12 114 e e e))
     refine zm (j:=108) h e (fun g76 h=>?_) (fun g76 h=>?_)
     ·exact zad e e (dj:=108) e g76 (zK (R:=isv (q9.2)) ty31 e .here hI (oK 108 e e e g76 (za ty31 e) (zb h fun y77 hy77 h=>zad e e (dj:=108) e g76 (zx (zoF hy77) hT (s2 e e) .nil (oK 108 e e e g76 (zaD e) (oK 96 e e e g69 (zi e g76 e) (hJ75 _ () h _ (jk 5 113 e e e))))))))
     exact oP 108 e e g76 (oP 108 e e g76 (oP 108 e e g76 (oP 108 e e g76 (oK 96 e e e g69 (zj e g76 e) (hJ75 _ () h _ (jk 5 113 e e e))))))
    refine zm (j:=104) h e (fun g73 h=>?_) (fun g73 h=>?_)
    ·exact oK 104 e e e g73 (zu e) (oK 104 e e e g73 (zbn e e) (oK 96 e e e g69 (zi e g73 e) (hJ72 _ () h _ (jk 3 107 e e e))))
    exact oP 104 e e g73 (oP 104 e e g73 (oK 96 e e e g69 (zj e g73 e) (hJ72 _ () h _ (jk 3 107 e e e))))
   refine zm (j:=91) h e (fun g66 h=>?_) (fun g66 h=>?_)
   ·exact oP 91 e e g66 (oP 91 e e g66 (oP 91 e e g66 (oV (zi e g66 e) (hJ65 _ () h _ (jk 4 95 e e e)))))
   exact oK 91 e e e g66 (zE e Raw.f0 zem e (z:=y47.n)) (oK 91 e e e g66 (za ty3 e) (oK 91 e e e g66 (zaV e e) (oV (zj e g66 e) (hJ65 _ () h _ (jk 4 95 e e e)))))
  refine zaj (zX (eL10 _ _ (zI (zD (wsr (oA e (rnf (zA ?_))))))))
  cases h
  exact zh (.tmp e .nil) .nil ⟨e,e⟩
 refine zm (j:=27) h e (fun g4 h=>?_) (fun g4 h=>?_)
 ·refine oP 27 e e g4 (oP 27 e e g4 (oP 27 e e g4 (oP 27 e e g4 (zk e (dj:=31) e (zk e (dj:=31) e (zk e (dj:=31) e (oP 27 e e g4 (oV (zi e g4 e) ?_))))))))
  exact hJ3 _ () h _ (ji 9 36 e e e)
 refine oK 27 e e e g4 (zE e Val.f4 zcT e (z:=a_v.rule)) (oK 27 e e e g4 (za ty3 e) (oK 27 e e e g4 (zaV e e) (oK 27 e e e g4 (zu e) (zQ (jb 35) je .nil h 4 e (fun q5 g5 h=>?_) (fun J6 h hJ6=>?_)))))
 ·exact oV (zj e g4 e) (hJ3 _ () h _ (ji 6 36 e e e))
 refine zm (j:=31) h e (fun g7 h=>?_) (fun g7 h=>?_)
 ·exact oK 31 e e e g7 (zE e Val.f4 zcT e (z:=a_v.rule)) (oK 31 e e e g7 (za ty3 e) (oK 31 e e e g7 (zaV e e) (oK 27 e e e g4 (zi e g7 e) (hJ6 _ () h _ (ji 4 35 e e e)))))
 exact oP 31 e e g7 (oP 31 e e g7 (oP 31 e e g7 (oK 27 e e e g4 (zj e g7 e) (hJ6 _ () h _ (ji 4 35 e e e)))))


def zh3 (f':GTab→Int→Val→Int→Option (Bool)):Prop :=
 ∀ {a_t:GTab} {a_i:Int} {a_v:Val} {zH:Int} {r:Bool},f' a_t a_i a_v zH=some r→Ctr Tryz.prog 94 [isv (a_t),isv (a_i),isv (a_v),isv (zH)] [] (fun R H=>R=oneOf [isv (r)]∧H=[])
def zh0 (f':GTab→Int→Val→Int→Option (Bool)):Prop :=
 ∀ {a_t:GTab} {a_i:Int} {a_v:Val} {zH:Int} {r:Bool},f' a_t a_i a_v zH=some r→Ctr Tryz.prog 63 [isv (a_t),isv (a_i),isv (a_v),isv (zH)] [] (fun R H=>R=oneOf [isv (r)]∧H=[])
theorem zma {zde:GTab→Int→Val→Int→Option (Bool)} {zds:GTab→Int→Val→Int→Option (Bool)} (zjS:zh3 zde) (zh2:zh0 zds):∀ {a_t:GTab} {a_i:Int} {a_v:Val} {zH:Int} {r:Bool},zd2 zde zds a_t a_i a_v zH=some r→Ctr Tryz.prog 94 [isv (a_t),isv (a_i),isv (a_v),isv (zH)] [] (fun R H=>R=oneOf [isv (r)]∧H=[]):=by
 intro a_t a_i a_v zH r h
 unfold zd2 at h
 refine zq Tryz.func94 e fun w0 S0 hT=>wsr (oT (zai (y:=a_t) e hI (oT (zai (y:=a_v) e hI (oA e (rnf (wsr (oV (zE e GTab.f3 zca e (z:=a_t.types)) (oV (za ty24 e) ?_)))))))))
 refine oM e (zb h fun y1 hy1 h=>oV (zam (l:=a_t.types) e hI e sl24 hy1) (oV (za ty87 e) (oT (zac _ ze87 fun b2=>oT (zp (y':=(y1:GTyp)) ty87 e e hI .here e (zY (zaE 9 .here e) (rnf (zn ?_))))))))
 refine wsr (oV (za ty46 e) (zb h fun y3 hy3 h=>oT (zx (zdf hy3) hT (.same e (s4 e e e e)) .nil (oV (zaD e) (oM e (zQ (jb 36) je .nil h 8 e (fun q4 g4 h=>?_) (fun J5 h hJ5=>?_)))))))
 ·refine oM e (zQ (jb 43) je .nil h 6 e (fun q7 g7 h=>?_) (fun J8 h hJ8=>?_))
  ·refine rnf (zf h e (fun _ h=>?_) (fun _ h=>?_))
   ·refine wsr (oA e (rnf (zA (zo ?_))))
    cases h
    exact zh (.tmp e .nil) .nil ⟨e,e⟩
   refine wkf (zn (wsr (oA e (rnf (zB (za4 (ι:=Int) (γ:=Unit) (fun q11 g11=>[(10,isv (q11))]) (fun q11 g11=>[]) h () (zd (j:=10) e hI ze) .nil (fun L12 q11 g11 Q313 h hL12 eL12 rL12=>zn (wsr ?_))))))))
   refine oM e (oV (zE e GTyp.f4 za2 e (z:=y1.fields)) (oV (za ty85 e) (oV (zaq (l:=y1.fields) e hI sl85) (oV (zao e e) (rnf (zf h e (fun _ h=>?_) (fun _ h=>?_)))))))
   ·refine wkf (zn (zdF (ι:=Unit) (γ:=Unit) (fun q163 g163=>[]) (fun q163 g163=>[]) .nil h (fun q163 g163 h=>?_) (fun J164 h hJ164=>?_)))
    ·exact zr (oM e (zJ h fun q190 h=>oV (zah e e q190) (oA e (zG (hL12 _ () h _ (ji 9 10 e e e))))))
    refine zB (wsr (oV (zE e GTyp.f4 za2 e (z:=y1.fields)) (oV (za ty85 e) (oM e (zb h fun y165 hy165 h=>oV (zam (l:=y1.fields) e hI e sl85 hy165) (oV (za ty92 e) (oT (zac _ ze92 fun b166=>?_))))))))
    refine oT (zp (y':=(y165:GFld)) ty92 e e hI .here e (zY (zaE 11 .here e) (rnf (wsr (oV (zE e GFld.f2 zkz e (z:=y165.optional)) (oV (za ty4 e) (oM e (zQ (jb 61) je .nil h 3 e (fun q167 g167 h=>?_) (fun J168 h hJ168=>?_)))))))))
    ·refine oA e (rnf (zn (wsr (oV (zE e Val.f3 zbl e (z:=a_v.l)) (oV (za ty43 e) (oM e (zb h fun y170 hy170 h=>oV (zam (l:=a_v.l) e hI e sl43 hy170) ?_)))))))
     refine oV (zE e Val.f0 zbU e (z:=y170.kind)) (oV (za ty3 e) (oV (zP e e) (rnf (zf h e (fun _ h=>?_) (fun _ h=>?_)))))
     ·refine zn (wsr (oV (zE e Val.f3 zbl e (z:=a_v.l)) (oV (za ty43 e) (oM e (zb h fun y171 hy171 h=>oV (zam (l:=a_v.l) e hI e sl43 hy171) (oV (za ty46 e) (oV (zar (z:=(Val.mk (0:Int) (0:Int) ([]:(List UInt8)) ([]:(List Val)) (0:Int) ([]:(List Raw)))) e bu46 ze46 .nil) ?_)))))))
      refine zb h fun y172 hy172 h=>oT (zx (zi4 fuel hy172) hT (s2 e e) .nil (oV (zaD e) (oM e (zQ (jb 86) je .nil h 9 e (fun q173 g173 h=>?_) (fun J174 h hJ174=>?_)))))
      ·refine rnf (zf h e (fun _ h=>?_) (fun _ h=>?_))
       ·refine wsr (oA e (rnf (zA (zo (zo (zw (zo (rL12 _ ?_))))))))
        refine zw (zo ?_)
        cases h
        exact zh (.tmp e .nil) .nil ⟨e,e⟩
       exact wkf (zaj (zX (zI (hJ164 _ () h _ (j0 29 e e)))))
      refine zm (j:=77) h e (fun g175 h=>?_) (fun g175 h=>?_)
      ·refine oP 77 e e g175 (oP 77 e e g175 (oP 77 e e g175 (zk e (dj:=80) e (zk e (dj:=80) e (zk e (dj:=80) e (zk e (dj:=80) e (oP 77 e e g175 (oV (zi e g175 e) ?_))))))))
       exact hJ174 _ () h _ (ji 9 86 e e e)
      refine oK 77 e e e g175 (zu e) (oK 77 e e e g175 (zaD e) (oK 77 e e e g175 (zu e) (zQ (jb 85) je .nil h 5 e (fun q176 g176 h=>?_) (fun J177 h hJ177=>?_))))
      ·exact oV (zj e g175 e) (hJ174 _ () h _ (ji 5 86 e e e))
      refine zm (j:=80) h e (fun g178 h=>?_) (fun g178 h=>?_)
      ·exact oK 80 e e e g178 (zu e) (oK 80 e e e g178 (zE e GTyp.f5 zfR e (z:=y1.root)) (oK 80 e e e g178 (za ty3 e) (oK 80 e e e g178 (zao e e) (oK 77 e e e g175 (zi e g178 e) (hJ177 _ () h _ (ji 5 85 e e e))))))
      exact oP 80 e e g178 (oP 80 e e g178 (oP 80 e e g178 (oP 80 e e g178 (oK 77 e e e g175 (zj e g178 e) (hJ177 _ () h _ (ji 5 85 e e e))))))
     refine wkf (zn (z8 (.v 0 (.v 1 (.v 2 (.v 3 (.v 4 (.v 5 (.v 6 (.v 7 (.v 8 (.v 9 (.t 10 (.v 11 (.v 12 (.v 13 (.v 14 (.v 15 (.v 16 (.v 17 (.v 18 (.v 19 (.v 20 (.v 21 (.v 22 (.t 23 (.v 24 (.v 25 .nil)))))))))))))))))))))))))) moOrd (by kernel_rfl) ?_))
     refine zy e (za ty26 e) (zy e (zE e GFld.f1 zdb e (z:=y165.ty)) (zy e (za ty3 e) (zy e (zE e Val.f3 zbl e (z:=a_v.l)) (zy e (za ty43 e) (rvm e e (zb h fun y179 hy179 h=>zy e (zam (l:=a_v.l) e hI e sl43 hy179) (zy e (za ty46 e) ?_)))))))
     refine rvm e e (zJ h fun q180 h=>zy e (zah e e q180) (zb h fun y181 hy181 h=>zay e e (zx (zh2 hy181) hT (s4 e e e e) .nil (zy e (zaD e) (rvm e e (zcZ (jb 112) je .nil h 13 e (fun q182 g182 h=>?_) (fun J183 h hJ183=>?_)))))))
     ·refine zau (zD (zf h e (fun _ h=>?_) (fun _ h=>?_)))
      ·refine wsr (oA e (rnf (zA (zw (zo (rL12 _ (zw (zo ?_))))))))
       cases h
       exact zh (.tmp e .nil) .nil ⟨e,e⟩
      exact zZ (zt (hJ164 _ () h _ (j0 33 e e)))
     refine zaG (j:=99) h e (fun g184 h=>?_) (fun g184 h=>?_)
     ·refine rpv 99 e e e g184 (rpv 99 e e e g184 (rpv 99 e e e g184 (zbO e e (dj:=102) e (zbO e e (dj:=102) e (zbO e e (dj:=102) e (zbO e e (dj:=102) e (zbO e e (dj:=102) e (zbO e e (dj:=102) e ?_))))))))
      exact zbO e e (dj:=102) e (zkv e e (dj:=102) e (rpv 99 e e e g184 (zy e (zi e g184 e) (hJ183 _ () h _ (ji 13 112 e e e)))))
     refine rvt 99 e e e g184 (zE e GFld.f3 zhL e (z:=y165.has)) (rvt 99 e e e g184 (za ty4 e) (rvt 99 e e e g184 (zu e) (zcZ (jb 111) je .nil h 9 e (fun q185 g185 h=>?_) (fun J186 h hJ186=>?_))))
     ·exact zy e (zj e g184 e) (hJ183 _ () h _ (ji 5 112 e e e))
     refine zaG (j:=102) h e (fun g187 h=>?_) (fun g187 h=>?_)
     ·refine rvt 102 e e e g187 (zE e Val.f3 zbl e (z:=a_v.l)) (rvt 102 e e e g187 (za ty43 e) (rvt 102 e e e g187 (zu e) (zb h fun y188 hy188 h=>rvt 102 e e e g187 (zam (l:=a_v.l) e hI e sl43 hy188) (rvt 102 e e e g187 (za ty46 e) (rvt 102 e e e g187 (zE e GFld.f4 zlg e (z:=y165.dflt)) (rvt 102 e e e g187 (za ty46 e) (zb h fun y189 hy189 h=>?_)))))))
      exact zfW e e e (dj:=102) e g187 (zx (zi4 fuel hy189) hT (s2 e e) .nil (rvt 99 e e e g184 (zi e g187 e) (hJ186 _ () h _ (ji 9 111 e e e))))
     refine rpv 102 e e e g187 (rpv 102 e e e g187 (rpv 102 e e e g187 (rpv 102 e e e g187 (rpv 102 e e e g187 (rpv 102 e e e g187 (rpv 102 e e e g187 (zcp e e (dj:=102) e g187 (rvt 99 e e e g184 (zj e g187 e) ?_))))))))
     exact hJ186 _ () h _ (ji 9 111 e e e)
    refine zm (j:=58) h e (fun g169 h=>?_) (fun g169 h=>?_)
    ·exact oP 58 e e g169 (oP 58 e e g169 (oV (zi e g169 e) (hJ168 _ () h _ (ji 3 61 e e e))))
    exact oK 58 e e e g169 (zE e GFld.f3 zhL e (z:=y165.has)) (oK 58 e e e g169 (za ty4 e) (oV (zj e g169 e) (hJ168 _ () h _ (ji 3 61 e e e))))
   refine zaj (zX (eL12 _ _ (zI (zD (wsr (oV (za ty26 e) (oM e (zb h fun y191 hy191 h=>?_))))))))
   refine oT (zx (ziD hy191) hT (s2 e e) .nil (oA e (rnf (zn (wsr (oA e (rnf (zB (za4 (ι:=Int) (γ:=Unit) (fun q192 g192=>[(14,isv (q192))]) (fun q192 g192=>[]) h () (zd (j:=14) e hI ze) .nil (fun L193 q192 g192 Q312 h hL193 eL193 rL193=>?_))))))))))
   refine zn (wsr (oM e (oM e (oV (zaq (l:=y191) e hI sl36) (oV (zao e e) (rnf (zf h e (fun _ h=>?_) (fun _ h=>?_))))))))
   ·refine wkf (zn (zB (wsr (oA e (oA e (rnf (zn (wsr ?_))))))))
    refine oA e (rnf (zB (za4 (ι:=Bool × Bool × Int) (γ:=Unit) (fun q253 g253=>[(15,isv (q253.1)),(16,isv (q253.2.1)),(17,isv (q253.2.2))]) (fun q253 g253=>[]) h () (zd (j:=15) e hI (zd (j:=16) e hI (zd (j:=17) e hI ze))) .nil (fun L254 q253 g253 Q311 h hL254 eL254 rL254=>zn (wsr (oM e (oM e (oM e ?_))))))))
    refine zb h fun y280 hy280 h=>oV (zam (l:=y191) e hI e sl36 hy280) (oV (za ty23 e) (oV (zaq (l:=y280) e hI sl23) (oV (zao e e) (rnf (zf h e (fun _ h=>?_) (fun _ h=>?_))))))
    ·refine wkf (zn (zB (zn (z8 (.v 0 (.v 1 (.v 2 (.v 3 (.v 4 (.v 5 (.v 6 (.v 7 (.v 8 (.v 9 (.v 10 (.t 11 (.t 12 .nil))))))))))))) moOrd (by kernel_rfl) ?_))))
     refine zy e (zE e GTyp.f4 za2 e (z:=y1.fields)) (zy e (za ty85 e) (rvm e e (rvm e e (zb h fun y281 hy281 h=>zy e (zam (l:=y191) e hI e sl36 hy281) (zy e (za ty23 e) (rvm e e (zb h fun y282 hy282 h=>?_)))))))
     refine zy e (zam (l:=y281) e hI e sl23 hy282) (zy e (za ty3 e) (zb h fun y283 hy283 h=>zy e (zam (l:=y1.fields) e hI e sl85 hy283) (zy e (za ty92 e) (zay e e (zac _ ze92 fun b284=>zay e e (zp (y':=(y283:GFld)) ty92 e e hI .here e (ze8 (zaE 18 .here e) (zau ?_))))))))
     refine zD (zn (z8 (.v 0 (.v 1 (.v 2 (.v 3 (.v 4 (.v 5 (.v 6 (.v 7 (.v 8 (.v 9 (.v 10 (.v 11 (.v 12 (.v 13 .nil)))))))))))))) moOrd (by kernel_rfl) ?_))
     refine zy e (zE e Val.f3 zbl e (z:=a_v.l)) (zy e (za ty43 e) (rvm e e (rvm e e (zb h fun y285 hy285 h=>zy e (zam (l:=y191) e hI e sl36 hy285) (zy e (za ty23 e) (rvm e e (zb h fun y286 hy286 h=>?_)))))))
     refine zy e (zam (l:=y285) e hI e sl23 hy286) (zy e (za ty3 e) (zb h fun y287 hy287 h=>zy e (zam (l:=a_v.l) e hI e sl43 hy287) (zy e (zE e Val.f0 zbU e (z:=y287.kind)) (zy e (za ty3 e) (zy e (zaV e e) (zy e (zaI e) (zau ?_)))))))
     refine zD (wsr (oM e (oM e (zQ (jb 158) je .nil h 2 e (fun q288 g288 h=>?_) (fun J289 h hJ289=>?_)))))
     ·refine oA e (rnf (zr (oM e (oM e (zQ (jb 173) je .nil h 13 e (fun q291 g291 h=>?_) (fun J292 h hJ292=>?_))))))
      ·refine oA e (zG (zt (zD (zr (oM e (zJ h fun q300 h=>oV (zah e e q300) (oA e ?_)))))))
       exact zG (hL254 _ () h _ (zg 48 e e (zd (j:=15) e hI (zd (j:=16) e hI (zd (j:=17) e hI ze))) .nil))
      refine zm (j:=160) h e (fun g293 h=>?_) (fun g293 h=>?_)
      ·refine oP 160 e e g293 (oP 160 e e g293 (oP 160 e e g293 (zk e (dj:=163) e (zk e (dj:=163) e (zk e (dj:=163) e (oP 160 e e g293 (oP 160 e e g293 (zk e (dj:=168) e ?_))))))))
       exact zk e (dj:=168) e (zk e (dj:=168) e (oP 160 e e g293 (oV (zi e g293 e) (hJ292 _ () h _ (ji 13 173 e e e)))))
      refine oK 160 e e e g293 (zu e) (oK 160 e e e g293 (zaD e) (oK 160 e e e g293 (zu e) (zQ (jb 167) je .nil h 4 e (fun q294 g294 h=>?_) (fun J295 h hJ295=>?_))))
      ·refine oK 160 e e e g293 (zu e) (zQ (jb 172) je .nil h 4 e (fun q297 g297 h=>?_) (fun J298 h hJ298=>?_))
       ·exact oV (zj e g293 e) (hJ292 _ () h _ (ji 7 173 e e e))
       refine zm (j:=168) h e (fun g299 h=>?_) (fun g299 h=>?_)
       ·exact oK 168 e e e g299 (zE e GFld.f3 zhL e (z:=y283.has)) (oK 168 e e e g299 (za ty4 e) (oK 168 e e e g299 (zaD e) (oK 160 e e e g293 (zi e g299 e) (hJ298 _ () h _ (ji 4 172 e e e)))))
       exact oP 168 e e g299 (oP 168 e e g299 (oP 168 e e g299 (oK 160 e e e g293 (zj e g299 e) (hJ298 _ () h _ (ji 4 172 e e e)))))
      refine zm (j:=163) h e (fun g296 h=>?_) (fun g296 h=>?_)
      ·exact oK 163 e e e g296 (zE e GFld.f2 zkz e (z:=y283.optional)) (oK 163 e e e g296 (za ty4 e) (oK 163 e e e g296 (zaD e) (oK 160 e e e g293 (zi e g296 e) (hJ295 _ () h _ (ji 4 167 e e e)))))
      exact oP 163 e e g296 (oP 163 e e g296 (oP 163 e e g296 (oK 160 e e e g293 (zj e g296 e) (hJ295 _ () h _ (ji 4 167 e e e)))))
     refine zm (j:=156) h e (fun g290 h=>?_) (fun g290 h=>?_)
     ·exact oP 156 e e g290 (oV (zi e g290 e) (hJ289 _ () h _ (ji 2 158 e e e)))
     exact oK 156 e e e g290 (zu e) (oV (zj e g290 e) (hJ289 _ () h _ (ji 2 158 e e e)))
    refine zaj (zX (eL254 _ _ (zI (zD (zn (z8 (.v 0 (.v 1 (.v 2 (.v 3 (.v 4 (.v 5 (.v 6 (.v 7 (.v 8 (.v 9 (.v 10 (.v 11 (.v 12 (.v 13 (.v 14 (.v 15 (.v 16 (.v 17 .nil)))))))))))))))))) moOrd (by kernel_rfl) ?_))))))
    refine zy e (zE e GTyp.f4 za2 e (z:=y1.fields)) (zy e (za ty85 e) (rvm e e (rvm e e (zb h fun y301 hy301 h=>zy e (zam (l:=y191) e hI e sl36 hy301) (zy e (za ty23 e) (zb h fun y302 hy302 h=>zy e (zam (l:=y301) e hI e sl23 hy302) ?_))))))
    refine zy e (za ty3 e) (zb h fun y303 hy303 h=>zy e (zam (l:=y1.fields) e hI e sl85 hy303) (zy e (zE e GFld.f5 zjC e (z:=y303.group)) (zy e (za ty3 e) (zy e (zbn e e) (rvm e e (zcZ (jb 188) je .nil h 2 e (fun q304 g304 h=>?_) (fun J305 h hJ305=>?_)))))))
    ·refine rvm e e (zcZ (jb 191) je .nil h 2 e (fun q307 g307 h=>?_) (fun J308 h hJ308=>?_))
     ·refine zau (zD (zf h e (fun _ h=>?_) (fun _ h=>?_)))
      ·refine wsr (oA e (rnf (zA (zw (zo (rL193 _ (zw (zo ?_))))))))
       cases h
       exact zh (.tmp e .nil) .nil ⟨e,e⟩
      refine zZ (zt (zD (zr (oM e (zJ h fun q310 h=>oV (zah e e q310) (oA e (zG ?_)))))))
      exact hL193 _ () h _ (ji 37 14 e e e)
     refine zaG (j:=189) h e (fun g309 h=>?_) (fun g309 h=>?_)
     ·exact rvt 189 e e e g309 (zu e) (zy e (zi e g309 e) (hJ308 _ () h _ (ji 2 191 e e e)))
     exact rpv 189 e e e g309 (zy e (zj e g309 e) (hJ308 _ () h _ (ji 2 191 e e e)))
    refine zaG (j:=186) h e (fun g306 h=>?_) (fun g306 h=>?_)
    ·exact rvt 186 e e e g306 (zu e) (zy e (zi e g306 e) (hJ305 _ () h _ (ji 2 188 e e e)))
    exact rpv 186 e e e g306 (zy e (zj e g306 e) (hJ305 _ () h _ (ji 2 188 e e e)))
   refine zaj (zX (eL193 _ _ (zI (zD (wsr (oA e (rnf (zA ?_))))))))
   cases h
   exact zh (.tmp e .nil) .nil ⟨e,e⟩
  refine zm (j:=37) h e (fun g9 h=>?_) (fun g9 h=>?_)
  ·exact oP 37 e e g9 (oP 37 e e g9 (oP 37 e e g9 (oP 37 e e g9 (oP 37 e e g9 (oV (zi e g9 e) (hJ8 _ () h _ (ji 6 43 e e e)))))))
  exact oK 37 e e e g9 (za ty26 e) (oK 37 e e e g9 (zu e) (oK 37 e e e g9 (za ty46 e) (zb h fun y10 hy10 h=>zad e e (dj:=37) e g9 (zx (zoM hy10) hT (s3 e e e) .nil (oK 37 e e e g9 (zaD e) (oV (zj e g9 e) (hJ8 _ () h _ (ji 6 43 e e e))))))))
 refine zm (j:=28) h e (fun g6 h=>?_) (fun g6 h=>?_)
 ·exact oP 28 e e g6 (oP 28 e e g6 (oP 28 e e g6 (oP 28 e e g6 (oP 28 e e g6 (oP 28 e e g6 (oP 28 e e g6 (oV (zi e g6 e) (hJ5 _ () h _ (ji 8 36 e e e)))))))))
 exact oK 28 e e e g6 (zE e Val.f3 zbl e (z:=a_v.l)) (oK 28 e e e g6 (za ty43 e) (oK 28 e e e g6 (zaq (l:=a_v.l) e hI sl43) (oK 28 e e e g6 (zE e GTyp.f4 za2 e (z:=y1.fields)) (oK 28 e e e g6 (za ty85 e) (oK 28 e e e g6 (zaq (l:=y1.fields) e hI sl85) (oK 28 e e e g6 (zaV e e) (oV (zj e g6 e) (hJ5 _ () h _ (ji 8 36 e e e)))))))))

theorem znD {zde:GTab→Int→Val→Int→Option (Bool)} {zds:GTab→Int→Val→Int→Option (Bool)} (zjS:zh3 zde) (zh2:zh0 zds):∀ {a_t:GTab} {a_i:Int} {a_v:Val} {zH:Int} {r:Bool},zew zde zds a_t a_i a_v zH=some r→Ctr Tryz.prog 63 [isv (a_t),isv (a_i),isv (a_v),isv (zH)] [] (fun R H=>R=oneOf [isv (r)]∧H=[]):=by
 intro a_t a_i a_v zH r h
 unfold zew at h
 refine zq Tryz.func63 e fun w0 S0 hT=>wsr (oT (zai (y:=a_t) e hI (oT (zai (y:=a_v) e hI (oA e (rnf (zn (wsr (oM e ?_)))))))))
 refine oV (zao e e) (oM e (zQ (jb 19) je .nil h 6 e (fun q1 g1 h=>?_) (fun J2 h hJ2=>?_)))
 ·refine oM e (zQ (jb 23) je .nil h 3 e (fun q4 g4 h=>?_) (fun J5 h hJ5=>?_))
  ·refine rnf (zf h e (fun _ h=>?_) (fun _ h=>?_))
   ·refine wsr (oA e (rnf (zA (zo ?_))))
    cases h
    exact zh (.tmp e .nil) .nil ⟨e,e⟩
   refine wkf (wsr (oV (zE e GTab.f3 zca e (z:=a_t.types)) (oV (za ty24 e) (oM e (zb h fun y7 hy7 h=>oV (zam (l:=a_t.types) e hI e sl24 hy7) (oV (za ty87 e) (oT (zac _ ze87 fun b8=>?_))))))))
   refine oT (zp (y':=(y7:GTyp)) ty87 e e hI .here e (zY (zaE 9 .here e) (rnf (zn (wsr (oV (zE e Val.f0 zbU e (z:=a_v.kind)) (oV (za ty3 e) (oV (zP e e) (rnf ?_)))))))))
   refine zf h e (fun _ h=>?_) (fun _ h=>?_)
   ·refine wsr (oV (za ty26 e) (oM e (oV (za ty46 e) (zb h fun y9 hy9 h=>oT (zx (zl9 hy9) hT (s3 e e e) .nil (oA e (rnf (zA ?_))))))))
    refine zo ?_
    cases h
    exact zh (.tmp e .nil) .nil ⟨e,e⟩
   refine wkf (zn (wsr (oV (zE e Val.f0 zbU e (z:=a_v.kind)) (oV (za ty3 e) (oV (zE e GTyp.f0 zbI e (z:=y7.kind)) (oV (za ty3 e) (oV (zaV e e) (rnf ?_))))))))
   refine zf h e (fun _ h=>?_) (fun _ h=>?_)
   ·refine wsr (oA e (rnf (zA (zo ?_))))
    cases h
    exact zh (.tmp e .nil) .nil ⟨e,e⟩
   refine wkf (zn (wsr (oV (zE e GTyp.f0 zbI e (z:=y7.kind)) (oV (za ty3 e) (rnf (zB (wsr (oV (zP e e) ?_))))))))
   refine oA e (rnf (zf h e (fun _ h=>?_) (fun _ h=>?_)))
   ·refine wsr (oV (za ty46 e) (zb h fun y10 hy10 h=>oT (zx (zdf hy10) hT (.same e (s4 e e e e)) .nil (oM e (zQ (jb 56) je .nil h 9 e (fun q11 g11 h=>?_) (fun J12 h hJ12=>?_))))))
    ·refine oA e (rnf (zA (zw (zo ?_))))
     cases h
     exact zh (.tmp e .nil) .nil ⟨e,e⟩
    refine zm (j:=47) h e (fun g13 h=>?_) (fun g13 h=>?_)
    ·refine oK 47 e e e g13 (zE e Val.f1 zbk e (z:=a_v.n)) (oK 47 e e e g13 (za ty2 e) (oK 47 e e e g13 (zP e e) (oK 47 e e e g13 (zu e) (zQ (jb 55) je .nil h 4 e (fun q14 g14 h=>?_) (fun J15 h hJ15=>?_)))))
     ·exact oV (zi e g13 e) (hJ12 _ () h _ (ji 6 56 e e e))
     refine zm (j:=51) h e (fun g16 h=>?_) (fun g16 h=>?_)
     ·exact oP 51 e e g16 (oP 51 e e g16 (oP 51 e e g16 (oK 47 e e e g13 (zi e g16 e) (hJ15 _ () h _ (ji 4 55 e e e)))))
     exact oK 51 e e e g16 (zE e Val.f1 zbk e (z:=a_v.n)) (oK 51 e e e g16 (za ty2 e) (oK 51 e e e g16 (zP e e) (oK 47 e e e g13 (zj e g16 e) (hJ15 _ () h _ (ji 4 55 e e e)))))
    refine oP 47 e e g13 (oP 47 e e g13 (oP 47 e e g13 (oP 47 e e g13 (zk e (dj:=51) e (zk e (dj:=51) e (zk e (dj:=51) e (oP 47 e e g13 (oV (zj e g13 e) ?_))))))))
    exact hJ12 _ () h _ (ji 9 56 e e e)
   refine wsr (oV (zP e e) (oA e (rnf (zf h e (fun _ h=>?_) (fun _ h=>?_)))))
   ·refine wsr (oV (za ty46 e) (zb h fun y17 hy17 h=>oT (zx (zdf hy17) hT (.same e (s4 e e e e)) .nil (oM e (zQ (jb 72) je .nil h 11 e (fun q18 g18 h=>?_) (fun J19 h hJ19=>?_))))))
    ·refine oA e (rnf (zA (zw (zo ?_))))
     cases h
     exact zh (.tmp e .nil) .nil ⟨e,e⟩
    refine zm (j:=61) h e (fun g20 h=>?_) (fun g20 h=>?_)
    ·refine oK 61 e e e g20 (zE e GTyp.f2 zeu e (z:=y7.con)) (oK 61 e e e g20 (zE e GCon.f3 zjB e (z:=y7.con.more)) (oK 61 e e e g20 (za ty4 e) (oK 61 e e e g20 (zu e) (zQ (jb 71) je .nil h 6 e (fun q21 g21 h=>?_) (fun J22 h hJ22=>?_)))))
     ·exact oV (zi e g20 e) (hJ19 _ () h _ (ji 6 72 e e e))
     refine zm (j:=65) h e (fun g23 h=>?_) (fun g23 h=>?_)
     ·exact oP 65 e e g23 (oP 65 e e g23 (oP 65 e e g23 (oP 65 e e g23 (oP 65 e e g23 (oK 61 e e e g20 (zi e g23 e) (hJ22 _ () h _ (ji 6 71 e e e)))))))
     exact oK 65 e e e g23 (zE e GTyp.f2 zeu e (z:=y7.con)) (oK 65 e e e g23 (za ty83 e) (oK 65 e e e g23 (zE e Val.f1 zbk e (z:=a_v.n)) (oK 65 e e e g23 (za ty2 e) (zb h fun y24 hy24 h=>zad e e (dj:=65) e g23 (zx (ze7 hy24) hT (s2 e e) .nil (oK 61 e e e g20 (zj e g23 e) (hJ22 _ () h _ (ji 6 71 e e e))))))))
    refine oP 61 e e g20 (oP 61 e e g20 (oP 61 e e g20 (oP 61 e e g20 (zk e (dj:=65) e (zk e (dj:=65) e (zk e (dj:=65) e (zk e (dj:=65) e (zk e (dj:=65) e ?_))))))))
    exact oP 61 e e g20 (oV (zj e g20 e) (hJ19 _ () h _ (ji 11 72 e e e)))
   refine wsr (oV (zP e e) (oA e (rnf (zf h e (fun _ h=>?_) (fun _ h=>?_)))))
   ·refine wsr (oV (za ty46 e) (zb h fun y25 hy25 h=>oT (zx (zdf hy25) hT (.same e (s4 e e e e)) .nil (oM e (zQ (jb 83) je .nil h 6 e (fun q26 g26 h=>?_) (fun J27 h hJ27=>?_))))))
    ·refine oA e (rnf (zA (zw (zo ?_))))
     cases h
     exact zh (.tmp e .nil) .nil ⟨e,e⟩
    refine zm (j:=77) h e (fun g28 h=>?_) (fun g28 h=>?_)
    ·exact oK 77 e e e g28 (za ty87 e) (oK 77 e e e g28 (zE e Val.f1 zbk e (z:=a_v.n)) (oK 77 e e e g28 (za ty2 e) (zb h fun y29 hy29 h=>zad e e (dj:=77) e g28 (zx (zlU hy29) hT (s2 e e) .nil (oK 77 e e e g28 (zck e e) (oV (zi e g28 e) (hJ27 _ () h _ (ji 6 83 e e e))))))))
    exact oP 77 e e g28 (oP 77 e e g28 (oP 77 e e g28 (oP 77 e e g28 (oP 77 e e g28 (oV (zj e g28 e) (hJ27 _ () h _ (ji 6 83 e e e)))))))
   refine wsr (oV (zP e e) (oA e (rnf (zf h e (fun _ h=>?_) (fun _ h=>?_)))))
   ·refine wsr (oV (za ty46 e) (zb h fun y30 hy30 h=>oT (zx (zdf hy30) hT (.same e (s4 e e e e)) .nil (oA e (rnf (zA (zw (zo ?_))))))))
    cases h
    exact zh (.tmp e .nil) .nil ⟨e,e⟩
   refine zn (wsr (oV (zP e e) (oA e (rnf (zdF (jb 88) je .nil h (fun q31 g31 h=>?_) (fun J32 h hJ32=>?_))))))
   ·refine zf h e (fun _ h=>?_) (fun _ h=>?_)
    ·refine wsr (oV (za ty46 e) (zb h fun y33 hy33 h=>oT (zx (zdf hy33) hT (.same e (s4 e e e e)) .nil (oM e (zQ (jb 98) je .nil h 5 e (fun q34 g34 h=>?_) (fun J35 h hJ35=>?_))))))
     ·refine oM e (zQ (jb 111) je .nil h 12 e (fun q37 g37 h=>?_) (fun J38 h hJ38=>?_))
      ·refine oM e (zQ (jb 121) je .nil h 9 e (fun q44 g44 h=>?_) (fun J45 h hJ45=>?_))
       ·refine oA e (rnf (zA (zw (zo ?_))))
        cases h
        exact zh (.tmp e .nil) .nil ⟨e,e⟩
       refine zm (j:=112) h e (fun g46 h=>?_) (fun g46 h=>?_)
       ·refine oK 112 e e e g46 (zE e GTyp.f0 zbI e (z:=y7.kind)) (oK 112 e e e g46 (za ty3 e) (oK 112 e e e g46 (zP e e) (oK 112 e e e g46 (zu e) (zQ (jb 120) je .nil h 4 e (fun q47 g47 h=>?_) (fun J48 h hJ48=>?_)))))
        ·exact oV (zi e g46 e) (hJ45 _ () h _ (ji 6 121 e e e))
        refine zm (j:=116) h e (fun g49 h=>?_) (fun g49 h=>?_)
        ·exact oP 116 e e g49 (oP 116 e e g49 (oP 116 e e g49 (oK 112 e e e g46 (zi e g49 e) (hJ48 _ () h _ (ji 4 120 e e e)))))
        exact oK 116 e e e g49 (zE e Val.f2 zbK e (z:=a_v.b)) (oK 116 e e e g49 (za ty42 e) (zb h fun y50 hy50 h=>zad e e (dj:=116) e g49 (zx (zhN hy50) hT (s1 e) .nil (oK 112 e e e g46 (zj e g49 e) (hJ48 _ () h _ (ji 4 120 e e e))))))
       refine oP 112 e e g46 (oP 112 e e g46 (oP 112 e e g46 (oP 112 e e g46 (zk e (dj:=116) e (zk e (dj:=116) e (zk e (dj:=116) e (oP 112 e e g46 (oV (zj e g46 e) ?_))))))))
       exact hJ45 _ () h _ (ji 9 121 e e e)
      refine zm (j:=99) h e (fun g39 h=>?_) (fun g39 h=>?_)
      ·refine oK 99 e e e g39 (zE e GTyp.f2 zeu e (z:=y7.con)) (oK 99 e e e g39 (zE e GCon.f3 zjB e (z:=y7.con.more)) (oK 99 e e e g39 (za ty4 e) (oK 99 e e e g39 (zu e) (zQ (jb 110) je .nil h 7 e (fun q40 g40 h=>?_) (fun J41 h hJ41=>?_)))))
       ·exact oV (zi e g39 e) (hJ38 _ () h _ (ji 6 111 e e e))
       refine zm (j:=103) h e (fun g42 h=>?_) (fun g42 h=>?_)
       ·exact oP 103 e e g42 (oP 103 e e g42 (oP 103 e e g42 (oP 103 e e g42 (oP 103 e e g42 (oP 103 e e g42 (oK 99 e e e g39 (zi e g42 e) (hJ41 _ () h _ (ji 7 110 e e e))))))))
       exact oK 103 e e e g42 (zE e GTyp.f2 zeu e (z:=y7.con)) (oK 103 e e e g42 (za ty83 e) (oK 103 e e e g42 (zE e Val.f2 zbK e (z:=a_v.b)) (oK 103 e e e g42 (za ty42 e) (oK 103 e e e g42 (zaq (l:=a_v.b) e hI sl42) (zb h fun y43 hy43 h=>zad e e (dj:=103) e g42 (zx (ze7 hy43) hT (s2 e e) .nil (oK 99 e e e g39 (zj e g42 e) (hJ41 _ () h _ (ji 7 110 e e e)))))))))
      refine oP 99 e e g39 (oP 99 e e g39 (oP 99 e e g39 (oP 99 e e g39 (zk e (dj:=103) e (zk e (dj:=103) e (zk e (dj:=103) e (zk e (dj:=103) e (zk e (dj:=103) e ?_))))))))
      exact zk e (dj:=103) e (oP 99 e e g39 (oV (zj e g39 e) (hJ38 _ () h _ (ji 12 111 e e e))))
     refine zm (j:=93) h e (fun g36 h=>?_) (fun g36 h=>?_)
     ·exact oK 93 e e e g36 (zE e Val.f2 zbK e (z:=a_v.b)) (oK 93 e e e g36 (za ty42 e) (oK 93 e e e g36 (zaq (l:=a_v.b) e hI sl42) (oK 93 e e e g36 (ziw e e) (oV (zi e g36 e) (hJ35 _ () h _ (ji 5 98 e e e))))))
     exact oP 93 e e g36 (oP 93 e e g36 (oP 93 e e g36 (oP 93 e e g36 (oV (zj e g36 e) (hJ35 _ () h _ (ji 5 98 e e e))))))
    refine wsr (oV (zP e e) (oA e (rnf (zf h e (fun _ h=>?_) (fun _ h=>?_)))))
    ·refine zn (wsr (oV (za ty46 e) (zb h fun y51 hy51 h=>oT (zx (zdf hy51) hT (.same e (s4 e e e e)) .nil (oV (zaD e) (oM e (zQ (jb 141) je .nil h 14 e (fun q52 g52 h=>?_) (fun J53 h hJ53=>?_))))))))
     ·refine rnf (zf h e (fun _ h=>?_) (fun _ h=>?_))
      ·refine wsr (oA e (rnf (zA (zo (zw (zo ?_))))))
       cases h
       exact zh (.tmp e .nil) .nil ⟨e,e⟩
      refine wkf (zn (wsr (oA e (rnf (zB (za4 (ι:=Int) (γ:=Unit) (fun q59 g59=>[(10,isv (q59))]) (fun q59 g59=>[]) h () (zd (j:=10) e hI ze) .nil (fun L60 q59 g59 Q69 h hL60 eL60 rL60=>zn (wsr ?_))))))))
      refine oM e (oV (zE e Val.f3 zbl e (z:=a_v.l)) (oV (za ty43 e) (oV (zaq (l:=a_v.l) e hI sl43) (oV (zao e e) (rnf (zf h e (fun _ h=>?_) (fun _ h=>?_)))))))
      ·refine wkf (zn (zB (zn (z8 (.v 0 (.v 1 (.v 2 (.v 3 (.v 4 (.v 5 (.v 6 (.v 7 (.v 8 (.v 9 (.t 10 (.v 11 .nil)))))))))))) moOrd (by kernel_rfl) ?_))))
       refine zy e (za ty26 e) (zy e (zE e GTyp.f7 zoT e (z:=y7.of)) (zy e (za ty3 e) (zy e (zE e Val.f3 zbl e (z:=a_v.l)) (zy e (za ty43 e) (rvm e e (zb h fun y65 hy65 h=>zy e (zam (l:=a_v.l) e hI e sl43 hy65) (zy e (za ty46 e) ?_)))))))
       refine rvm e e (zJ h fun q66 h=>zy e (zah e e q66) (zb h fun y67 hy67 h=>zay e e (zx (zh2 hy67) hT (s4 e e e e) .nil (zy e (zaD e) (zau (zD (zf h e (fun _ h=>?_) (fun _ h=>?_))))))))
       ·refine wsr (oA e (rnf (zA (zw (zo (rL60 _ (zw (zo ?_))))))))
        refine zw (zo ?_)
        cases h
        exact zh (.tmp e .nil) .nil ⟨e,e⟩
       refine zZ (zt (zD (zr (oM e (zJ h fun q68 h=>oV (zah e e q68) (oA e (zG ?_)))))))
       exact hL60 _ () h _ (ji 21 10 e e e)
      refine zaj (zX (eL60 _ _ (zI (zD (wsr (oA e (rnf (zA ?_))))))))
      refine zw (zo ?_)
      cases h
      exact zh (.tmp e .nil) .nil ⟨e,e⟩
     refine zm (j:=127) h e (fun g54 h=>?_) (fun g54 h=>?_)
     ·refine oP 127 e e g54 (oP 127 e e g54 (oP 127 e e g54 (oP 127 e e g54 (oP 127 e e g54 (zk e (dj:=132) e (zk e (dj:=132) e (zk e (dj:=132) e (zk e (dj:=132) e ?_))))))))
      exact zk e (dj:=132) e (zk e (dj:=132) e (zk e (dj:=132) e (oP 127 e e g54 (oV (zi e g54 e) (hJ53 _ () h _ (ji 14 141 e e e))))))
     refine oK 127 e e e g54 (zE e GTyp.f2 zeu e (z:=y7.con)) (oK 127 e e e g54 (zE e GCon.f3 zjB e (z:=y7.con.more)) (oK 127 e e e g54 (za ty4 e) (oK 127 e e e g54 (zaD e) (oK 127 e e e g54 (zu e) (zQ (jb 140) je .nil h 8 e (fun q55 g55 h=>?_) (fun J56 h hJ56=>?_))))))
     ·exact oV (zj e g54 e) (hJ53 _ () h _ (ji 7 141 e e e))
     refine zm (j:=132) h e (fun g57 h=>?_) (fun g57 h=>?_)
     ·refine oK 132 e e e g57 (zE e GTyp.f2 zeu e (z:=y7.con)) (oK 132 e e e g57 (za ty83 e) (oK 132 e e e g57 (zE e Val.f3 zbl e (z:=a_v.l)) (oK 132 e e e g57 (za ty43 e) (oK 132 e e e g57 (zaq (l:=a_v.l) e hI sl43) (zb h fun y58 hy58 h=>zad e e (dj:=132) e g57 (zx (ze7 hy58) hT (s2 e e) .nil (oK 132 e e e g57 (zaD e) (oK 127 e e e g54 (zi e g57 e) ?_))))))))
      exact hJ56 _ () h _ (ji 8 140 e e e)
     exact oP 132 e e g57 (oP 132 e e g57 (oP 132 e e g57 (oP 132 e e g57 (oP 132 e e g57 (oP 132 e e g57 (oP 132 e e g57 (oK 127 e e e g54 (zj e g57 e) (hJ56 _ () h _ (ji 8 140 e e e)))))))))
    refine wsr (oV (zP e e) (oA e (rnf (zf h e (fun _ h=>?_) (fun _ h=>?_)))))
    ·refine zn (z8 (.v 0 (.t 1 (.v 2 (.v 3 (.v 4 (.v 5 (.v 6 (.v 7 (.v 8 (.v 9 (.v 10 (.v 11 (.v 12 (.v 13 (.v 14 (.v 15 (.v 16 (.v 17 (.v 18 (.v 19 (.v 20 (.v 21 (.v 22 (.v 23 (.v 24 (.v 25 (.v 26 (.v 27 (.v 28 (.v 29 (.v 30 (.v 31 (.v 32 (.v 33 (.v 34 (.v 35 (.t 36 (.v 37 (.v 38 .nil))))))))))))))))))))))))))))))))))))))) moOrd (by kernel_rfl) ?_)
     refine zy e (za ty46 e) (zb h fun y70 hy70 h=>zay e e (zx (zdf hy70) hT (.same e (s4 e e e e)) .nil (rvm e e (zcZ (jb 169) je .nil h 4 e (fun q71 g71 h=>?_) (fun J72 h hJ72=>?_)))))
     ·refine rvm e e (zcZ (jb 177) je .nil h 7 e (fun q74 g74 h=>?_) (fun J75 h hJ75=>?_))
      ·refine rvm e e (zcZ (jb 183) je .nil h 5 e (fun q77 g77 h=>?_) (fun J78 h hJ78=>?_))
       ·refine rvm e e (zcZ (jb 200) je .nil h 16 e (fun q80 g80 h=>?_) (fun J81 h hJ81=>?_))
        ·refine zy e (zaI e) (zau (zD (zA (zw (zo ?_)))))
         cases h
         exact zh (.tmp e .nil) .nil ⟨e,e⟩
        refine zaG (j:=184) h e (fun g82 h=>?_) (fun g82 h=>?_)
        ·refine rvt 184 e e e g82 (za ty26 e) (rvt 184 e e e g82 (zE e GTyp.f4 za2 e (z:=y7.fields)) (rvt 184 e e e g82 (za ty85 e) (rvt 184 e e e g82 (zE e Val.f1 zbk e (z:=a_v.n)) (rvt 184 e e e g82 (za ty2 e) (zb h fun y83 hy83 h=>rvt 184 e e e g82 (zam (l:=y7.fields) e hI e sl85 hy83) (rvt 184 e e e g82 (zE e GFld.f1 zdb e (z:=y83.ty)) (rvt 184 e e e g82 (za ty3 e) ?_)))))))
         refine rvt 184 e e e g82 (zE e Val.f3 zbl e (z:=a_v.l)) (rvt 184 e e e g82 (za ty43 e) (zb h fun y84 hy84 h=>rvt 184 e e e g82 (zam (l:=a_v.l) e hI e sl43 hy84) (rvt 184 e e e g82 (za ty46 e) (rvt 184 e e e g82 (zu e) (zJ h fun q85 h=>rvt 184 e e e g82 (zah e e q85) (zb h fun y86 hy86 h=>?_))))))
         exact zfW e e e (dj:=184) e g82 (zx (zh2 hy86) hT (s4 e e e e) .nil (zy e (zi e g82 e) (hJ81 _ () h _ (ji 16 200 e e e))))
        refine rpv 184 e e e g82 (rpv 184 e e e g82 (rpv 184 e e e g82 (rpv 184 e e e g82 (rpv 184 e e e g82 (rpv 184 e e e g82 (rpv 184 e e e g82 (rpv 184 e e e g82 (rpv 184 e e e g82 ?_))))))))
        exact rpv 184 e e e g82 (rpv 184 e e e g82 (rpv 184 e e e g82 (rpv 184 e e e g82 (rpv 184 e e e g82 (zcp e e (dj:=184) e g82 (zy e (zj e g82 e) (hJ81 _ () h _ (ji 16 200 e e e))))))))
       refine zaG (j:=178) h e (fun g79 h=>?_) (fun g79 h=>?_)
       ·exact rvt 178 e e e g79 (zE e Val.f3 zbl e (z:=a_v.l)) (rvt 178 e e e g79 (za ty43 e) (rvt 178 e e e g79 (zaq (l:=a_v.l) e hI sl43) (rvt 178 e e e g79 (zP e e) (zy e (zi e g79 e) (hJ78 _ () h _ (ji 5 183 e e e))))))
       exact rpv 178 e e e g79 (rpv 178 e e e g79 (rpv 178 e e e g79 (rpv 178 e e e g79 (zy e (zj e g79 e) (hJ78 _ () h _ (ji 5 183 e e e))))))
      refine zaG (j:=170) h e (fun g76 h=>?_) (fun g76 h=>?_)
      ·exact rvt 170 e e e g76 (zE e Val.f1 zbk e (z:=a_v.n)) (rvt 170 e e e g76 (za ty2 e) (rvt 170 e e e g76 (zE e GTyp.f4 za2 e (z:=y7.fields)) (rvt 170 e e e g76 (za ty85 e) (rvt 170 e e e g76 (zaq (l:=y7.fields) e hI sl85) (rvt 170 e e e g76 (zao e e) (zy e (zi e g76 e) (hJ75 _ () h _ (ji 7 177 e e e))))))))
      exact rpv 170 e e e g76 (rpv 170 e e e g76 (rpv 170 e e e g76 (rpv 170 e e e g76 (rpv 170 e e e g76 (rpv 170 e e e g76 (zy e (zj e g76 e) (hJ75 _ () h _ (ji 7 177 e e e))))))))
     refine zaG (j:=165) h e (fun g73 h=>?_) (fun g73 h=>?_)
     ·exact rvt 165 e e e g73 (zE e Val.f1 zbk e (z:=a_v.n)) (rvt 165 e e e g73 (za ty2 e) (rvt 165 e e e g73 (zck e e) (zy e (zi e g73 e) (hJ72 _ () h _ (ji 4 169 e e e)))))
     exact rpv 165 e e e g73 (rpv 165 e e e g73 (rpv 165 e e e g73 (zy e (zj e g73 e) (hJ72 _ () h _ (ji 4 169 e e e)))))
    refine zn (wsr (oV (zP e e) (oA e (rnf (zdF (jb 201) je .nil h (fun q87 g87 h=>?_) (fun J88 h hJ88=>?_))))))
    ·refine zf h e (fun _ h=>?_) (fun _ h=>?_)
     ·refine wsr (oV (za ty26 e) (oM e (oV (za ty46 e) (oM e (zb h fun y89 hy89 h=>oT (zx (zjS hy89) hT (s4 e e e e) .nil (oA e (rnf ?_))))))))
      refine zA (zw (zo ?_))
      cases h
      exact zh (.tmp e .nil) .nil ⟨e,e⟩
     refine zZ (zt (zD (wsr (oA e (rnf (zA ?_))))))
     cases h
     exact zh (.tmp e .nil) .nil ⟨e,e⟩
    refine zf h e (fun _ h=>?_) (fun _ h=>?_)
    ·exact zZ (hJ88 _ () h _ (ji 0 201 e e e))
    exact zr (oV (zP e e) (oA e (zG (hJ88 _ () h _ (ji 2 201 e e e)))))
   refine zf h e (fun _ h=>?_) (fun _ h=>?_)
   ·exact zZ (hJ32 _ () h _ (ji 0 88 e e e))
   exact zr (oV (zP e e) (oA e (zG (hJ32 _ () h _ (ji 2 88 e e e)))))
  refine zm (j:=20) h e (fun g6 h=>?_) (fun g6 h=>?_)
  ·exact oP 20 e e g6 (oP 20 e e g6 (oV (zi e g6 e) (hJ5 _ () h _ (ji 3 23 e e e))))
  exact oK 20 e e e g6 (zu e) (oK 20 e e e g6 (zbn e e) (oV (zj e g6 e) (hJ5 _ () h _ (ji 3 23 e e e))))
 refine zm (j:=13) h e (fun g3 h=>?_) (fun g3 h=>?_)
 ·exact oP 13 e e g3 (oP 13 e e g3 (oP 13 e e g3 (oP 13 e e g3 (oP 13 e e g3 (oV (zi e g3 e) (hJ2 _ () h _ (ji 6 19 e e e)))))))
 exact oK 13 e e e g3 (zu e) (oK 13 e e e g3 (zE e GTab.f3 zca e (z:=a_t.types)) (oK 13 e e e g3 (za ty24 e) (oK 13 e e e g3 (zaq (l:=a_t.types) e hI sl24) (oK 13 e e e g3 (zck e e) (oV (zj e g3 e) (hJ2 _ () h _ (ji 6 19 e e e)))))))

theorem zg4:∀ n,zh3 (zhB n)∧zh0 (zfK n)
 | 0=>⟨fun h=>(by cases h),fun h=>(by cases h)⟩
 | n + 1=>by
  obtain ⟨h0,h1⟩:=zg4 n
  exact ⟨zma h0 h1,znD h0 h1⟩
theorem zos (n:Nat):zh0 (zfK n):=(zg4 n).2

theorem zli:∀ {a_t:GTab} {a_i:Int} {a_v:Val} {r:Bool},zgh a_t a_i a_v=some r→Ctr Tryz.prog 33 [isv (a_t),isv (a_i),isv (a_v)] [] (fun R H=>R=oneOf [isv (r)]∧H=[]):=by
 intro a_t a_i a_v r h
 unfold zgh at h
 refine zq Tryz.func33 e fun w0 S0 hT=>wsr (oT (zai (y:=a_t) e hI (oT (zai (y:=a_v) e hI (oA e (rnf (wsr (oV (za ty46 e) (zb h fun y1 hy1 h=>?_)))))))))
 refine oT (zx (zn6 fuel hy1) hT (s1 e) .nil (oV (ziw e e) (oM e (zQ (jb 15) je .nil h 5 e (fun q2 g2 h=>?_) (fun J3 h hJ3=>?_)))))
 ·refine oA e (rnf (zA ?_))
  cases h
  exact zh (.tmp e .nil) .nil ⟨e,e⟩
 refine zm (j:=10) h e (fun g4 h=>?_) (fun g4 h=>?_)
 ·exact oK 10 e e e g4 (za ty26 e) (oK 10 e e e g4 (zu e) (oK 10 e e e g4 (za ty46 e) (zb h fun y5 hy5 h=>zad e e (dj:=10) e g4 (zx (zos fuel hy5) hT (s4 e e e e) .nil (oV (zi e g4 e) (hJ3 _ () h _ (ji 5 15 e e e)))))))
 exact oP 10 e e g4 (oP 10 e e g4 (oP 10 e e g4 (oP 10 e e g4 (oV (zj e g4 e) (hJ3 _ () h _ (ji 5 15 e e e))))))


def zjO (f':Val→Option (Bool)):Prop :=
 ∀ {a_v:Val} {r:Bool},f' a_v=some r→Ctr Tryz.prog 34 [isv (a_v)] [] (fun R H=>R=oneOf [isv (r)]∧H=[])
theorem zob {ziW:Val→Option (Bool)} (zoP:zjO ziW):∀ {a_v:Val} {r:Bool},zge ziW a_v=some r→Ctr Tryz.prog 34 [isv (a_v)] [] (fun R H=>R=oneOf [isv (r)]∧H=[]):=by
 intro a_v r h
 unfold zge at h
 refine zq Tryz.func34 e fun w0 S0 hT=>wsr (oT (zai (y:=a_v) e hI (oA e (rnf (zn (wsr (oV (zE e Val.f0 zbU e (z:=a_v.kind)) (oV (za ty3 e) ?_))))))))
 refine oV (zP e e) (oM e (zQ (jb 12) je .nil h 5 e (fun q1 g1 h=>?_) (fun J2 h hJ2=>?_)))
 ·refine rnf (zf h e (fun _ h=>?_) (fun _ h=>?_))
  ·refine wsr (oA e (rnf (zA (zo ?_))))
   cases h
   exact zh (.tmp e .nil) .nil ⟨e,e⟩
  refine wkf (zn (wsr (oA e (rnf (zB (za4 (ι:=Int) (γ:=Unit) (fun q4 g4=>[(3,isv (q4))]) (fun q4 g4=>[]) h () (zd (j:=3) e hI ze) .nil (fun L5 q4 g4 Q12 h hL5 eL5 rL5=>zn (wsr ?_))))))))
  refine oM e (oV (zE e Val.f3 zbl e (z:=a_v.l)) (oV (za ty43 e) (oV (zaq (l:=a_v.l) e hI sl43) (oV (zao e e) (rnf (zf h e (fun _ h=>?_) (fun _ h=>?_)))))))
  ·refine wkf (zn (zB (wsr (oV (zE e Val.f3 zbl e (z:=a_v.l)) (oV (za ty43 e) (oM e (zb h fun y9 hy9 h=>oV (zam (l:=a_v.l) e hI e sl43 hy9) ?_)))))))
   refine oV (za ty46 e) (zb h fun y10 hy10 h=>oT (zx (zoP hy10) hT (s1 e) .nil (oV (zaD e) (rnf (zf h e (fun _ h=>?_) (fun _ h=>?_))))))
   ·refine wsr (oA e (rnf (zA (zw (zo (rL5 _ (zw (zo ?_))))))))
    cases h
    exact zh (.tmp e .nil) .nil ⟨e,e⟩
   refine zZ (zt (zD (zr (oM e (zJ h fun q11 h=>oV (zah e e q11) (oA e (zG ?_)))))))
   exact hL5 _ () h _ (ji 16 3 e e e)
  refine zaj (zX (eL5 _ _ (zI (zD (wsr (oA e (rnf (zA ?_))))))))
  cases h
  exact zh (.tmp e .nil) .nil ⟨e,e⟩
 refine zm (j:=7) h e (fun g3 h=>?_) (fun g3 h=>?_)
 ·exact oP 7 e e g3 (oP 7 e e g3 (oP 7 e e g3 (oP 7 e e g3 (oV (zi e g3 e) (hJ2 _ () h _ (ji 5 12 e e e))))))
 exact oK 7 e e e g3 (zE e Val.f5 zdy e (z:=a_v.more)) (oK 7 e e e g3 (za ty44 e) (oK 7 e e e g3 (zaq (l:=a_v.more) e hI sl44) (oK 7 e e e g3 (zbn e e) (oV (zj e g3 e) (hJ2 _ () h _ (ji 5 12 e e e))))))

theorem zin:∀ n,zjO (zg9 n)
 | 0=>fun h=>(by cases h)
 | n + 1=>zob (zin n)
theorem zlI (n:Nat):zjO (zg9 n):=(zin n)

theorem zjM:∀ {zbg:Str} {zeo:Int} {a_v:Val} {r:Bool},zdS zbg zeo a_v=some r→Ctr Tryz.prog 8 [isv (zbg),isv (zeo),isv (a_v)] [] (fun R H=>R=oneOf [isv (r)]∧H=[]):=by
 intro zbg zeo a_v r h
 unfold zdS at h
 refine zq Tryz.func8 e fun w0 S0 hT=>wsr (oT (zai (y:=a_v) e hI (oA e (rnf (wsr (oM e (zb h fun y1 hy1 h=>oT (zx (zgG hy1) hT (s1 e) .nil ?_))))))))
 refine oM e (oV (zO e e) (oV (zO e e) (oT (zac _ ze26 fun b2=>oT (zp (y':=(y1.1:GTab)) ty26 e e hI .here e (zY (zaE 7 .here e) (oA e (rnf (wsr ?_)))))))))
 refine oV (za ty26 e) (oM e (zb h fun y3 hy3 h=>oT (zx (zku hy3) hT (s2 e e) .nil (oM e (oV (zO e e) (oV (zO e e) (oA e (oA e ?_))))))))
 refine rnf (zn (wsr (oM e (oV (zaD e) (oM e (zQ (jb 28) je .nil h 3 e (fun q4 g4 h=>?_) (fun J5 h hJ5=>?_)))))))
 ·refine oM e (zQ (jb 33) je .nil h 4 e (fun q7 g7 h=>?_) (fun J8 h hJ8=>?_))
  ·refine rnf (zf h e (fun _ h=>?_) (fun _ h=>?_))
   ·refine wsr (zb h fun y11 hy11 h=>oT (zx (zje hy11) hT .nil .nil (oA e (rnf (zA (zo ?_))))))
    cases h
    exact zh (.tmp e .nil) .nil ⟨e,e⟩
   refine wkf (wsr (oV (za ty46 e) (zb h fun y12 hy12 h=>oT (zx (zjg fuel hy12) hT (s1 e) .nil (oT (zac _ ze46 fun b13=>oT (zp (y':=(y12:Val)) ty46 e e hI .here e (zY (zaE 11 .here e) (rnf ?_)))))))))
   refine zn (zn (z8 (.t 0 (.v 1 (.v 2 (.v 3 (.v 5 (.t 4 (.t 6 (.v 7 (.v 8 (.v 9 (.v 10 (.v 11 (.v 12 (.t 13 (.v 14 (.v 15 (.t 16 (.v 17 (.v 18 (.v 19 (.v 20 (.t 21 (.v 22 (.v 23 (.v 24 .nil))))))))))))))))))))))))) moOrd (by kernel_rfl) ?_))
   refine zb h fun y14 hy14 h=>zay e e (zx (zje hy14) hT .nil .nil (zy e (zaD e) (rvm e e (zcZ (jb 45) je .nil h 6 e (fun q15 g15 h=>?_) (fun J16 h hJ16=>?_)))))
   ·refine rvm e e (zcZ (jb 61) je .nil h 15 e (fun q20 g20 h=>?_) (fun J21 h hJ21=>?_))
    ·refine zau (zD (zf h e (fun _ h=>?_) (fun _ h=>?_)))
     ·refine wsr (oA e (rnf (zA (zo ?_))))
      cases h
      exact zh (.tmp e .nil) .nil ⟨e,e⟩
     refine wkf (wsr (oV (za ty26 e) (oM e (oV (za ty46 e) (zb h fun y32 hy32 h=>oT (zx (zli hy32) hT (s3 e e e) .nil (oV (zaD e) (oM e ?_))))))))
     refine zQ (jb 71) je .nil h 4 e (fun q33 g33 h=>?_) (fun J34 h hJ34=>?_)
     ·refine oM e (zQ (jb 77) je .nil h 5 e (fun q37 g37 h=>?_) (fun J38 h hJ38=>?_))
      ·refine oA e (rnf (zA ?_))
       cases h
       exact zh (.tmp e .nil) .nil ⟨e,e⟩
      refine zm (j:=72) h e (fun g39 h=>?_) (fun g39 h=>?_)
      ·exact oP 72 e e g39 (oP 72 e e g39 (oP 72 e e g39 (oP 72 e e g39 (oV (zi e g39 e) (hJ38 _ () h _ (ji 5 77 e e e))))))
      exact oK 72 e e e g39 (za ty26 e) (oK 72 e e e g39 (zu e) (oK 72 e e e g39 (za ty46 e) (zb h fun y40 hy40 h=>zad e e (dj:=72) e g39 (zx (zhK hy40) hT (s3 e e e) .nil (oV (zj e g39 e) (hJ38 _ () h _ (ji 5 77 e e e)))))))
     refine zm (j:=67) h e (fun g35 h=>?_) (fun g35 h=>?_)
     ·exact oP 67 e e g35 (oP 67 e e g35 (oP 67 e e g35 (oV (zi e g35 e) (hJ34 _ () h _ (ji 4 71 e e e)))))
     exact oK 67 e e e g35 (za ty46 e) (zb h fun y36 hy36 h=>zad e e (dj:=67) e g35 (zx (zlI fuel hy36) hT (s1 e) .nil (oK 67 e e e g35 (zaD e) (oV (zj e g35 e) (hJ34 _ () h _ (ji 4 71 e e e))))))
    refine zaG (j:=46) h e (fun g22 h=>?_) (fun g22 h=>?_)
    ·refine rpv 46 e e e g22 (rpv 46 e e e g22 (rpv 46 e e e g22 (zcp e e (dj:=46) e g22 (rpv 46 e e e g22 (zbO e e (dj:=51) e (zkv e e (dj:=51) e (rpv 46 e e e g22 (rpv 46 e e e g22 ?_))))))))
     exact zbO e e (dj:=55) e (zbO e e (dj:=55) e (zkv e e (dj:=55) e (zbO e e (dj:=55) e (rpv 46 e e e g22 (zy e (zi e g22 e) (hJ21 _ () h _ (ji 15 61 e e e)))))))
    refine rvt 46 e e e g22 (za ty26 e) (rvt 46 e e e g22 (zu e) (rvt 46 e e e g22 (za ty46 e) (zb h fun y23 hy23 h=>zfW e e e (dj:=46) e g22 (zx (zli hy23) hT (s3 e e e) .nil (rvt 46 e e e g22 (zu e) (zcZ (jb 54) je .nil h 3 e (fun q24 g24 h=>?_) (fun J25 h hJ25=>?_)))))))
    ·refine rvt 46 e e e g22 (zu e) (zcZ (jb 60) je .nil h 5 e (fun q28 g28 h=>?_) (fun J29 h hJ29=>?_))
     ·exact zy e (zj e g22 e) (hJ21 _ () h _ (ji 9 61 e e e))
     refine zaG (j:=55) h e (fun g30 h=>?_) (fun g30 h=>?_)
     ·exact rvt 55 e e e g30 (za ty46 e) (rvt 55 e e e g30 (za ty46 e) (zb h fun y31 hy31 h=>zfW e e e (dj:=55) e g30 (zx (zi4 fuel hy31) hT (s2 e e) .nil (rvt 55 e e e g30 (zaD e) (rvt 46 e e e g22 (zi e g30 e) (hJ29 _ () h _ (ji 5 60 e e e)))))))
     exact rpv 55 e e e g30 (rpv 55 e e e g30 (zcp e e (dj:=55) e g30 (rpv 55 e e e g30 (rvt 46 e e e g22 (zj e g30 e) (hJ29 _ () h _ (ji 5 60 e e e))))))
    refine zaG (j:=51) h e (fun g26 h=>?_) (fun g26 h=>?_)
    ·exact rvt 51 e e e g26 (za ty46 e) (zb h fun y27 hy27 h=>zfW e e e (dj:=51) e g26 (zx (zlI fuel hy27) hT (s1 e) .nil (rvt 46 e e e g22 (zi e g26 e) (hJ25 _ () h _ (ji 3 54 e e e)))))
    exact rpv 51 e e e g26 (zcp e e (dj:=51) e g26 (rvt 46 e e e g22 (zj e g26 e) (hJ25 _ () h _ (ji 3 54 e e e))))
   refine zaG (j:=39) h e (fun g17 h=>?_) (fun g17 h=>?_)
   ·exact rpv 39 e e e g17 (rpv 39 e e e g17 (zcp e e (dj:=39) e g17 (zcp e e (dj:=39) e g17 (rpv 39 e e e g17 (zy e (zi e g17 e) (hJ16 _ () h _ (ji 6 45 e e e)))))))
   exact rvt 39 e e e g17 (za ty46 e) (rvt 39 e e e g17 (za ty46 e) (zb h fun y18 hy18 h=>zfW e e e (dj:=39) e g17 (zx (zjg fuel hy18) hT (s1 e) .nil (zb h fun y19 hy19 h=>zfW e e e (dj:=39) e g17 (zx (zi4 fuel hy19) hT (s2 e e) .nil (rvt 39 e e e g17 (zaD e) (zy e (zj e g17 e) (hJ16 _ () h _ (ji 6 45 e e e)))))))))
  refine zm (j:=29) h e (fun g9 h=>?_) (fun g9 h=>?_)
  ·exact oP 29 e e g9 (oP 29 e e g9 (oP 29 e e g9 (oV (zi e g9 e) (hJ8 _ () h _ (ji 4 33 e e e)))))
  exact oK 29 e e e g9 (za ty46 e) (zb h fun y10 hy10 h=>zad e e (dj:=29) e g9 (zx (zpI hy10) hT (s2 e e) .nil (oK 29 e e e g9 (zaD e) (oV (zj e g9 e) (hJ8 _ () h _ (ji 4 33 e e e))))))
 refine zm (j:=25) h e (fun g6 h=>?_) (fun g6 h=>?_)
 ·exact oP 25 e e g6 (oP 25 e e g6 (oV (zi e g6 e) (hJ5 _ () h _ (ji 3 28 e e e))))
 exact oK 25 e e e g6 (zu e) (oK 25 e e e g6 (zaD e) (oV (zj e g6 e) (hJ5 _ () h _ (ji 3 28 e e e))))

end Go.Proofs.Q

