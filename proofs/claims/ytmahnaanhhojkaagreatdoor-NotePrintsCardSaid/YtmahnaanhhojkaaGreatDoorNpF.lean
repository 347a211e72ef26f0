/- Walks, printed by mill.py. -/
import Derived.Test.YtmahnaanhhojkaaGreatDoorNpA
import Derived.Test.YtmahnaanhhojkaaGreatDoorNpB
import Derived.Test.YtmahnaanhhojkaaGreatDoorNpC
import Derived.Test.YtmahnaanhhojkaaGreatDoorNpD
import Derived.Test.YtmahnaanhhojkaaGreatDoorNpE
set_option linter.unusedVariables false
set_option linter.unusedSimpArgs false

namespace Go.Proofs.Q
open Go.Sy
set_option maxRecDepth 4000
def zgR (f':GTab->Int->Val->Int->Option (Bool)):Prop :=
 ∀ {a_t a_i a_v zI r},f' a_t a_i a_v zI=some r->Ctr Tryz.prog 91 [isv a_t,isv a_i,isv a_v,isv zI] [] (Pt [isv r] [])
def zhn (f':GTab->Int->Val->Int->Option (Bool)):Prop :=
 ∀ {a_t a_i a_v zI r},f' a_t a_i a_v zI=some r->Ctr Tryz.prog 41 [isv a_t,isv a_i,isv a_v,isv zI] [] (Pt [isv r] [])
theorem zn2 {zdV zed} (zlS:zgR zdV) (ziP:zhn zed):zgR (zeH zdV zed):=by
 intro a_t a_i a_v zI r h
 unfold zeH at h
 refine zh Tryz.func91 e λw0 S0 hT=>ws (oT (tB e (oT (tB e (an e (ws (oV (vI e GTab.f3 zcE a_t.types) (oV (za ty29 e) (om e (zb h λy1 hy1 h=>oV (vX e e sl29 hy1) (oV (za ty129 e) (oT (zU _ ze129 λb2=>oT (tS ty129 e e p0 y1 (zO (zaz 9 .here e) (rn (ss (oV (za ty26 e) (zb h λy3 hy3 h=>oT (tC (zdW hy3) hT (.same e (.same e (.same e (.same e (.same e .nil))))) k0 (oV (zaA e) (om e (jO 8 36 h (λq4 h=>?_) λJ5 h hJ5=>oI h (λg6 h=>?_) λg6 h=>oG g6 (vI e Val.f3 zaY a_v.l) (oG g6 (za ty23 e) (oG g6 (vN e sl23) (oG g6 (vI e GTyp.f4 zaB y1.fields) (oG g6 (za ty127 e) (oG g6 (vN e sl127) ?_))))))))))))))))))))))))))))
 ·refine om e (jO 6 43 h (λq7 h=>?_) λJ8 h hJ8=>oI h (λg9 h=>?_) λg9 h=>oG g9 (za ty31 e) (oG g9 (zm e) (oG g9 (za ty26 e) (zb h λy10 hy10 h=>oH g9 (tC (zqR hy10) hT (s3 e e e) k0 (oG g9 (zaA e) (oV (zf e g9 e) (hJ8 h 6))))))))
  ·refine rn (zd h e (λ_ h=>?_) (λ_ h=>wk (ss (an e (zo (lO 10 h e λL12 q11 Q313 h hL12 eL12 rL12=>ss (om e (oV (vI e GTyp.f4 zaB y1.fields) (oV (za ty127 e) (oV (vN e sl127) (oV (zac e e) (rn (zd h e (λ_ h=>?_) (λ_ h=>xn (eL12 _ _ (zs (zp (ws (oV (za ty31 e) (om e (zb h λy191 hy191 h=>oT (tC (zjO hy191) hT (s2 e e) k0 (an e (ss (an e (zo (lO 14 h e λL193 q192 Q312 h hL193 eL193 rL193=>ss ?_)))))))))))))))))))))))))))
   ·exact ws (ar e (zx (ze (r1 e) k0 (iS h ▸ ⟨e,e⟩))))
   ·refine wk (zE (jw h Unit (λq163 g163=>[]) (λq163 g163=>[]) k0 (λq163 g163 h=>?_) λJ164 h hJ164=>zo (ws (oV (vI e GTyp.f4 zaB y1.fields) (oV (za ty127 e) (om e (zb h λy165 hy165 h=>oV (vX e e sl127 hy165) (oV (za ty137 e) (oT (zU _ ze137 λb166=>oT (tS ty137 e e p0 y165 (zO (zaz 11 .here e) (rn (ws (oV (vI e GFld.f2 zj6 y165.optional) (oV (za ty4 e) (om e (jO 3 61 h (λq167 h=>?_) λJ168 h hJ168=>oI h (λg169 h=>?_) λg169 h=>oG g169 (vI e GFld.f3 zgT y165.has) (oG g169 (za ty4 e) (oV (zf e g169 e) (hJ168 h 3)))))))))))))))))))))
    ·exact zi (om e (zt h λq190 h=>oV (zX e e q190) (oa e (zF (hL12 h 9)))))
    ·refine an e (ss (oV (vI e Val.f3 zaY a_v.l) (oV (za ty23 e) (om e (zb h λy170 hy170 h=>oV (vX e e sl23 hy170) (oV (vI e Val.f0 zcw y170.kind) (oV (za ty3 e) (oV (zC e e) (rn (zd h e (λ_ h=>?_) (λ_ h=>wk (zE (zG (.v 0 (.v 1 (.v 2 (.v 3 (.v 4 (.v 5 (.v 6 (.v 7 (.v 8 (.v 9 (.t 10 (.v 11 (.v 12 (.v 13 (.v 14 (.v 15 (.v 16 (.v 17 (.v 18 (.v 19 (.v 20 (.v 21 (.v 22 (.t 23 (.v 24 (.v 25 .nil)))))))))))))))))))))))))) moOrd (by kernel_rfl) (zj e (za ty31 e) (zj e (vI e GFld.f1 zcr y165.ty) (zj e (za ty3 e) (zj e (vI e Val.f3 zaY a_v.l) (zj e (za ty23 e) (rm e e (zb h λy179 hy179 h=>zj e (vX e e sl23 hy179) (zj e (za ty26 e) (rm e e (zt h λq180 h=>zj e (zX e e q180) (zb h λy181 hy181 h=>rT e (tC (ziP hy181) hT (s4 e e e e) k0 (zj e (zaA e) ?_))))))))))))))))))))))))))
     ·refine ss (oV (vI e Val.f3 zaY a_v.l) (oV (za ty23 e) (om e (zb h λy171 hy171 h=>oV (vX e e sl23 hy171) (oV (za ty26 e) (oV (zak (z:=(Val.mk (0:Int) (0:Int) ([]:(List UInt8)) ([]:(List Val)) (0:Int) ([]:(List Raw)))) e bu26 ze26 .nil) (zb h λy172 hy172 h=>oT (tC (zos fuel hy172) hT (s2 e e) k0 (oV (zaA e) (om e (jO 9 86 h (λq173 h=>?_) λJ174 h hJ174=>oI h (λg175 h=>?_) λg175 h=>oG g175 (zm e) (oG g175 (zaA e) (oG g175 (zm e) (jO 5 85 h (λq176 h=>?_) λJ177 h hJ177=>oI h (λg178 h=>?_) λg178 h=>oN g178 (oN g178 (oN g178 (oN g178 (oG g175 (zf e g178 e) (hJ177 h 5)))))))))))))))))))
      ·refine rn (zd h e (λ_ h=>?_) (λ_ h=>wk (xn (zs (hJ164 h () 29)))))
       exact ws (ar e (zx (zx (bn (rL12 _ (bn (ze (r1 e) k0 (iS h ▸ ⟨e,e⟩))))))))
      ·exact oN g175 (oN g175 (oN g175 (oU (oU (oU (oU (oN g175 (oV (zg e g175 e) (hJ174 h 9)))))))))
      ·exact oV (zf e g175 e) (hJ174 h 5)
      exact oG g178 (zm e) (oG g178 (vI e GTyp.f5 ze4 y1.root) (oG g178 (za ty3 e) (oG g178 (zac e e) (oG g175 (zg e g178 e) (hJ177 h 5)))))
     refine rm e e (jD 13 112 h (λq182 h=>?_) λJ183 h hJ183=>rJ h (λg184 h=>?_) λg184 h=>rG e g184 (vI e GFld.f3 zgT y165.has) (rG e g184 (za ty4 e) (rG e g184 (zm e) (jD 9 111 h (λq185 h=>?_) λJ186 h hJ186=>rJ h (λg187 h=>?_) λg187 h=>rP e g187 (rP e g187 (rP e g187 (rP e g187 (rP e g187 (rP e g187 (rP e g187 (zet e e (dj:=102) e g187 (rG e g184 (zf e g187 e) (hJ186 h 9)))))))))))))
     ·refine zah (zp (zd h e (λ_ h=>?_) (λ_ h=>zJ (zw (hJ164 h () 33)))))
      exact ws (ar e (bn (rL12 _ (bn (ze (r1 e) k0 (iS h ▸ ⟨e,e⟩))))))
     ·exact rP e g184 (rP e g184 (rP e g184 (rU e (rU e (rU e (rU e (rU e (rU e (rU e (zsd e e (dj:=102) e (rP e g184 (zj e (zg e g184 e) (hJ183 h 13)))))))))))))
     ·exact zj e (zf e g184 e) (hJ183 h 5)
     exact rG e g187 (vI e Val.f3 zaY a_v.l) (rG e g187 (za ty23 e) (rG e g187 (zm e) (zb h λy188 hy188 h=>rG e g187 (vX e e sl23 hy188) (rG e g187 (za ty26 e) (rG e g187 (vI e GFld.f4 zly y165.dflt) (rG e g187 (za ty26 e) (zb h λy189 hy189 h=>rH e g187 (tC (zos fuel hy189) hT (s2 e e) k0 (rG e g184 (zg e g187 e) (hJ186 h 9))))))))))
    exact oN g169 (oN g169 (oV (zg e g169 e) (hJ168 h 3)))
   refine om e (om e (oV (vN e sl178) (oV (zac e e) (rn (zd h e (λ_ h=>?_) (λ_ h=>xn (eL193 _ _ (zs (zp (ws (ar e (ze (r1 e) k0 (iS h ▸ ⟨e,e⟩)))))))))))))
   refine wk (zE (zo (ws (oa e (an e (ss (an e (zo (lP h Unit () (λq253 g253=>[(15,isv q253.1),(16,isv q253.2.1),(17,isv q253.2.2)]) (λq253 g253=>[]) (zu (j:=15) e hI (zu (j:=16) e hI (zu (j:=17) e hI zal))) k0 λL254 q253 g253 Q311 h hL254 eL254 rL254=>ss (om e (om e (om e (zb h λy280 hy280 h=>oV (vX e e sl178 hy280) (oV (za ty28 e) (oV (vN e sl28) (oV (zac e e) (rn (zd h e (λ_ h=>?_) (λ_ h=>xn (eL254 _ _ (zs (zp (zE (zG (.v 0 (.v 1 (.v 2 (.v 3 (.v 4 (.v 5 (.v 6 (.v 7 (.v 8 (.v 9 (.v 10 (.v 11 (.v 12 (.v 13 (.v 14 (.v 15 (.v 16 (.v 17 .nil)))))))))))))))))) moOrd (by kernel_rfl) (zj e (vI e GTyp.f4 zaB y1.fields) (zj e (za ty127 e) (rm e e ?_)))))))))))))))))))))))))))
   ·refine wk (zE (zo (zE (zG (.v 0 (.v 1 (.v 2 (.v 3 (.v 4 (.v 5 (.v 6 (.v 7 (.v 8 (.v 9 (.v 10 (.t 11 (.t 12 .nil))))))))))))) moOrd (by kernel_rfl) (zj e (vI e GTyp.f4 zaB y1.fields) (zj e (za ty127 e) (rm e e (rm e e (zb h λy281 hy281 h=>zj e (vX e e sl178 hy281) (zj e (za ty28 e) (rm e e (zb h λy282 hy282 h=>zj e (vX e e sl28 hy282) (zj e (za ty3 e) (zb h λy283 hy283 h=>zj e (vX e e sl127 hy283) (zj e (za ty137 e) (rT e (zU _ ze137 λb284=>rT e (tS ty137 e e p0 y283 (zhT (zaz 18 .here e) (zah (zp (zE (zG (.v 0 (.v 1 (.v 2 (.v 3 (.v 4 (.v 5 (.v 6 (.v 7 (.v 8 (.v 9 (.v 10 (.v 11 (.v 12 (.v 13 .nil)))))))))))))) moOrd (by kernel_rfl) (zj e (vI e Val.f3 zaY a_v.l) (zj e (za ty23 e) (rm e e (rm e e ?_)))))))))))))))))))))))))))
    refine zb h λy285 hy285 h=>zj e (vX e e sl178 hy285) (zj e (za ty28 e) (rm e e (zb h λy286 hy286 h=>zj e (vX e e sl28 hy286) (zj e (za ty3 e) (zb h λy287 hy287 h=>zj e (vX e e sl23 hy287) (zj e (vI e Val.f0 zcw y287.kind) (zj e (za ty3 e) (zj e (zaQ e e) (zj e (zar e) (zah (zp (ws (om e (om e (jO 2 158 h (λq288 h=>?_) λJ289 h hJ289=>oI h (λg290 h=>?_) λg290 h=>oG g290 (zm e) (oV (zf e g290 e) (hJ289 h 2)))))))))))))))))
    ·refine an e (zi (om e (om e (jO 13 173 h (λq291 h=>?_) λJ292 h hJ292=>oI h (λg293 h=>?_) λg293 h=>oG g293 (zm e) (oG g293 (zaA e) (oG g293 (zm e) (jO 4 167 h (λq294 h=>?_) λJ295 h hJ295=>oI h (λg296 h=>?_) λg296 h=>oN g296 (oN g296 (oN g296 (oG g293 (zf e g296 e) (hJ295 h 4)))))))))))
     ·exact oa e (rb (zp (zi (om e (zt h λq300 h=>oV (zX e e q300) (oa e (zF (hL254 h () 48))))))))
     ·exact oN g293 (oN g293 (oN g293 (oU (oU (oU (oN g293 (oN g293 (oU (oU (oU (oN g293 (oV (zg e g293 e) (hJ292 h 13)))))))))))))
     ·refine oG g293 (zm e) (jO 4 172 h (λq297 h=>?_) λJ298 h hJ298=>oI h (λg299 h=>?_) λg299 h=>oN g299 (oN g299 (oN g299 (oG g293 (zf e g299 e) (hJ298 h 4)))))
      ·exact oV (zf e g293 e) (hJ292 h 7)
      exact oG g299 (vI e GFld.f3 zgT y283.has) (oG g299 (za ty4 e) (oG g299 (zaA e) (oG g293 (zg e g299 e) (hJ298 h 4))))
     exact oG g296 (vI e GFld.f2 zj6 y283.optional) (oG g296 (za ty4 e) (oG g296 (zaA e) (oG g293 (zg e g296 e) (hJ295 h 4))))
    exact oN g290 (oV (zg e g290 e) (hJ289 h 2))
   refine rm e e (zb h λy301 hy301 h=>zj e (vX e e sl178 hy301) (zj e (za ty28 e) (zb h λy302 hy302 h=>zj e (vX e e sl28 hy302) (zj e (za ty3 e) (zb h λy303 hy303 h=>zj e (vX e e sl127 hy303) (zj e (vI e GFld.f5 ziR y303.group) (zj e (za ty3 e) (zj e (zbw e e) (rm e e (jD 2 188 h (λq304 h=>?_) λJ305 h hJ305=>rJ h (λg306 h=>?_) λg306 h=>rP e g306 (zj e (zf e g306 e) (hJ305 h 2))))))))))))
   ·refine rm e e (jD 2 191 h (λq307 h=>?_) λJ308 h hJ308=>rJ h (λg309 h=>?_) λg309 h=>rP e g309 (zj e (zf e g309 e) (hJ308 h 2)))
    ·refine zah (zp (zd h e (λ_ h=>?_) (λ_ h=>zJ (zw (zp (zi (om e (zt h λq310 h=>oV (zX e e q310) (oa e (zF (hL193 h 37)))))))))))
     exact ws (ar e (bn (rL193 _ (bn (ze (r1 e) k0 (iS h ▸ ⟨e,e⟩))))))
    exact rG e g309 (zm e) (zj e (zg e g309 e) (hJ308 h 2))
   exact rG e g306 (zm e) (zj e (zg e g306 e) (hJ305 h 2))
  exact oN g9 (oN g9 (oN g9 (oN g9 (oN g9 (oV (zg e g9 e) (hJ8 h 6))))))
 ·exact oN g6 (oN g6 (oN g6 (oN g6 (oN g6 (oN g6 (oN g6 (oV (zg e g6 e) (hJ5 h 8))))))))
 exact oG g6 (zaQ e e) (oV (zf e g6 e) (hJ5 h 8))

theorem zpX {zdV zed} (zlS:zgR zdV) (ziP:zhn zed):zhn (zfa zdV zed):=by
 intro a_t a_i a_v zI r h
 unfold zfa at h
 refine zh Tryz.func41 e λw0 S0 hT=>ws (oT (tB e (oT (tB e (an e (ss (om e (oV (zac e e) (om e (jO 6 19 h (λq1 h=>?_) λJ2 h hJ2=>oI h (λg3 h=>?_) λg3 h=>oG g3 (zm e) (oG g3 (vI e GTab.f3 zcE a_t.types) (oG g3 (za ty29 e) (oG g3 (vN e sl29) (oG g3 (zcY e e) (oV (zf e g3 e) (hJ2 h 6))))))))))))))))
 ·refine om e (jO 3 23 h (λq4 h=>?_) λJ5 h hJ5=>oI h (λg6 h=>?_) λg6 h=>oG g6 (zm e) (oG g6 (zbw e e) (oV (zf e g6 e) (hJ5 h 3))))
  ·refine rn (zd h e (λ_ h=>?_) (λ_ h=>wk (ws (oV (vI e GTab.f3 zcE a_t.types) (oV (za ty29 e) (om e (zb h λy7 hy7 h=>oV (vX e e sl29 hy7) (oV (za ty129 e) (oT (zU _ ze129 λb8=>oT (tS ty129 e e p0 y7 (zO (zaz 9 .here e) (rn (ss (oV (vI e Val.f0 zcw a_v.kind) (oV (za ty3 e) (oV (zC e e) (rn (zd h e (λ_ h=>?_) (λ_ h=>wk (ss (oV (vI e Val.f0 zcw a_v.kind) (oV (za ty3 e) (oV (vI e GTyp.f0 zbh y7.kind) (oV (za ty3 e) (oV (zaQ e e) (rn (zd h e (λ_ h=>?_) (λ_ h=>wk ?_)))))))))))))))))))))))))))))
   ·exact ws (ar e (zx (ze (r1 e) k0 (iS h ▸ ⟨e,e⟩))))
   ·exact ws (oV (za ty31 e) (om e (oV (za ty26 e) (zb h λy9 hy9 h=>oT (tC (zn3 hy9) hT (s3 e e e) k0 (ar e (zx (ze (r1 e) k0 (iS h ▸ ⟨e,e⟩)))))))))
   ·exact ws (ar e (zx (ze (r1 e) k0 (iS h ▸ ⟨e,e⟩))))
   refine ss (oV (vI e GTyp.f0 zbh y7.kind) (oV (za ty3 e) (rn (zo (ws (oV (zC e e) (an e (zd h e (λ_ h=>?_) (λ_ h=>ws (oV (zC e e) (an e (zd h e (λ_ h=>?_) (λ_ h=>ws (oV (zC e e) (an e (zd h e (λ_ h=>?_) (λ_ h=>ws (oV (zC e e) (an e (zd h e (λ_ h=>?_) (λ_ h=>ss (oV (zC e e) (an e (jW 88 h (λq31 h=>?_) λJ32 h hJ32=>zd h e (λ_ h=>?_) (λ_ h=>zi (oV (zC e e) (oa e (zF ?_))))))))))))))))))))))))))))
   ·refine ws (oV (za ty26 e) (zb h λy10 hy10 h=>oT (tC (zdW hy10) hT (.same e (.same e (.same e (.same e (.same e .nil))))) k0 (om e (jO 9 56 h (λq11 h=>?_) λJ12 h hJ12=>oI h (λg13 h=>?_) λg13 h=>oN g13 (oN g13 (oN g13 (oN g13 (oU (oU (oU (oN g13 (oV (zf e g13 e) (hJ12 h 9))))))))))))))
    ·exact ar e (bn (ze (r1 e) k0 (iS h ▸ ⟨e,e⟩)))
    refine oG g13 (vI e Val.f1 zbd a_v.n) (oG g13 (za ty2 e) (oG g13 (zC e e) (oG g13 (zm e) (jO 4 55 h (λq14 h=>?_) λJ15 h hJ15=>oI h (λg16 h=>?_) λg16 h=>oG g16 (vI e Val.f1 zbd a_v.n) (oG g16 (za ty2 e) (oG g16 (zC e e) (oG g13 (zf e g16 e) (hJ15 h 4))))))))
    ·exact oV (zg e g13 e) (hJ12 h 6)
    exact oN g16 (oN g16 (oN g16 (oG g13 (zg e g16 e) (hJ15 h 4))))
   ·refine ws (oV (za ty26 e) (zb h λy17 hy17 h=>oT (tC (zdW hy17) hT (.same e (.same e (.same e (.same e (.same e .nil))))) k0 (om e (jO 11 72 h (λq18 h=>?_) λJ19 h hJ19=>oI h (λg20 h=>?_) λg20 h=>oN g20 (oN g20 (oN g20 (oN g20 (oU (oU (oU (oU (oU (oN g20 (oV (zf e g20 e) (hJ19 h 11))))))))))))))))
    ·exact ar e (bn (ze (r1 e) k0 (iS h ▸ ⟨e,e⟩)))
    refine oG g20 (vI e GTyp.f2 zd1 y7.con) (oG g20 (vI e GCon.f3 zi3 y7.con.more) (oG g20 (za ty4 e) (oG g20 (zm e) (jO 6 71 h (λq21 h=>?_) λJ22 h hJ22=>oI h (λg23 h=>?_) λg23 h=>oG g23 (vI e GTyp.f2 zd1 y7.con) (oG g23 (za ty125 e) (oG g23 (vI e Val.f1 zbd a_v.n) (oG g23 (za ty2 e) (zb h λy24 hy24 h=>oH g23 (tC (zfL hy24) hT (s2 e e) k0 (oG g20 (zf e g23 e) (hJ22 h 6)))))))))))
    ·exact oV (zg e g20 e) (hJ19 h 6)
    exact oN g23 (oN g23 (oN g23 (oN g23 (oN g23 (oG g20 (zg e g23 e) (hJ22 h 6))))))
   ·refine ws (oV (za ty26 e) (zb h λy25 hy25 h=>oT (tC (zdW hy25) hT (.same e (.same e (.same e (.same e (.same e .nil))))) k0 (om e (jO 6 83 h (λq26 h=>?_) λJ27 h hJ27=>oI h (λg28 h=>?_) λg28 h=>oN g28 (oN g28 (oN g28 (oN g28 (oN g28 (oV (zf e g28 e) (hJ27 h 6)))))))))))
    ·exact ar e (bn (ze (r1 e) k0 (iS h ▸ ⟨e,e⟩)))
    exact oG g28 (za ty129 e) (oG g28 (vI e Val.f1 zbd a_v.n) (oG g28 (za ty2 e) (zb h λy29 hy29 h=>oH g28 (tC (zkR hy29) hT (s2 e e) k0 (oG g28 (zcY e e) (oV (zg e g28 e) (hJ27 h 6)))))))
   ·exact ws (oV (za ty26 e) (zb h λy30 hy30 h=>oT (tC (zdW hy30) hT (.same e (.same e (.same e (.same e (.same e .nil))))) k0 (ar e (bn (ze (r1 e) k0 (iS h ▸ ⟨e,e⟩)))))))
   ·refine zd h e (λ_ h=>?_) (λ_ h=>ws (oV (zC e e) (an e (zd h e (λ_ h=>?_) (λ_ h=>ws (oV (zC e e) (an e (zd h e (λ_ h=>?_) (λ_ h=>ss (oV (zC e e) (an e (jW 201 h (λq87 h=>?_) λJ88 h hJ88=>zd h e (λ_ h=>?_) (λ_ h=>zi (oV (zC e e) (oa e (zF (hJ88 h 2)))))))))))))))))
    ·refine ws (oV (za ty26 e) (zb h λy33 hy33 h=>oT (tC (zdW hy33) hT (.same e (.same e (.same e (.same e (.same e .nil))))) k0 (om e (jO 5 98 h (λq34 h=>?_) λJ35 h hJ35=>oI h (λg36 h=>?_) λg36 h=>oN g36 (oN g36 (oN g36 (oN g36 (oV (zf e g36 e) (hJ35 h 5))))))))))
     ·refine om e (jO 12 111 h (λq37 h=>?_) λJ38 h hJ38=>oI h (λg39 h=>?_) λg39 h=>oN g39 (oN g39 (oN g39 (oN g39 (oU (oU (oU (oU (oU (oU (oN g39 (oV (zf e g39 e) (hJ38 h 12)))))))))))))
      ·refine om e (jO 9 121 h (λq44 h=>?_) λJ45 h hJ45=>oI h (λg46 h=>?_) λg46 h=>oN g46 (oN g46 (oN g46 (oN g46 (oU (oU (oU (oN g46 (oV (zf e g46 e) (hJ45 h 9))))))))))
       ·exact ar e (bn (ze (r1 e) k0 (iS h ▸ ⟨e,e⟩)))
       refine oG g46 (vI e GTyp.f0 zbh y7.kind) (oG g46 (za ty3 e) (oG g46 (zC e e) (oG g46 (zm e) (jO 4 120 h (λq47 h=>?_) λJ48 h hJ48=>oI h (λg49 h=>?_) λg49 h=>oG g49 (vI e Val.f2 zbN a_v.b) (oG g49 (za ty22 e) (zb h λy50 hy50 h=>oH g49 (tC (ziO hy50) hT (s1 e) k0 (oG g46 (zf e g49 e) (hJ48 h 4)))))))))
       ·exact oV (zg e g46 e) (hJ45 h 6)
       exact oN g49 (oN g49 (oN g49 (oG g46 (zg e g49 e) (hJ48 h 4))))
      refine oG g39 (vI e GTyp.f2 zd1 y7.con) (oG g39 (vI e GCon.f3 zi3 y7.con.more) (oG g39 (za ty4 e) (oG g39 (zm e) (jO 7 110 h (λq40 h=>?_) λJ41 h hJ41=>oI h (λg42 h=>?_) λg42 h=>oG g42 (vI e GTyp.f2 zd1 y7.con) (oG g42 (za ty125 e) (oG g42 (vI e Val.f2 zbN a_v.b) (oG g42 (za ty22 e) (oG g42 (vN e sl22) (zb h λy43 hy43 h=>oH g42 (tC (zfL hy43) hT (s2 e e) k0 (oG g39 (zf e g42 e) (hJ41 h 7))))))))))))
      ·exact oV (zg e g39 e) (hJ38 h 6)
      exact oN g42 (oN g42 (oN g42 (oN g42 (oN g42 (oN g42 (oG g39 (zg e g42 e) (hJ41 h 7)))))))
     exact oG g36 (vI e Val.f2 zbN a_v.b) (oG g36 (za ty22 e) (oG g36 (vN e sl22) (oG g36 (zjA e e) (oV (zg e g36 e) (hJ35 h 5)))))
    ·refine ss (oV (za ty26 e) (zb h λy51 hy51 h=>oT (tC (zdW hy51) hT (.same e (.same e (.same e (.same e (.same e .nil))))) k0 (oV (zaA e) (om e (jO 14 141 h (λq52 h=>?_) λJ53 h hJ53=>oI h (λg54 h=>?_) λg54 h=>oG g54 (vI e GTyp.f2 zd1 y7.con) (oG g54 (vI e GCon.f3 zi3 y7.con.more) (oG g54 (za ty4 e) (oG g54 (zaA e) (oG g54 (zm e) (jO 8 140 h (λq55 h=>?_) λJ56 h hJ56=>oI h (λg57 h=>?_) λg57 h=>oN g57 (oN g57 (oN g57 (oN g57 (oN g57 (oN g57 (oN g57 (oG g54 (zf e g57 e) (hJ56 h 8)))))))))))))))))))
     ·refine rn (zd h e (λ_ h=>?_) (λ_ h=>wk (ss (an e (zo (lO 10 h e λL60 q59 Q69 h hL60 eL60 rL60=>ss (om e (oV (vI e Val.f3 zaY a_v.l) (oV (za ty23 e) (oV (vN e sl23) (oV (zac e e) (rn (zd h e (λ_ h=>?_) (λ_ h=>xn (eL60 _ _ (zs (zp (ws (ar e (bn (ze (r1 e) k0 (iS h ▸ ⟨e,e⟩))))))))))))))))))))))
      ·exact ws (ar e (zx (bn (ze (r1 e) k0 (iS h ▸ ⟨e,e⟩)))))
      refine wk (zE (zo (zE (zG (.v 0 (.v 1 (.v 2 (.v 3 (.v 4 (.v 5 (.v 6 (.v 7 (.v 8 (.v 9 (.t 10 (.v 11 .nil)))))))))))) moOrd (by kernel_rfl) (zj e (za ty31 e) (zj e (vI e GTyp.f7 zlW y7.of) (zj e (za ty3 e) (zj e (vI e Val.f3 zaY a_v.l) (zj e (za ty23 e) (rm e e (zb h λy65 hy65 h=>zj e (vX e e sl23 hy65) (zj e (za ty26 e) (rm e e (zt h λq66 h=>zj e (zX e e q66) (zb h λy67 hy67 h=>rT e (tC (ziP hy67) hT (s4 e e e e) k0 (zj e (zaA e) (zah (zp (zd h e (λ_ h=>?_) (λ_ h=>zJ (zw (zp (zi (om e (zt h λq68 h=>oV (zX e e q68) ?_))))))))))))))))))))))))))
      ·exact ws (ar e (bn (rL60 _ (bn (bn (ze (r1 e) k0 (iS h ▸ ⟨e,e⟩)))))))
      exact oa e (zF (hL60 h 21))
     ·exact oN g54 (oN g54 (oN g54 (oN g54 (oN g54 (oU (oU (oU (oU (oU (oU (oU (oN g54 (oV (zg e g54 e) (hJ53 h 14))))))))))))))
     ·exact oV (zf e g54 e) (hJ53 h 7)
     exact oG g57 (vI e GTyp.f2 zd1 y7.con) (oG g57 (za ty125 e) (oG g57 (vI e Val.f3 zaY a_v.l) (oG g57 (za ty23 e) (oG g57 (vN e sl23) (zb h λy58 hy58 h=>oH g57 (tC (zfL hy58) hT (s2 e e) k0 (oG g57 (zaA e) (oG g54 (zg e g57 e) (hJ56 h 8)))))))))
    ·refine zE (zG (.v 0 (.t 1 (.v 2 (.v 3 (.v 4 (.v 5 (.v 6 (.v 7 (.v 8 (.v 9 (.v 10 (.v 11 (.v 12 (.v 13 (.v 14 (.v 15 (.v 16 (.v 17 (.v 18 (.v 19 (.v 20 (.v 21 (.v 22 (.v 23 (.v 24 (.v 25 (.v 26 (.v 27 (.v 28 (.v 29 (.v 30 (.v 31 (.v 32 (.v 33 (.v 34 (.v 35 (.t 36 (.v 37 (.v 38 .nil))))))))))))))))))))))))))))))))))))))) moOrd (by kernel_rfl) (zj e (za ty26 e) (zb h λy70 hy70 h=>rT e (tC (zdW hy70) hT (.same e (.same e (.same e (.same e (.same e .nil))))) k0 (rm e e (jD 4 169 h (λq71 h=>?_) λJ72 h hJ72=>rJ h (λg73 h=>?_) λg73 h=>rP e g73 (rP e g73 (rP e g73 (zj e (zf e g73 e) (hJ72 h 4))))))))))
     ·refine rm e e (jD 7 177 h (λq74 h=>?_) λJ75 h hJ75=>rJ h (λg76 h=>?_) λg76 h=>rP e g76 (rP e g76 (rP e g76 (rP e g76 (rP e g76 (rP e g76 (zj e (zf e g76 e) (hJ75 h 7))))))))
      ·refine rm e e (jD 5 183 h (λq77 h=>?_) λJ78 h hJ78=>rJ h (λg79 h=>?_) λg79 h=>rP e g79 (rP e g79 (rP e g79 (rP e g79 (zj e (zf e g79 e) (hJ78 h 5))))))
       ·refine rm e e (jD 16 200 h (λq80 h=>?_) λJ81 h hJ81=>rJ h (λg82 h=>?_) λg82 h=>rP e g82 (rP e g82 (rP e g82 (rP e g82 (rP e g82 (rP e g82 (rP e g82 (rP e g82 (rP e g82 (rP e g82 (rP e g82 (rP e g82 (rP e g82 (rP e g82 (zet e e (dj:=184) e g82 (zj e (zf e g82 e) (hJ81 h 16)))))))))))))))))
        ·exact zj e (zar e) (zah (zp (zbz (bn (ze (r1 e) k0 (iS h ▸ ⟨e,e⟩))))))
        exact rG e g82 (za ty31 e) (rG e g82 (vI e GTyp.f4 zaB y7.fields) (rG e g82 (za ty127 e) (rG e g82 (vI e Val.f1 zbd a_v.n) (rG e g82 (za ty2 e) (zb h λy83 hy83 h=>rG e g82 (vX e e sl127 hy83) (rG e g82 (vI e GFld.f1 zcr y83.ty) (rG e g82 (za ty3 e) (rG e g82 (vI e Val.f3 zaY a_v.l) (rG e g82 (za ty23 e) (zb h λy84 hy84 h=>rG e g82 (vX e e sl23 hy84) (rG e g82 (za ty26 e) (rG e g82 (zm e) (zt h λq85 h=>rG e g82 (zX e e q85) (zb h λy86 hy86 h=>rH e g82 (tC (ziP hy86) hT (s4 e e e e) k0 (zj e (zg e g82 e) (hJ81 h 16)))))))))))))))))
       exact rG e g79 (vI e Val.f3 zaY a_v.l) (rG e g79 (za ty23 e) (rG e g79 (vN e sl23) (rG e g79 (zC e e) (zj e (zg e g79 e) (hJ78 h 5)))))
      exact rG e g76 (vI e Val.f1 zbd a_v.n) (rG e g76 (za ty2 e) (rG e g76 (vI e GTyp.f4 zaB y7.fields) (rG e g76 (za ty127 e) (rG e g76 (vN e sl127) (rG e g76 (zac e e) (zj e (zg e g76 e) (hJ75 h 7)))))))
     exact rG e g73 (vI e Val.f1 zbd a_v.n) (rG e g73 (za ty2 e) (rG e g73 (zcY e e) (zj e (zg e g73 e) (hJ72 h 4))))
    ·refine zd h e (λ_ h=>?_) (λ_ h=>zJ (zw (zp (ws (ar e (ze (r1 e) k0 (iS h ▸ ⟨e,e⟩)))))))
     exact ws (oV (za ty31 e) (om e (oV (za ty26 e) (om e (zb h λy89 hy89 h=>oT (tC (zlS hy89) hT (s4 e e e e) k0 (ar e (bn (ze (r1 e) k0 (iS h ▸ ⟨e,e⟩))))))))))
    exact zJ (hJ88 h 0)
   ·exact zJ (hJ32 h 0)
   exact hJ32 h 2
  exact oN g6 (oN g6 (oV (zg e g6 e) (hJ5 h 3)))
 exact oN g3 (oN g3 (oN g3 (oN g3 (oN g3 (oV (zg e g3 e) (hJ2 h 6))))))

theorem zia:∀ n,zgR (zi0 n)/\zhn (zgG n)
  | 0=>⟨λh=>(by cases h),λh=>(by cases h)⟩
  | n + 1=>by
    obtain ⟨h0,h1⟩:=zia n
    exact ⟨zn2 h0 h1,zpX h0 h1⟩
theorem zrx (n:Nat):zhn (zgG n):=(zia n).2

theorem zq8 {a_t a_i a_v r} (h:zjY a_t a_i a_v=some r):Ctr Tryz.prog 18 [isv a_t,isv a_i,isv a_v] [] (Pt [isv r] []):=by
 unfold zjY at h
 refine zh Tryz.func18 e λw0 S0 hT=>ws (oT (tB e (oT (tB e (an e (ws (oV (za ty26 e) (zb h λy1 hy1 h=>oT (tC (zqH fuel hy1) hT (s1 e) k0 (oV (zjA e e) (om e (jO 5 15 h (λq2 h=>?_) λJ3 h hJ3=>oI h (λg4 h=>?_) λg4 h=>oN g4 (oN g4 (oN g4 (oN g4 (oV (zf e g4 e) (hJ3 h 5)))))))))))))))))
 ·exact ar e (ze (r1 e) k0 (iS h ▸ ⟨e,e⟩))
 exact oG g4 (za ty31 e) (oG g4 (zm e) (oG g4 (za ty26 e) (zb h λy5 hy5 h=>oH g4 (tC (zrx fuel hy5) hT (s4 e e e e) k0 (oV (zg e g4 e) (hJ3 h 5))))))


theorem zkA {a_b r} (h:zdC a_b=some r):Ctr Tryz.prog 250 [isv a_b] [] (Pt [isv r.1,isv r.2.1,isv r.2.2] []):=by
 unfold zdC at h
 refine zh Tryz.func250 e λw0 S0 hT=>ws (oa e (oa e (an e (ws (an e (ss (om e (oV (vN e sl22) (om e (rn (zo (lP h Unit () (λq1 g1=>[(5,isv q1.1),(10,isv q1.2)]) (λq1 g1=>[]) (zu (j:=5) e hI (zu (j:=10) e hI zal)) k0 λL2 q1 g1 Q23 h hL2 eL2 rL2=>ws (oV (zac e e) (rn (zE (zd h e (λ_ h=>?_) (λ_ h=>xn (eL2 _ _ (zs (zp (ws (oa e (oa e (ar e (ze (.tmp e (.tmp e (.tmp e .nil))) k0 (iS h ▸ ⟨e,e⟩))))))))))))))))))))))))))
 refine wk (zE (zo (ws (om e (zb h λy13 hy13 h=>oV (vX e e sl22 hy13) (oV (za ty5 e) (oa e (an e (ss (om e (oV (zC e e) (om e (jO 3 20 h (λq14 h=>?_) λJ15 h hJ15=>oI h (λg16 h=>?_) λg16 h=>oN g16 (oN g16 (oV (zf e g16 e) (hJ15 h 3))))))))))))))))
 ·refine om e (jO 4 25 h (λq17 h=>?_) λJ18 h hJ18=>oI h (λg19 h=>?_) λg19 h=>oG g19 (zm e) (oG g19 (zr5 (q:=(57:UInt64)) e e (by decide)) (oG g19 (zkJ eq102 e e) (oV (zf e g19 e) (hJ18 h 4)))))
  ·refine rn (zd h e (λ_ h=>?_) (λ_ h=>wk (ws (om e (zR h λq20 h=>oV (zfS e e q20) (om e (oV (zhU e e) (oV (zel Tryz.underlying5 Tryz.underlying102 e) (oV (ze7 e e) (an e (ws (om e (oV (zeN e e) (rn (zd h e (λ_ h=>?_) (λ_ h=>zJ (zw (zp (zi (zt h λq22 h=>oV (zX e e q22) (om e (zF (hL2 h () 25)))))))))))))))))))))))
   ·exact ws (oa e (oa e (ar e (zx (bn (rL2 _ (bn (ze (.tmp e (.tmp e (.tmp e .nil))) k0 (iS h ▸ ⟨e,e⟩)))))))))
   exact ws (om e (om e (zt h λq21 h=>oV (zX e e q21) (oa e (oa e (ar e (bn (rL2 _ (bn (ze (.tmp e (.tmp e (.tmp e .nil))) k0 (iS h ▸ ⟨e,e⟩)))))))))))
  exact oN g19 (oN g19 (oN g19 (oV (zg e g19 e) (hJ18 h 4))))
 exact oG g16 (zm e) (oG g16 (zcL eq5 e e) (oV (zg e g16 e) (hJ15 h 3)))


theorem zoN {a_b r} (h:zg9 a_b=some r):Ctr Tryz.prog 237 [isv a_b] [] (Pt [isv r.1,isv r.2.1,isv r.2.2] []):=by
 unfold zg9 at h
 refine zh Tryz.func237 e λw0 S0 hT=>ws (oa e (oa e (an e (ss (om e (zb h λy1 hy1 h=>oV (vX e e sl22 hy1) (oV (za ty5 e) (oV (zhU e e) (oV (zmx Tryz.underlying5 Tryz.underlying3 e) (an e (ws (om e (oV (zac e e) (rn (zd h e (λ_ h=>?_) (λ_ h=>wk (ws (om e (zad h λq2 h=>oV (zf1 (l:=a_b) e hI sl22 (.inr ⟨_,e,e⟩) (.inl ⟨e,e⟩) q2.1 q2.2.1 q2.2.2) (zb h λy3 hy3 h=>oT (tC (zkA hy3) hT (s1 e) k0 (om e (oV (zD e e) (oV (zD e e) (oV (zD e e) (oa e ?_))))))))))))))))))))))))))
 ·exact ws (om e (oa e (oa e (ar e (zx (ze (.tmp e (.tmp e (.tmp e .nil))) k0 (iS h ▸ ⟨e,e⟩)))))))
 refine oa e (an e (zE (zo (ws (om e (oV (zaQ e e) (an e (zd h e (λ_ h=>?_) (λ_ h=>ws (om e (oV (zls e e) (om e (jO 3 34 h (λq4 h=>?_) λJ5 h hJ5=>oI h (λg6 h=>?_) λg6 h=>oG g6 (zm e) (oG g6 (zkg e e) (oV (zf e g6 e) (hJ5 h 3))))))))))))))))
 ·exact ws (om e (oa e (oa e (ar e (bn (ze (.tmp e (.tmp e (.tmp e .nil))) k0 (iS h ▸ ⟨e,e⟩)))))))
 ·refine an e (zd h e (λ_ h=>?_) (λ_ h=>zJ (zw (zp (ws (om e (zt h λq7 h=>oV (zkZ Tryz.underlying102 Tryz.underlying3 e q7) (om e (oa e (oa e (ar e (ze (.tmp e (.tmp e (.tmp e .nil))) k0 (iS h ▸ ⟨e,e⟩)))))))))))))
  exact ws (oa e (oa e (ar e (bn (ze (.tmp e (.tmp e (.tmp e .nil))) k0 (iS h ▸ ⟨e,e⟩))))))
 exact oN g6 (oN g6 (oV (zg e g6 e) (hJ5 h 3)))


theorem zns {a_b r} (h:zgM a_b=some r):Ctr Tryz.prog 254 [isv a_b] [] (Pt [isv r] []):=by
 unfold zgM at h
 refine zh Tryz.func254 e λw0 S0 hT=>ws (an e (ws (an e (ss (om e (oV (vN e sl22) (om e (rn (zo (lP h Unit () (λq1 g1=>[(3,isv q1.1),(8,isv q1.2)]) (λq1 g1=>[]) (zu (j:=3) e hI (zu (j:=8) e hI zal)) k0 λL2 q1 g1 Q9 h hL2 eL2 rL2=>ws (oV (zac e e) (rn (zE (zd h e (λ_ h=>?_) (λ_ h=>xn (eL2 _ _ (zs (zp (ws (om e (ar e (ze (r1 e) k0 (iS h ▸ ⟨e,e⟩)))))))))))))))))))))))
 exact wk (zE (zo (ws (zb h λy6 hy6 h=>oV (vX e e sl22 hy6) (oV (za ty5 e) (an e (zi (om e (zR h λq7 h=>oV (zfS e e q7) (om e (oV (zel Tryz.underlying5 Tryz.underlying102 e) (oV (ze7 e e) (oa e (rb (zp (zi (zt h λq8 h=>oV (zX e e q8) (om e (zF (hL2 h () 14))))))))))))))))))))


theorem zjm {a_b r} (h:zdf a_b=some r):Ctr Tryz.prog 251 [isv a_b] [] (Pt [isv r.1,isv r.2] []):=by
 unfold zdf at h
 refine zh Tryz.func251 e λw0 S0 hT=>ws (oa e (an e (ss (om e (oV (vN e sl22) (oV (zC e e) (rn (zd h e (λ_ h=>?_) (λ_ h=>wk (ss (om e (oV (vN e sl22) (oV (zbw e e) (om e (jO 10 20 h (λq1 h=>?_) λJ2 h hJ2=>oI h (λg3 h=>?_) λg3 h=>oG g3 (zm e) (oG g3 (vN e sl22) (oG g3 (zbw e e) (oG g3 (zm e) (jO 5 19 h (λq4 h=>?_) λJ5 h hJ5=>oI h (λg6 h=>?_) λg6 h=>oN g6 (oN g6 (oN g6 (oN g6 (oG g3 (zf e g6 e) (hJ5 h 5))))))))))))))))))))))))
 ·exact ws (oa e (ar e (zx (ze (r2 e e) k0 (iS h ▸ ⟨e,e⟩)))))
 ·refine rn (zd h e (λ_ h=>?_) (λ_ h=>wk (ws (om e (zb h λy8 hy8 h=>oT (tC (zns hy8) hT (s1 e) k0 (oa e (ar e (ze (r2 e e) k0 (iS h ▸ ⟨e,e⟩))))))))))
  exact ws (oa e (ar e (zx (ze (r2 e e) k0 (iS h ▸ ⟨e,e⟩)))))
 ·exact oN g3 (oN g3 (oN g3 (oN g3 (oU (oU (oU (oU (oN g3 (oV (zg e g3 e) (hJ2 h 10))))))))))
 ·exact oV (zf e g3 e) (hJ2 h 6)
 exact oG g6 (zm e) (zb h λy7 hy7 h=>oG g6 (vX e e sl22 hy7) (oG g6 (za ty5 e) (oG g6 (zcL eq5 e e) (oG g3 (zg e g6 e) (hJ5 h 5)))))


theorem zoZ {a_b r} (h:zhj a_b=some r):Ctr Tryz.prog 238 [isv a_b] [] (Pt [isv r.1,isv r.2.1,isv r.2.2] []):=by
 unfold zhj at h
 refine zh Tryz.func238 e λw0 S0 hT=>ws (oa e (oa e (an e (ss (om e (oV (vN e sl22) (oV (zC e e) (rn (zd h e (λ_ h=>?_) (λ_ h=>wk (ss (om e (zb h λy1 hy1 h=>oV (vX e e sl22 hy1) (oV (za ty5 e) (oV (zeN e e) (rn (zd h e (λ_ h=>?_) (λ_ h=>wk (ws (om e (zb h λy3 hy3 h=>oV (vX e e sl22 hy3) (oV (za ty5 e) (oV (zsx e e) (oV (zmx Tryz.underlying5 Tryz.underlying3 e) (an e (zE ?_))))))))))))))))))))))))))
 ·exact ws (oa e (oa e (ar e (zx (ze (.tmp e (.tmp e (.tmp e .nil))) k0 (iS h ▸ ⟨e,e⟩))))))
 ·exact ws (om e (zb h λy2 hy2 h=>oV (vX e e sl22 hy2) (oV (za ty5 e) (oV (zmx Tryz.underlying5 Tryz.underlying3 e) (oa e (oa e (ar e (zx (ze (.tmp e (.tmp e (.tmp e .nil))) k0 (iS h ▸ ⟨e,e⟩))))))))))
 refine zo (ws (om e (oV (zC e e) (om e (jO 3 30 h (λq4 h=>?_) λJ5 h hJ5=>oI h (λg6 h=>?_) λg6 h=>oG g6 (zm e) (oG g6 (zbw e e) (oV (zf e g6 e) (hJ5 h 3))))))))
 ·refine an e (zd h e (λ_ h=>?_) (λ_ h=>ws (om e (oV (vN e sl22) (om e (oV (zjA e e) (an e (zd h e (λ_ h=>?_) (λ_ h=>zJ (zw (zp (ws (om e (om e (zt h λq7 h=>oV (zX e e q7) (zad h λq8 h=>oV (zf1 (l:=a_b) e hI sl22 (.inr ⟨_,e,e⟩) (.inr ⟨_,e,e⟩) q8.1 q8.2.1 q8.2.2) (zb h λy9 hy9 h=>oT (tC (zjm hy9) hT (s1 e) k0 (om e (oV (zD e e) (oV (zD e e) (oa e (an e (ss (om e (oV (zaQ e e) (om e ?_)))))))))))))))))))))))))))
  ·exact ws (oa e (oa e (ar e (bn (ze (.tmp e (.tmp e (.tmp e .nil))) k0 (iS h ▸ ⟨e,e⟩))))))
  ·exact ws (oa e (oa e (ar e (bn (ze (.tmp e (.tmp e (.tmp e .nil))) k0 (iS h ▸ ⟨e,e⟩))))))
  refine jO 3 49 h (λq10 h=>?_) λJ11 h hJ11=>oI h (λg12 h=>?_) λg12 h=>oG g12 (zm e) (oG g12 (zls e e) (oV (zf e g12 e) (hJ11 h 3)))
  ·refine om e (jO 3 53 h (λq13 h=>?_) λJ14 h hJ14=>oI h (λg15 h=>?_) λg15 h=>oG g15 (zm e) (oG g15 (zkg e e) (oV (zf e g15 e) (hJ14 h 3))))
   ·refine rn (zd h e (λ_ h=>?_) (λ_ h=>wk (ws (om e (zt h λq16 h=>oV (zkZ Tryz.underlying102 Tryz.underlying3 e q16) (om e (zt h λq17 h=>oV (zX e e q17) (oa e (oa e (ar e (ze (.tmp e (.tmp e (.tmp e .nil))) k0 (iS h ▸ ⟨e,e⟩))))))))))))
    exact ws (oa e (oa e (ar e (zx (ze (.tmp e (.tmp e (.tmp e .nil))) k0 (iS h ▸ ⟨e,e⟩))))))
   exact oN g15 (oN g15 (oV (zg e g15 e) (hJ14 h 3)))
  exact oN g12 (oN g12 (oV (zg e g12 e) (hJ11 h 3)))
 exact oN g6 (oN g6 (oV (zg e g6 e) (hJ5 h 3)))


theorem znE {a_b r} (h:zfU a_b=some r):Ctr Tryz.prog 215 [isv a_b] [] (Pt [isv r.1,isv r.2.1,isv r.2.2.1,isv r.2.2.2.1,isv r.2.2.2.2] []):=by
 unfold zfU at h
 refine zh Tryz.func215 e λw0 S0 hT=>ws (oT (zU _ ze206 λb1=>oa e (oa e (oa e (an e (ss (om e (oV (vN e sl22) (oV (zC e e) (rn (zd h e (λ_ h=>?_) (λ_ h=>wk (ws (om e (zb h λy2 hy2 h=>oT (tC (zoN hy2) hT (s1 e) k0 (om e (oV (zD e e) (oV (zD e e) (oV (zD e e) (oa e (oa e (an e (ss (om e (oV (zaQ e e) (rn (zd h e (λ_ h=>?_) (λ_ h=>?_)))))))))))))))))))))))))))))
 ·exact ws (oV (zak (z:=(Tag.mk (0:Int) (0:Int))) e bu206 ze206 .nil) (oT (tS ty206 e e p0 ⟨0,0⟩ (oa e (oa e (oa e (ar e (zx (ze (.cell e .here ty206 (.tmp e (.tmp e (.tmp e (.tmp e .nil))))) k0 (iS h ▸ ⟨e,e⟩))))))))))
 ·exact ws (oV (zak (z:=(Tag.mk (0:Int) (0:Int))) e bu206 ze206 .nil) (om e (oT (tS ty206 e e p0 ⟨0,0⟩ (oa e (oa e (oa e (ar e (zx (ze (.cell e .here ty206 (.tmp e (.tmp e (.tmp e (.tmp e .nil))))) k0 (iS h ▸ ⟨e,e⟩)))))))))))
 refine wk (ws (om e (om e (zt h λq3 h=>oV (zX e e q3) (zad h λq4 h=>oV (zf1 (l:=a_b) e hI sl22 (.inr ⟨_,e,e⟩) (.inl ⟨e,e⟩) q4.1 q4.2.1 q4.2.2) (zb h λy5 hy5 h=>oT (tC (zoZ hy5) hT (s1 e) k0 (om e (oV (zD e e) (oV (zD e e) (oV (zD e e) (oa e (oa e (an e (ss (om e (oV (zaQ e e) (rn (zd h e (λ_ h=>?_) (λ_ h=>wk (zE (zG (.v 0 (.v 1 (.v 2 (.v 3 (.v 4 (.v 5 (.v 6 (.v 7 (.v 8 (.v 9 (.v 10 (.v 11 (.v 12 (.v 13 (.v 14 (.v 15 (.v 16 (.t 17 (.v 18 (.v 19 (.v 20 (.v 21 .nil)))))))))))))))))))))) moOrd (by kernel_rfl) (rm e e (zb h λy6 hy6 h=>zj e (vX e e sl22 hy6) (zj e (za ty5 e) (zR h λq7 h=>?_))))))))))))))))))))))))))
 ·exact ws (oV (zak (z:=(Tag.mk (0:Int) (0:Int))) e bu206 ze206 .nil) (om e (oT (tS ty206 e e p0 ⟨0,0⟩ (oa e (oa e (oa e (ar e (zx (ze (.cell e .here ty206 (.tmp e (.tmp e (.tmp e (.tmp e .nil))))) k0 (iS h ▸ ⟨e,e⟩)))))))))))
 exact zj e (zmd e e q7) (zj e (zmx Tryz.underlying5 Tryz.underlying3 e) (rm e e (zj e (zak (z:=(Tag.mk ((shr8 y6 (6:UInt64).toNat).toNat:Int) y2.1)) e bu206 ze206 (.cons Tag.f0 zfE e hI (.cons Tag.f1 zdz e hI .nil))) (rm e e (zb h λy8 hy8 h=>zj e (vX e e sl22 hy8) (zj e (za ty5 e) (zj e (zhU e e) (zj e (zkJ eq5 e e) (rm e e (rm e e (zt h λq9 h=>zj e (zX e e q9) (rm e e (zt h λq10 h=>zj e (zX e e q10) (rT e (tS ty206 e e p0 ⟨((shr8 y6 (6:UInt64).toNat).toNat:Int),y2.1⟩ (zj e (zar e) (zj e (zar e) (zj e (zar e) (zj e (zar e) (zah (zp (zbz (ze (.cell e .here ty206 (.tmp e (.tmp e (.tmp e (.tmp e .nil))))) k0 (iS h ▸ ⟨e,e⟩))))))))))))))))))))))))


theorem zqZ {a_b r} (h:zjJ a_b=some r):Ctr Tryz.prog 185 [isv a_b] [] (Pt [isv r.1,isv r.2.1,isv r.2.2.1,isv r.2.2.2.1,isv r.2.2.2.2] []):=by
 unfold zjJ at h
 refine zh Tryz.func185 e λw0 S0 hT=>ws (oT (zU _ ze206 λb1=>oa e (oa e (oa e (an e (ws (om e (zb h λy2 hy2 h=>oT (tC (znE hy2) hT (s1 e) k0 (om e (oV (zD e e) (oV (zD e e) (oV (zD e e) (oV (zD e e) (oV (zD e e) (oT (zU _ ze206 λb3=>oT (tS ty206 e e p0 y2.1 (zO (zaz 7 .here e) (oa e (oa e (oa e (an e (ss (om e (oV (zC e e) (om e (jO 7 29 h (λq4 h=>?_) λJ5 h hJ5=>oI h (λg6 h=>?_) λg6 h=>?_))))))))))))))))))))))))))))
 ·refine rn (jW 11 h (λq8 h=>?_) λJ9 h hJ9=>zd h e (λ_ h=>?_) (λ_ h=>zJ (hJ9 h 0)))
  ·refine ss (om e (oV (zaQ e e) (rn (zd h e (λ_ h=>?_) (λ_ h=>wk (zE (zG (.v 0 (.v 1 (.v 2 (.v 3 (.v 4 (.v 5 (.v 6 (.v 7 (.v 9 (.v 10 (.v 11 (.t 8 (.t 12 (.v 13 (.v 14 (.v 15 (.v 16 .nil))))))))))))))))) moOrd (by kernel_rfl) (zj e (za ty206 e) (rm e e (rm e e (rm e e (rm e e (rm e e (zt h λq10 h=>zj e (zX e e q10) (zad h λq11 h=>zj e (zf1 (l:=a_b) e hI sl22 (.inr ⟨_,e,e⟩) (.inr ⟨_,e,e⟩) q11.1 q11.2.1 q11.2.2) (rm e e (rm e e (zt h λq12 h=>zj e (zX e e q12) (zR h λq14 h=>rT e (zl5 (m:=((a_b.take ((y2.2.2.2.1 + y2.2.2.1)).toNat).drop (y2.2.2.2.1).toNat)) zkq e e hI q14 λt13=>rT e (tS ty206 e e p1 y2.1 (zj e (zar e) (zj e (zar e) (zj e (zar e) (zj e (zar e) (zah ?_))))))))))))))))))))))))))
   ·exact ws (oV (zak (z:=(Tag.mk (0:Int) (0:Int))) e bu206 ze206 .nil) (om e (oT (tS ty206 e e p0 ⟨0,0⟩ (oa e (oa e (oa e (ar e (zx (ze (.cell e .here ty206 (.tmp e (.as e (zdQ (α:=UInt8)) (.tmp e (.tmp e .nil))))) k0 (iS h ▸ ⟨e,e⟩)))))))))))
   exact zp (zbz (ze (.cell e .here ty206 (.tmp e (.as e zz (.tmp e (.tmp e .nil))))) k0 (iS h ▸ ⟨e,e⟩)))
  exact zi (oa e (zF (hJ9 h 1)))
 ·exact oG g6 (zm e) (oG g6 (zm e) (oG g6 (vN e sl22) (oG g6 (zm e) (zt h λq7 h=>oG g6 (zdR e e q7) (oG g6 (zbw e e) (oV (zg e g6 e) (hJ5 h 7)))))))
 exact oN g6 (oN g6 (oN g6 (oN g6 (oN g6 (oN g6 (oV (zf e g6 e) (hJ5 h 7)))))))


theorem zkL {a_t a_k r} (h:zfo a_t a_k=some r):Ctr Tryz.prog 159 [isv a_t,isv a_k] [] (Pt [isv r] []):=by
 unfold zfo at h
 refine zh Tryz.func159 e λw0 S0 hT=>ws (oT (tB e (an e (ws (oV (vI e GTyp.f4 zaB a_t.fields) (oV (za ty127 e) (om e (zb h λy1 hy1 h=>oV (vX e e sl127 hy1) (oV (vI e GFld.f2 zj6 y1.optional) (oV (za ty4 e) (om e (jO 7 18 h (λq2 h=>?_) λJ3 h hJ3=>oI h (λg4 h=>?_) λg4 h=>oG g4 (vI e GTyp.f4 zaB a_t.fields) (oG g4 (za ty127 e) (oG g4 (zm e) (zb h λy5 hy5 h=>oG g4 (vX e e sl127 hy5) (oG g4 (vI e GFld.f3 zgT y5.has) (oG g4 (za ty4 e) (oV (zf e g4 e) (hJ3 h 7)))))))))))))))))))
 ·refine om e (jO 5 24 h (λq6 h=>?_) λJ7 h hJ7=>oI h (λg8 h=>?_) λg8 h=>oG g8 (zm e) (oG g8 (vI e GTyp.f5 ze4 a_t.root) (oG g8 (za ty3 e) (oG g8 (zcY e e) (oV (zf e g8 e) (hJ7 h 5))))))
  ·exact ar e (ze (r1 e) k0 (iS h ▸ ⟨e,e⟩))
  exact oN g8 (oN g8 (oN g8 (oN g8 (oV (zg e g8 e) (hJ7 h 5)))))
 exact oN g4 (oN g4 (oN g4 (oN g4 (oN g4 (oN g4 (oV (zg e g4 e) (hJ3 h 7)))))))


theorem zo7 {a_t r} (h:zht a_t=some r):Ctr Tryz.prog 186 [isv a_t] [] (Pt [isv r] []):=by
 unfold zht at h
 refine zh Tryz.func186 e λw0 S0 hT=>ws (oT (tB e (an e (ws (oV (vI e GTyp.f5 ze4 a_t.root) (oV (za ty3 e) (oV (zvC e e) (oV (vI e GTyp.f4 zaB a_t.fields) (oV (za ty127 e) (oV (vN e sl127) (oV (zvw e e) (an e (zE (zo (lO 3 h e λL2 q1 Q15 h hL2 eL2 rL2=>ss (om e (oV (zbw e e) (om e (jO 5 18 h (λq9 h=>?_) λJ10 h hJ10=>oI h (λg11 h=>?_) λg11 h=>oN g11 (oN g11 (oN g11 (oN g11 (oV (zf e g11 e) (hJ10 h 5))))))))))))))))))))))))
 ·refine rn (zd h e (λ_ h=>?_) (λ_ h=>xn (eL2 _ _ (zs (zp (ws (om e (ar e (ze (r1 e) k0 (iS h ▸ ⟨e,e⟩))))))))))
  exact wk (zo (zi (om e (zt h λq14 h=>oV (zdR e e q14) (oa e (rb (hL2 h 8)))))))
 exact oG g11 (za ty129 e) (oG g11 (zm e) (zt h λq12 h=>oG g11 (zdR e e q12) (zb h λy13 hy13 h=>oH g11 (tC (zkL hy13) hT (s2 e e) k0 (oV (zg e g11 e) (hJ10 h 5))))))


theorem zii {a_x a_a1 zep t_a_a11 r} (h:zcM a_x a_a1=some r):Ctr Tryz.prog 240 [isv a_x,ptrv zep (Fld.id (TList Tag))] [boxE zep ((TList.mk t_a_a11 a_a1):(TList Tag)),tokE t_a_a11] (Pt1 (λ_=>[]) λu1=>[boxE zep ((TList.mk u1 r)),tokE u1]):=by
 unfold zcM at h
 refine zh Tryz.func240 e λw0 S0 hT=>ws (oT (tB e (rn (ws (oV (vI e GTyp.f1 zeZ a_x.tags) (oV (za ty123 e) (oV (vN e sl123) (oV (zbw e e) (rn (zd h e (λ_ h=>?_) (λ_ h=>zJ (zaD .nil k2 (iS h ▸ ⟨t_a_a11,e,e⟩)))))))))))))
 refine zG (.v 1 (.v 2 (.v 3 (.v 4 (.alt 0 (.t 5 (.t 6 (.t 7 .nil))) (.t 5 (.t 0 (.t 6 (.t 7 .nil))))))))) moOrd (by kernel_rfl) (zj e (vI e GTyp.f1 zeZ a_x.tags) (zj e (za ty123 e) (zb h λy2 hy2 h=>zj e (vX e e sl123 hy2) (zj e (za ty206 e) (zR h λq5 h=>zhi ?_ (rT e (zB (l:=([y2]:(List Tag))) el123 (.cons e hI .nil) e e (rT e (zaL (R:=appv t_a_a11 a_a1) ty123 e p0 isvT1 (rT e (zbY (l:=a_a1) (m:=([y2]:(List Tag))) zfh e hI e zz (.there .here) q5 λt7=>rT e (tR ty123 e e isvT2 p1 ⟨t7,(a_a1 ++ ([y2]:(List Tag)))⟩ e (zah (zaD .nil k2 (iS h ▸ ⟨t7,e,e⟩)))))))))))))))
 exact rT e (zaL (R:=appv t_a_a11 a_a1) ty123 e p0 isvT1 (rT e (zB (l:=([y2]:(List Tag))) el123 (.cons e hI .nil) e e (rT e (zbY (l:=a_a1) (m:=([y2]:(List Tag))) zfh e hI e zz (.there .here) q5 λt4=>rT e (tR ty123 e e isvT2 p1 ⟨t4,(a_a1 ++ ([y2]:(List Tag)))⟩ e (zah (zaD .nil k2 (iS h ▸ ⟨t4,e,e⟩)))))))))


def zdK (f':GTys->Int->Int->(List Tag)->Option (GTys × Int × (List Tag))):Prop :=
 ∀ {a_t zjg zdp zj4 zlf zeb zh0 t_a_do__01 r},f' a_t zjg zdp zj4=some r->Ctr Tryz.prog 239 [ptrv zlf (Fld.id GTys),isv zjg,ptrv zeb (Fld.id Int),clov 240 [ptrv zh0 (Fld.id (TList Tag))]] [boxE zlf (a_t:GTys),boxE zeb (zdp:Int),boxE zh0 ((TList.mk t_a_do__01 zj4):(TList Tag)),tokE t_a_do__01] (Pt1 (λ_=>[]) λu1=>[boxE zlf (r.1),boxE zeb (r.2.1),boxE zh0 ((TList.mk u1 r.2.2)),tokE u1])
theorem zjT {zd3} (zkz:zdK zd3):zdK (zb2 zd3):=by
 intro a_t zjg zdp zj4 zlf zeb zh0 t_a_do__01 r h
 unfold zb2 at h
 refine zh Tryz.func239 e λw0 S0 hT=>ss (om e (oV (zac e e) (om e (jO 8 21 h (λq2 h=>?_) λJ3 h hJ3=>oI h (λg4 h=>?_) λg4 h=>oG g4 (zm e) (oG g4 (zm e) (oG g4 (zn e) (oG g4 (zV e GTys.f0 zpf) (oH g4 (tL ty29 e p0 a_t.l (oG g4 (vN e sl29) (oG g4 (zcY e e) (oV (zf e g4 e) (hJ3 h 8)))))))))))))
 ·refine om e (jO 5 27 h (λq5 h=>?_) λJ6 h hJ6=>oI h (λg7 h=>?_) λg7 h=>oG g7 (zm e) (oG g7 (zn e) (oH g7 (tL ty3 e p1 zdp (oG g7 (zC e e) (oV (zf e g7 e) (hJ6 h 5)))))))
  ·refine rn (zd h e (λ_ h=>?_) (λ_ h=>wk (ws (om e (oV (zn e) (oT (tL ty3 e p1 zdp (zt h λq8 h=>oV (zdR e e q8) (oV (zn e) (oT (tS ty3 e e p1 (zdp - 1) (rn (ws (om e (oV (zn e) (oV (zV e GTys.f0 zpf) (oT (tL ty29 e p1 a_t.l (om e (zb h λy9 hy9 h=>oV (vX e e sl29 hy9) (oV (za ty129 e) (oT (zU _ ze129 λb10=>oT (tS ty129 e e p0 y9 (zO (zaz 8 .here e) (rn (ws (om e (oV (za ty129 e) (zb h λy11 hy11 h=>oT (zfG e (.same e .nil) (zii hy11) hT (.cons (.there (.there .here)) (.cons (.there (.there .here)) .nil)) (λR H' hR=>?_))))))))))))))))))))))))))))))))
   ·exact zbz (zx (ze .nil k4 (iS h ▸ ⟨t_a_do__01,e,e⟩)))
   obtain ⟨t12,rfl,rfl⟩:=hR
   refine rn (ss (oV (vI e GTyp.f1 zeZ y9.tags) (oV (za ty123 e) (oV (vN e sl123) (oV (zbw e e) (rn (zd h e (λ_ h=>?_) (λ_ h=>wk (ws (oV (vI e GTyp.f4 zaB y9.fields) (oV (za ty127 e) (oV (vN e sl127) (om e (rn (zo (lP h Tok t12 (λq13 g13=>[(50,isv q13.1)]) (λq13 g13=>[boxE zh0 ((TList.mk g13 q13.2.1):(TList Tag)),tokE g13,boxE zeb (q13.2.2.1:Int),boxE zlf (q13.2.2.2:GTys)]) (zu (j:=50) e hI zal) k4 λL14 q13 g13 Q25 h hL14 eL14 rL14=>ws (oV (zac e e) (rn (zE (zd h e (λ_ h=>?_) (λ_ h=>xn (eL14 _ _ (zs (zaD .nil (a3 (a2 k2)) (iS h ▸ ⟨g13,e,e⟩)))))))))))))))))))))))))
   ·exact zbz (zx (ze .nil (a3 (a2 k2)) (iS h ▸ ⟨t12,e,e⟩)))
   exact wk (zE (zo (ws (zb h λy20 hy20 h=>oV (vX e e sl127 hy20) (oV (za ty137 e) (oT (zU _ ze137 λb21=>oT (tS ty137 e e p0 y20 (zO (zaz 10 .here e) (rn (zi (om e (oV (vI e GFld.f1 zcr y20.ty) (oV (za ty3 e) (om e (om e (zb h λy22 hy22 h=>oT (tC1 (zkz hy22) hT (s4 e e e e) (a3 (a2 k2)) (λt23=>rb (zp (zi (zt h λq24 h=>oV (zX e e q24) (om e (zF (hL14 h t23 14)))))))))))))))))))))))))
  exact oN g7 (oN g7 (oN g7 (oN g7 (oV (zg e g7 e) (hJ6 h 5)))))
 exact oN g4 (oN g4 (oN g4 (oN g4 (oN g4 (oN g4 (oN g4 (oV (zg e g4 e) (hJ3 h 8))))))))

theorem zfj:∀ n,zdK (zdc n)
  | 0=>λh=>(by cases h)
  | n + 1=>zjT (zfj n)
theorem zkD (n:Nat):zdK (zdc n):=(zfj n)

theorem zjp {a_t zjg zlf r} (h:zd2 a_t zjg=some r):Ctr Tryz.prog 218 [ptrv zlf (Fld.id GTys),isv zjg] [boxE zlf (a_t:GTys)] (Pt [isv r.1] [boxE zlf (r.2)]):=by
 unfold zd2 at h
 exact zh Tryz.func218 e λw0 S0 hT=>ws (an e (ws (oT (zU _ zuN λb1=>zO (zaW) (rn (ws (oT (zU _ ze3 λb3=>oT (tS ty3 e e p0 300 (rn (ws (om e (om e (oV (zgk (.same e .nil)) (zb h λy4 hy4 h=>oT (tC1 (zkD fuel hy4) hT (s4 e e e e) (a3 (a0 (a1 k1))) (λt5=>rn (ws (oT (zaL (R:=appv t5 y4.2.2) ty123 e p2 isvT1 (ar e (ze (.as e zz .nil) k1 (iS h ▸ ⟨e,e⟩)))))))))))))))))))))))


theorem znh {a_t a_i r} (h:zfK a_t a_i=some r):Ctr Tryz.prog 190 [isv a_t,isv a_i] [] (Pt [isv r] []):=by
 unfold zfK at h
 exact zh Tryz.func190 e λw0 S0 hT=>ws (oT (tB e (an e (ws (oV (vI e GTab.f3 zcE a_t.types) (oV (za ty29 e) (oV (zak (z:=(GTys.mk a_t.types)) e bu272 ze272 (.cons GTys.f0 zpf e hI .nil)) (oT (zma (y:=(GTys.mk a_t.types)) e hI λb1=>an e (ws (om e (om e (zb h λy2 hy2 h=>oT (tC (zjp hy2) hT (s2 e e) k1 (ar e (ze (r1 e) k0 (iS h ▸ ⟨e,e⟩)))))))))))))))))


theorem zf0 {a_s a_v r} (h:zb5 a_s a_v=some r):Ctr Tryz.prog 217 [isv a_s,isv a_v] [] (Pt [isv r] []):=by
 unfold zb5 at h
 refine zh Tryz.func217 e λw0 S0 hT=>ws (oT (tB e (an e (ss (om e (oV (vN e sl123) (om e (rn (zo (lO 8 h e λL2 q1 Q7 h hL2 eL2 rL2=>ws (oV (zac e e) (rn (zE (zd h e (λ_ h=>?_) (λ_ h=>xn (eL2 _ _ (zs (zp (ws (ar e (ze (r1 e) k0 (iS h ▸ ⟨e,e⟩))))))))))))))))))))))
 refine wk (zE (zo (ws (om e (an e (zE (zG (.v 0 (.v 1 (.v 2 (.v 3 (.v 4 (.v 5 .nil)))))) moOrd (by kernel_rfl) (zj e (za ty206 e) (rm e e (rm e e (zb h λy5 hy5 h=>zj e (vX e e sl123 hy5) (zj e (za ty206 e) (zj e (zcL eq206 e e) (zah (zp (zd h e (λ_ h=>?_) (λ_ h=>zJ (zw (zp (zi (zt h λq6 h=>oV (zX e e q6) (om e (zF (hL2 h 12))))))))))))))))))))))))
 exact ws (om e (ar e (bn (rL2 _ (bn (ze (r1 e) k0 (iS h ▸ ⟨e,e⟩)))))))


theorem ze9 {a_s a_v r} (h:zbe a_s a_v=some r):Ctr Tryz.prog 189 [isv a_s,isv a_v] [] (Pt [isv r] []):=by
 unfold zbe at h
 exact zh Tryz.func189 e λw0 S0 hT=>ws (oT (tB e (an e (ws (om e (oV (za ty206 e) (zb h λy1 hy1 h=>oT (tC (zf0 hy1) hT (s2 e e) k0 (oV (zcY e e) (ar e (ze (r1 e) k0 (iS h ▸ ⟨e,e⟩))))))))))))


theorem zhb {a_f a_a1 a_a2 zep r} (h:zcZ a_f a_a1 a_a2=some r):Ctr Tryz.prog 188 [isv a_f,immv (PtrB.mk zep),immv (a_a2)] [boxE zep (a_a1:GChk)] (Pt [isv r.1] [boxE zep (r.2)]):=by
 unfold zcZ at h
 exact zh Tryz.func188 e λw0 S0 hT=>ws (oT (tB e (an e (zE (zG (.v 0 (.v 1 (.v 2 (.v 3 (.v 5 (.v 6 (.v 8 (.t 4 (.t 7 (.t 9 (.v 10 .nil))))))))))) moOrd (by kernel_rfl) (zj e (zdP (α:=GChk) ty116 e) (zj e (zn e) (zj e (zV e GChk.f0 zfx) (zj e (zV e GTbd.f0 zfw) (zj e (vI e GFld.f1 zcr a_f.ty) (zj e (za ty3 e) (zj e (za ty206 e) (rT e (tL ty31 e p0 a_a1.tabled.t (zb h λy1 hy1 h=>rT e (tC (znh hy1) hT (s2 e e) k0 (zb h λy2 hy2 h=>rT e (tC (ze9 hy2) hT (s2 e e) k0 (zj e (zar e) (zah (zp (zbz (ze (r1 e) k1 (iS h ▸ ⟨e,e⟩))))))))))))))))))))))))


theorem zen {a_s zdU zeT zdg r} (h:zbg a_s zdU zeT=some r):Ctr Tryz.prog 216 [isv a_s,clov 188 [immv (PtrB.mk zdg),immv (zeT)]] [boxE zdg (zdU:GChk)] (Pt [isv r.1] [boxE zdg (r.2)]):=by
 unfold zbg at h
 refine zh Tryz.func216 e λw0 S0 hT=>ws (an e (ss (om e (oV (vN e sl127) (om e (rn (zo (lP h Unit () (λq1 g1=>[(8,isv q1.1)]) (λq1 g1=>[boxE zdg (q1.2:GChk)]) (zu (j:=8) e hI zal) k1 λL2 q1 g1 Q9 h hL2 eL2 rL2=>ws (oV (zac e e) (rn (zE (zd h e (λ_ h=>?_) (λ_ h=>xn (eL2 _ _ (zs (zp (ws (ar e (ze (r1 e) k1 (iS h ▸ ⟨e,e⟩))))))))))))))))))))
 refine wk (zE (zo (ws (om e (an e (ws (om e (om e (om e (zb h λy6 hy6 h=>oV (vX e e sl127 hy6) (oV (za ty137 e) (zb h λy7 hy7 h=>oT (zfG e (.same e .nil) (zhb hy7) hT (.cons .here .nil) (λR H' hR=>?_))))))))))))))
 obtain ⟨rfl,rfl⟩:=hR
 refine rn (zd h e (λ_ h=>?_) (λ_ h=>zJ (zw (zp (zi (zt h λq8 h=>oV (zX e e q8) (om e (zF (hL2 h () 12)))))))))
 exact ws (om e (ar e (bn (rL2 _ (bn (ze (r1 e) k1 (iS h ▸ ⟨e,e⟩)))))))


theorem zdZ {a_s zdU zeT zdg r} (h:za4 a_s zdU zeT=some r):Ctr Tryz.prog 187 [isv a_s,clov 188 [immv (PtrB.mk zdg),immv (zeT)]] [boxE zdg (zdU:GChk)] (Pt [isv r.1] [boxE zdg (r.2)]):=by
 unfold za4 at h
 exact zh Tryz.func187 e λw0 S0 hT=>ws (an e (ws (om e (om e (zb h λy1 hy1 h=>oT (tC (zen hy1) hT (s2 e e) k1 (oV (zcY e e) (ar e (ze (r1 e) k1 (iS h ▸ ⟨e,e⟩))))))))))


theorem zfp {a_c a_i a_b zca r} (h:zb7 a_c a_i a_b=some r):Ctr Tryz.prog 155 [ptrv zca (Fld.id GChk),isv a_i,isv a_b] [boxE zca (a_c:GChk)] (Pt [isv r.1,isv r.2.1] [boxE zca (r.2.2)]):=by
 unfold zb7 at h
 refine zh Tryz.func155 e λw0 S0 hT=>ws (oT (zmV (y:=PtrB.mk zca) e zpt (oT (zU _ ze206 λb1=>an e (ws (om e (zb h λy2 hy2 h=>oT (tC (zqZ hy2) hT (s1 e) k0 (om e (oV (zD e e) (oV (zD e e) (oV (zD e e) (oV (zD e e) (oV (zD e e) (oT (zU _ ze206 λb3=>oT (tS ty206 e e p0 y2.1 (zO (zaz 8 .here e) (oa e (oa e (oa e (an e (ss (om e (oV (zaQ e e) (om e (jO 5 31 h (λq4 h=>?_) λJ5 h hJ5=>oI h (λg6 h=>?_) λg6 h=>oG g6 (zm e) (oG g6 (zm e) ?_))))))))))))))))))))))))))))
 ·refine rn (zd h e (λ_ h=>?_) (λ_ h=>wk (ws (oV (zdP (α:=GChk) ty116 e) (oV (zn e) (oV (zV e GChk.f0 zfx) (oV (zV e GTbd.f0 zfw) (oV (zV e GTab.f3 zcE) (oT (tL ty29 e p1 a_c.tabled.t.types (om e (zb h λy7 hy7 h=>oV (vX e e sl29 hy7) (oV (za ty129 e) (oT (zU _ ze129 λb8=>oT (tS ty129 e e p0 y7 (zO (zaz 13 .here e) (an e (ss (oV (vI e GTyp.f0 zbh y7.kind) (oV (za ty3 e) (oV (zC e e) (rn (jW 14 h (λq9 h=>?_) λJ10 h hJ10=>zd h e (λ_ h=>?_) (λ_ h=>zJ (hJ10 h 0))))))))))))))))))))))))))
  ·exact ws (oV (zak (z:=(Tag.mk (0:Int) (0:Int))) e bu206 ze206 .nil) (oT (tS ty206 e e p0 ⟨0,0⟩ (ar e (zx (ze (.cell e .here ty206 (.tmp e .nil)) (a1 k0) (iS h ▸ ⟨e,e⟩)))))))
  ·exact ws (oV (vI e GTyp.f4 zaB y7.fields) (oV (za ty127 e) (om e (zad h λq12 h=>oV (zf1 (l:=y7.fields) e hI sl127 (.inr ⟨_,e,e⟩) (.inl ⟨e,e⟩) q12.1 q12.2.1 q12.2.2) (oV (zgk (.same e (.same e .nil))) (zb h λy13 hy13 h=>oT (tC (zdZ hy13) hT (s2 e e) (a1 k0) (an e (ws (oV (za ty206 e) (om e (oV (zaA e) (oT (tS ty206 e e p1 y2.1 (ar e (ze (.cell e .here ty206 (.tmp e .nil)) (a1 k0) (iS h ▸ ⟨e,e⟩)))))))))))))))))
  exact zi (oV (za ty129 e) (zb h λy11 hy11 h=>oT (tC (zo7 hy11) hT (s1 e) k0 (oa e (zF (hJ10 h 3))))))
 ·exact oN g6 (oN g6 (oN g6 (oN g6 (oV (zg e g6 e) (hJ5 h 5)))))
 exact oG g6 (vN e sl22) (oG g6 (zaQ e e) (oV (zf e g6 e) (hJ5 h 5)))


theorem zmG {a_y a_a1 r} (h:zgn a_y a_a1=some r):Ctr Tryz.prog 112 [isv a_y,immv (a_a1)] [] (Pt [isv r] []):=by
 unfold zgn at h
 exact zh Tryz.func112 e λw0 S0 hT=>ws (oT (tB e (an e (ws (oV (vI e GItem.f1 zdL a_y.number) (oV (za ty2 e) (oV (za ty2 e) (oV (zC e e) (ar e (ze (r1 e) k0 (iS h ▸ ⟨e,e⟩)))))))))))


theorem zeM {a_s zdU r} (h:zaX a_s zdU=some r):Ctr Tryz.prog 111 [isv a_s,clov 112 [immv (zdU)]] [] (Pt [isv r] []):=by
 unfold zaX at h
 refine zh Tryz.func111 e λw0 S0 hT=>ws (an e (ss (om e (oV (vN e sl126) (om e (rn (zo (lO 8 h e λL2 q1 Q9 h hL2 eL2 rL2=>ws (oV (zac e e) (rn (zE (zd h e (λ_ h=>?_) (λ_ h=>xn (eL2 _ _ (zs (zp (ws (ar e (ze (r1 e) k0 (iS h ▸ ⟨e,e⟩))))))))))))))))))))
 refine wk (zE (zo (ws (om e (an e (ws (om e (om e (om e (zb h λy6 hy6 h=>oV (vX e e sl126 hy6) (oV (za ty132 e) (zb h λy7 hy7 h=>oT (zfG e (.same e .nil) (zmG hy7) hT .nil (λR H' hR=>?_))))))))))))))
 obtain ⟨rfl,rfl⟩:=hR
 refine rn (zd h e (λ_ h=>?_) (λ_ h=>zJ (zw (zp (zi (zt h λq8 h=>oV (zX e e q8) (om e (zF (hL2 h 12)))))))))
 exact ws (om e (ar e (bn (rL2 _ (bn (ze (r1 e) k0 (iS h ▸ ⟨e,e⟩)))))))


theorem ziU {a_x a_n_ r} (h:zdY a_x a_n_=some r):Ctr Tryz.prog 57 [isv a_x,isv a_n_] [] (Pt [isv r] []):=by
 unfold zdY at h
 exact zh Tryz.func57 e λw0 S0 hT=>ws (oT (tB e (oT (tB e (an e (ws (oV (vI e GTyp.f3 zfy a_x.items) (oV (za ty126 e) (oV (zgk (.same e .nil)) (zb h λy1 hy1 h=>oT (tC (zeM hy1) hT (s2 e e) k0 (ar e (ze (r1 e) k0 (iS h ▸ ⟨e,e⟩))))))))))))))


theorem zlD {a_b r} (h:zf9 a_b=some r):Ctr Tryz.prog 156 [isv a_b] [] (Pt [isv r] []):=by
 unfold zf9 at h
 refine zh Tryz.func156 e λw0 S0 hT=>ws (an e (ws (om e (oV (vN e sl22) (oV (zbw e e) (om e (jO 4 10 h (λq1 h=>?_) λJ2 h hJ2=>oI h (λg3 h=>?_) λg3 h=>oN g3 (oN g3 (oN g3 (oV (zf e g3 e) (hJ2 h 4)))))))))))
 ·exact ar e (ze (r1 e) k0 (iS h ▸ ⟨e,e⟩))
 exact oG g3 (zm e) (oG g3 (vN e sl22) (oG g3 (zjA e e) (oV (zg e g3 e) (hJ2 h 4))))


theorem zh4 {a_c a_i a_v zca r} (h:zcK a_c a_i a_v=some r):Ctr Tryz.prog 104 [ptrv zca (Fld.id GChk),isv a_i,isv a_v] [boxE zca (a_c:GChk)] (Pt [isv r.1] [boxE zca (r.2)]):=by
 unfold zcK at h
 refine zh Tryz.func104 e λw0 S0 hT=>ws (oT (tB e (an e (ws (om e (oV (zn e) (oV (zV e GChk.f0 zfx) (oV (zV e GTbd.f0 zfw) (oV (zV e GTab.f3 zcE) (oT (tL ty29 e p0 a_c.tabled.t.types (om e (zb h λy1 hy1 h=>oV (vX e e sl29 hy1) (oV (za ty129 e) (oT (zU _ ze129 λb2=>oT (tS ty129 e e p0 y1 (zO (zaz 7 .here e) (rn (ws (oV (vI e GTyp.f0 zbh y1.kind) (oV (za ty3 e) (oV (zC e e) (an e (ss (oV (vI e GTyp.f6 zhF y1.more) (oV (za ty4 e) (oV (zaA e) (om e (jO 8 35 h (λq3 h=>?_) λJ4 h hJ4=>?_))))))))))))))))))))))))))))))
 ·refine om e (jO 9 45 h (λq9 h=>?_) λJ10 h hJ10=>oI h (λg11 h=>?_) λg11 h=>oG g11 (vI e Val.f3 zaY a_v.l) (oG g11 (za ty23 e) (oG g11 (vN e sl23) (oG g11 (vI e Val.f5 zd4 a_v.more) (oG g11 (za ty24 e) (oG g11 (vN e sl24) (zt h λq12 h=>oG g11 (zX e e q12) (oG g11 (zbw e e) (oV (zf e g11 e) (hJ10 h 9))))))))))
  ·refine rn (zd h e (λ_ h=>?_) (λ_ h=>wk (ss (om e (oV (zn e) (oV (zV e GChk.f1 zva) (oT (tL ty4 e p0 a_c.bare (rn (zd h e (λ_ h=>?_) (λ_ h=>wk (ws (oV (vI e GTyp.f3 zfy y1.items) (oV (za ty126 e) (oV (vN e sl126) (oV (vI e GTyp.f4 zaB y1.fields) (oV (za ty127 e) (oV (vN e sl127) (zt h λq19 h=>oV (zX e e q19) (oV (vI e GTyp.f5 ze4 y1.root) (oV (za ty3 e) (zt h λq20 h=>oV (zdR e e q20) (an e (zE (zo (ws (oV (vI e Val.f4 zdF a_v.rule) (oV (za ty3 e) ?_))))))))))))))))))))))))))))
   ·exact ws (ar e (zx (ze (r1 e) k1 (iS h ▸ ⟨e,e⟩))))
   ·refine ws (oV (vI e Val.f1 zbd a_v.n) (oV (za ty2 e) (oV (zC e e) (om e (jO 5 58 h (λq13 h=>?_) λJ14 h hJ14=>oI h (λg15 h=>?_) λg15 h=>oN g15 (oN g15 (oN g15 (oN g15 (oV (zf e g15 e) (hJ14 h 5))))))))))
    ·refine om e (jO 4 63 h (λq16 h=>?_) λJ17 h hJ17=>oI h (λg18 h=>?_) λg18 h=>oN g18 (oN g18 (oN g18 (oV (zf e g18 e) (hJ17 h 4)))))
     ·exact ar e (zx (ze (r1 e) k1 (iS h ▸ ⟨e,e⟩)))
     exact oG g18 (vI e Val.f4 zdF a_v.rule) (oG g18 (za ty3 e) (oG g18 (zC e e) (oV (zg e g18 e) (hJ17 h 4))))
    exact oG g15 (vI e Val.f2 zbN a_v.b) (oG g15 (za ty22 e) (oG g15 (vN e sl22) (oG g15 (zC e e) (oV (zg e g15 e) (hJ14 h 5)))))
   refine oV (zC e e) (om e (jO 2 80 h (λq21 h=>?_) λJ22 h hJ22=>oI h (λg23 h=>?_) λg23 h=>oN g23 (oV (zf e g23 e) (hJ22 h 2))))
   ·refine an e (zd h e (λ_ h=>?_) (λ_ h=>ws (oV (vI e Val.f4 zdF a_v.rule) (oV (za ty3 e) (oV (zC e e) (an e (zd h e (λ_ h=>?_) (λ_ h=>ws (oV (vI e Val.f4 zdF a_v.rule) (oV (za ty3 e) (oV (zaQ e e) (om e (jO 5 119 h (λq33 h=>?_) λJ34 h hJ34=>oI h (λg35 h=>?_) λg35 h=>oG g35 (vI e Val.f1 zbd a_v.n) (oG g35 (za ty2 e) (oG g35 (zm e) (oG g35 (zac e e) (oV (zf e g35 e) (hJ34 h 5))))))))))))))))))
    ·refine ws (om e (om e (oV (vI e Val.f2 zbN a_v.b) (oV (za ty22 e) (zb h λy24 hy24 h=>oT (tC (zfp hy24) hT (s3 e e e) k1 (om e (oV (zD e e) (oV (zD e e) (oT (zU _ ze206 λb25=>oT (tS ty206 e e p0 y24.1 (zO (zaz 10 .here e) (an e (ws (om e (om e (jO 4 94 h (λq26 h=>?_) λJ27 h hJ27=>oI h (λg28 h=>?_) λg28 h=>oN g28 (oN g28 (oN g28 (oV (zf e g28 e) (hJ27 h 4))))))))))))))))))))))
     ·exact ar e (bn (ze (r1 e) k1 (iS h ▸ ⟨e,e⟩)))
     exact oG g28 (vI e Val.f1 zbd a_v.n) (oG g28 (za ty2 e) (oG g28 (zC e e) (oV (zg e g28 e) (hJ27 h 4))))
    ·refine ws (oV (vI e Val.f2 zbN a_v.b) (oV (za ty22 e) (oV (vN e sl22) (oV (zC e e) (om e (jO 6 109 h (λq29 h=>?_) λJ30 h hJ30=>oI h (λg31 h=>?_) λg31 h=>oN g31 (oN g31 (oN g31 (oN g31 (oN g31 (oV (zf e g31 e) (hJ30 h 6))))))))))))
     ·exact ar e (bn (ze (r1 e) k1 (iS h ▸ ⟨e,e⟩)))
     exact oG g31 (za ty129 e) (oG g31 (vI e Val.f1 zbd a_v.n) (oG g31 (za ty2 e) (zb h λy32 hy32 h=>oH g31 (tC (ziU hy32) hT (s2 e e) k0 (oG g31 (zac e e) (oV (zg e g31 e) (hJ30 h 6)))))))
    ·refine om e (jO 4 124 h (λq36 h=>?_) λJ37 h hJ37=>oI h (λg38 h=>?_) λg38 h=>oG g38 (vI e Val.f1 zbd a_v.n) (oG g38 (za ty2 e) (oG g38 (zcY e e) (oV (zf e g38 e) (hJ37 h 4)))))
     ·refine an e (zd h e (λ_ h=>?_) (λ_ h=>ws (om e (an e (zd h e (λ_ h=>?_) (λ_ h=>zJ (zw (zp (ws (oV (vI e Val.f2 zbN a_v.b) (oV (za ty22 e) (oV (vN e sl22) (oV (zC e e) (ar e (ze (r1 e) k1 (iS h ▸ ⟨e,e⟩))))))))))))))))
      ·exact ws (ar e (bn (ze (r1 e) k1 (iS h ▸ ⟨e,e⟩))))
      exact ws (oV (vI e Val.f2 zbN a_v.b) (oV (za ty22 e) (zb h λy39 hy39 h=>oT (tC (zlD hy39) hT (s1 e) k0 (ar e (bn (ze (r1 e) k1 (iS h ▸ ⟨e,e⟩))))))))
     exact oN g38 (oN g38 (oN g38 (oV (zg e g38 e) (hJ37 h 4))))
    exact oN g35 (oN g35 (oN g35 (oN g35 (oV (zg e g35 e) (hJ34 h 5)))))
   exact oG g23 (zm e) (oV (zg e g23 e) (hJ22 h 2))
  exact oN g11 (oN g11 (oN g11 (oN g11 (oN g11 (oN g11 (oN g11 (oN g11 (oV (zg e g11 e) (hJ10 h 9)))))))))
 refine oI h (λg5 h=>?_) λg5 h=>oG g5 (zm e) (oG g5 (zaA e) (oG g5 (zm e) (jO 4 34 h (λq6 h=>?_) λJ7 h hJ7=>oI h (λg8 h=>?_) λg8 h=>oN g8 (oN g8 (oN g8 (oG g5 (zf e g8 e) (hJ7 h 4)))))))
 ·exact oN g5 (oN g5 (oN g5 (oU (oU (oU (oN g5 (oV (zg e g5 e) (hJ4 h 8))))))))
 ·exact oV (zf e g5 e) (hJ4 h 5)
 exact oG g8 (vI e GTyp.f0 zbh y1.kind) (oG g8 (za ty3 e) (oG g8 (zaQ e e) (oG g5 (zg e g8 e) (hJ7 h 4))))


theorem zc0 {a_v zg6 r} (h:zcn a_v zg6=some r):Ctr Tryz.prog 105 [isv a_v,isv zg6] [] (Pt [isv r] []):=by
 unfold zcn at h
 refine zh Tryz.func105 e λw0 S0 hT=>ws (oT (tB e (an e (ws (om e (zad h λq1 h=>oV (zoO e e q1.1 q1.2) (oV (zaQ e e) (om e (jO 4 12 h (λq2 h=>?_) λJ3 h hJ3=>oI h (λg4 h=>?_) λg4 h=>oG g4 (vI e Val.f1 zbd a_v.n) (oG g4 (za ty2 e) (oG g4 (zC e e) (oV (zf e g4 e) (hJ3 h 4)))))))))))))
 ·refine om e (jO 10 23 h (λq5 h=>?_) λJ6 h hJ6=>oI h (λg7 h=>?_) λg7 h=>oN g7 (oN g7 (oN g7 (oN g7 (oU (oU (oU (oU (oN g7 (oV (zf e g7 e) (hJ6 h 10)))))))))))
  ·refine om e (jO 10 34 h (λq12 h=>?_) λJ13 h hJ13=>oI h (λg14 h=>?_) λg14 h=>oN g14 (oN g14 (oN g14 (oN g14 (oU (oU (oU (oU (oN g14 (oV (zf e g14 e) (hJ13 h 10)))))))))))
   ·refine om e (jO 15 50 h (λq19 h=>?_) λJ20 h hJ20=>oI h (λg21 h=>?_) λg21 h=>oN g21 (oN g21 (oN g21 (oN g21 (oU (oU (oU (oU (oU (oU (oU (oU (oU (oN g21 (oV (zf e g21 e) (hJ20 h 15))))))))))))))))
    ·exact ar e (ze (r1 e) k0 (iS h ▸ ⟨e,e⟩))
    refine oG g21 (zm e) (zad h λq22 h=>oG g21 (zoO e e q22.1 q22.2) (oG g21 (zaQ e e) (oG g21 (zm e) (jO 10 49 h (λq23 h=>?_) λJ24 h hJ24=>oI h (λg25 h=>?_) λg25 h=>oG g25 (vI e Val.f4 zdF a_v.rule) (oG g25 (za ty3 e) (oG g25 (zC e e) (oG g25 (zm e) (jO 5 48 h (λq26 h=>?_) λJ27 h hJ27=>oI h (λg28 h=>?_) λg28 h=>oN g28 (oN g28 (oN g28 (oN g28 (oG g25 (zf e g28 e) (hJ27 h 5)))))))))))))
    ·exact oV (zg e g21 e) (hJ20 h 6)
    ·exact oN g25 (oN g25 (oN g25 (oN g25 (oU (oU (oU (oU (oN g25 (oG g21 (zg e g25 e) (hJ24 h 10))))))))))
    ·exact oG g21 (zf e g25 e) (hJ24 h 6)
    exact oG g28 (vI e Val.f5 zd4 a_v.more) (oG g28 (za ty24 e) (oG g28 (vN e sl24) (oG g28 (zC e e) (oG g25 (zg e g28 e) (hJ27 h 5)))))
   refine oG g14 (zm e) (zad h λq15 h=>oG g14 (zoO e e q15.1 q15.2) (oG g14 (zaQ e e) (oG g14 (zm e) (jO 5 33 h (λq16 h=>?_) λJ17 h hJ17=>oI h (λg18 h=>?_) λg18 h=>oG g18 (vI e Val.f3 zaY a_v.l) (oG g18 (za ty23 e) (oG g18 (vN e sl23) (oG g18 (zC e e) (oG g14 (zf e g18 e) (hJ17 h 5)))))))))
   ·exact oV (zg e g14 e) (hJ13 h 6)
   exact oN g18 (oN g18 (oN g18 (oN g18 (oG g14 (zg e g18 e) (hJ17 h 5)))))
  refine oG g7 (zm e) (zad h λq8 h=>oG g7 (zoO e e q8.1 q8.2) (oG g7 (zaQ e e) (oG g7 (zm e) (jO 5 22 h (λq9 h=>?_) λJ10 h hJ10=>oI h (λg11 h=>?_) λg11 h=>oG g11 (vI e Val.f2 zbN a_v.b) (oG g11 (za ty22 e) (oG g11 (vN e sl22) (oG g11 (zC e e) (oG g7 (zf e g11 e) (hJ10 h 5)))))))))
  ·exact oV (zg e g7 e) (hJ6 h 6)
  exact oN g11 (oN g11 (oN g11 (oN g11 (oG g7 (zg e g11 e) (hJ10 h 5)))))
 exact oN g4 (oN g4 (oN g4 (oV (zg e g4 e) (hJ3 h 4))))


theorem zgH {a_c a_v r} (h:zdE a_c a_v=some r):Ctr Tryz.prog 106 [isv a_c,isv a_v] [] (Pt [isv r] []):=by
 unfold zdE at h
 refine zh Tryz.func106 e λw0 S0 hT=>ws (oT (tB e (an e (ws (oV (vI e GCon.f0 zmK a_c.has) (oV (za ty4 e) (oV (zaA e) (om e (jO 21 29 h (λq1 h=>?_) λJ2 h hJ2=>oI h (λg3 h=>?_) λg3 h=>oG g3 (vI e GCon.f1 zj7 a_c.hasLow) (oG g3 (za ty4 e) (oG g3 (zaA e) (oG g3 (zm e) (jO 5 17 h (λq4 h=>?_) λJ5 h hJ5=>oI h (λg6 h=>?_) λg6 h=>oG g6 (zm e) (oG g6 (vI e GCon.f4 ziI a_c.low) (oG g6 (za ty2 e) (oG g6 (zcY e e) (oG g3 (zf e g6 e) (hJ5 h 5))))))))))))))))))
 ·exact ar e (ze (r1 e) k0 (iS h ▸ ⟨e,e⟩))
 ·exact oN g3 (oN g3 (oN g3 (oN g3 (oU (oU (oU (oU (oN g3 (oN g3 (oU (oU (oU (oU (oU (oU (oU (oU (oU (oN g3 (oV (zg e g3 e) (hJ2 h 21)))))))))))))))))))))
 ·refine oG g3 (zm e) (jO 10 28 h (λq7 h=>?_) λJ8 h hJ8=>oI h (λg9 h=>?_) λg9 h=>oN g9 (oN g9 (oN g9 (oN g9 (oU (oU (oU (oU (oN g9 (oG g3 (zf e g9 e) (hJ8 h 10)))))))))))
  ·exact oV (zf e g3 e) (hJ2 h 8)
  refine oG g9 (vI e GCon.f2 zj9 a_c.hasHigh) (oG g9 (za ty4 e) (oG g9 (zaA e) (oG g9 (zm e) (jO 5 27 h (λq10 h=>?_) λJ11 h hJ11=>oI h (λg12 h=>?_) λg12 h=>oG g12 (zm e) (oG g12 (vI e GCon.f5 zi5 a_c.high) (oG g12 (za ty2 e) (oG g12 (zjA e e) (oG g9 (zf e g12 e) (hJ11 h 5)))))))))
  ·exact oG g3 (zg e g9 e) (hJ8 h 6)
  exact oN g12 (oN g12 (oN g12 (oN g12 (oG g9 (zg e g12 e) (hJ11 h 5)))))
 exact oN g6 (oN g6 (oN g6 (oN g6 (oG g3 (zg e g6 e) (hJ5 h 5)))))


theorem ziH {a_c a_x a_v zca r} (h:zdy a_c a_x a_v=some r):Ctr Tryz.prog 107 [ptrv zca (Fld.id GChk),isv a_x,isv a_v] [boxE zca (a_c:GChk)] (Pt [isv r.1] [boxE zca (r.2)]):=by
 unfold zdy at h
 refine zh Tryz.func107 e λw0 S0 hT=>ws (oT (tB e (oT (tB e (an e (ws (oV (za ty26 e) (zb h λy1 hy1 h=>oT (tC (zc0 hy1) hT (s2 e e) k0 (om e (jO 5 14 h (λq2 h=>?_) λJ3 h hJ3=>oI h (λg4 h=>?_) λg4 h=>oN g4 (oN g4 (oN g4 (oN g4 (oV (zf e g4 e) (hJ3 h 5))))))))))))))))
 ·refine om e (jO 12 27 h (λq5 h=>?_) λJ6 h hJ6=>oI h (λg7 h=>?_) λg7 h=>oN g7 (oN g7 (oN g7 (oN g7 (oU (oU (oU (oU (oU (oU (oN g7 (oV (zf e g7 e) (hJ6 h 12)))))))))))))
  ·refine om e (jO 9 37 h (λq12 h=>?_) λJ13 h hJ13=>oI h (λg14 h=>?_) λg14 h=>oN g14 (oN g14 (oN g14 (oN g14 (oU (oU (oU (oN g14 (oV (zf e g14 e) (hJ13 h 9))))))))))
   ·exact ar e (ze (r1 e) k1 (iS h ▸ ⟨e,e⟩))
   refine oG g14 (vI e GTyp.f0 zbh a_x.kind) (oG g14 (za ty3 e) (oG g14 (zC e e) (oG g14 (zm e) (jO 4 36 h (λq15 h=>?_) λJ16 h hJ16=>oI h (λg17 h=>?_) λg17 h=>oG g17 (vI e Val.f2 zbN a_v.b) (oG g17 (za ty22 e) (zb h λy18 hy18 h=>oH g17 (tC (ziO hy18) hT (s1 e) k0 (oG g14 (zf e g17 e) (hJ16 h 4)))))))))
   ·exact oV (zg e g14 e) (hJ13 h 6)
   exact oN g17 (oN g17 (oN g17 (oG g14 (zg e g17 e) (hJ16 h 4))))
  refine oG g7 (vI e GTyp.f2 zd1 a_x.con) (oG g7 (vI e GCon.f3 zi3 a_x.con.more) (oG g7 (za ty4 e) (oG g7 (zm e) (jO 7 26 h (λq8 h=>?_) λJ9 h hJ9=>oI h (λg10 h=>?_) λg10 h=>oG g10 (vI e GTyp.f2 zd1 a_x.con) (oG g10 (za ty125 e) (oG g10 (vI e Val.f2 zbN a_v.b) (oG g10 (za ty22 e) (oG g10 (vN e sl22) (zb h λy11 hy11 h=>oH g10 (tC (zgH hy11) hT (s2 e e) k0 (oG g7 (zf e g10 e) (hJ9 h 7))))))))))))
  ·exact oV (zg e g7 e) (hJ6 h 6)
  exact oN g10 (oN g10 (oN g10 (oN g10 (oN g10 (oN g10 (oG g7 (zg e g10 e) (hJ9 h 7)))))))
 exact oG g4 (vI e Val.f2 zbN a_v.b) (oG g4 (za ty22 e) (oG g4 (vN e sl22) (oG g4 (zjA e e) (oV (zg e g4 e) (hJ3 h 5)))))


theorem znX {a_t a_i r} (h:zgF a_t a_i=some r):Ctr Tryz.prog 219 [isv a_t,isv a_i] [] (Pt [isv r] []):=by
 unfold zgF at h
 refine zh Tryz.func219 e λw0 S0 hT=>ws (oT (tB e (oT (zU _ ze129 λb1=>rn (ss (om e (oV (zac e e) (om e (jO 6 13 h (λq2 h=>?_) λJ3 h hJ3=>oI h (λg4 h=>?_) λg4 h=>oG g4 (zm e) (oG g4 (vI e GTab.f3 zcE a_t.types) (oG g4 (za ty29 e) (oG g4 (vN e sl29) (oG g4 (zcY e e) (oV (zf e g4 e) (hJ3 h 6)))))))))))))))
 ·refine rn (zd h e (λ_ h=>?_) (λ_ h=>wk (ws (oV (vI e GTab.f3 zcE a_t.types) (oV (za ty29 e) (om e (zb h λy5 hy5 h=>oV (vX e e sl29 hy5) (oV (za ty129 e) (oT (tS ty129 e e p0 y5 (rn (zbz (ze (.cell e .here ty129 .nil) k0 (iS h ▸ ⟨e,e⟩))))))))))))))
  exact ws (oV (zak (z:=(GTyp.mk (0:Int) ([]:(List Tag)) (GCon.mk false false false false (0:Int) (0:Int)) ([]:(List GItem)) ([]:(List GFld)) (0:Int) false (0:Int))) e bu129 ze129 .nil) (oT (tS ty129 e e p0 ⟨0,[],⟨false,false,false,false,0,0⟩,[],[],0,false,0⟩ (rn (zbz (zx (ze (.cell e .here ty129 .nil) k0 (iS h ▸ ⟨e,e⟩))))))))
 exact oN g4 (oN g4 (oN g4 (oN g4 (oN g4 (oV (zg e g4 e) (hJ3 h 6))))))


theorem zm3 {zgS a_to r} (h:zfD zgS a_to=some r):Ctr Tryz.prog 220 [isv zgS,isv a_to] [] (Pt1 (λu1=>[vecv u1 ((r).length)]) λu1=>[vecE u1 r]):=by
 unfold zfD at h
 refine zh Tryz.func220 e λw0 S0 hT=>ws (oa e (zO (ze2 (α:=Int)) (zO (zaS 4 e nilvV) (rn (ws (oa e (zO (ze2 (α:=Int)) (zO (zaS 5 e nilvV) (rn (ss (om e (an e (zo (lP h Vt none (λq3 g3=>[(5,vecv g3 (q3.1.length)),(6,isv q3.2)]) (λq3 g3=>[vecE g3 q3.1]) (zu (j:=5) e (vecvE (by first | rfl | simp)) (zu (j:=6) e hI zal)) k1 λL4 q3 g3 Q13 h hL4 eL4 rL4=>ss (om e (om e (oV (zac e e) (rn (zd h e (λ_ h=>?_) (λ_ h=>xn (eL4 _ _ (zs (zp (ws (om e (ar e (ze (.as e (vecvE (by first | rfl | simp)) .nil) k1 ?_)))))))))))))))))))))))))))
 ·exact wk (zE (zo (zi (om e (om e (oT (zB (l:=([q3.2]:(List Int))) el28 (.cons e hI .nil) e e (zR h λq11 h=>oT (zkk (m:=([q3.2]:(List Int))) zeY e e zz .here (by first | rfl | simp) q11 λv10=>oa e (rb (zp (zi (om e (zt h λq12 h=>oV (zX e e q12) (oa e (zF (hL4 h v10 13)))))))))))))))))
 exact iS h ▸ ⟨g3,e,e⟩


theorem zkP {a_t a_i r} (h:zfi a_t a_i=some r):Ctr Tryz.prog 191 [isv a_t,isv a_i] [] (Pt [isv r] []):=by
 unfold zfi at h
 refine zh Tryz.func191 e λw0 S0 hT=>ws (oT (tB e (oa e (zO (zaW) (zO (ze2 (α:=NL Int)) (zO (zaS 4 e nilvV) (rn (ws (oV (za ty31 e) (om e (zb h λy3 hy3 h=>oT (tC (znX hy3) hT (s2 e e) k0 (oT (zU _ ze129 λb4=>oT (tS ty129 e e p0 y3 (zO (zaz 5 .here e) (rn (ss (oV (vI e GTyp.f0 zbh y3.kind) (oV (za ty3 e) (oV (zaQ e e) (om e (jO 4 21 h (λq5 h=>?_) λJ6 h hJ6=>oI h (λg7 h=>?_) λg7 h=>oN g7 (oN g7 (oN g7 (oV (zf e g7 e) (hJ6 h 4)))))))))))))))))))))))))))
 ·refine om e (jO 4 26 h (λq8 h=>?_) λJ9 h hJ9=>oI h (λg10 h=>?_) λg10 h=>oN g10 (oN g10 (oN g10 (oV (zf e g10 e) (hJ9 h 4)))))
  ·refine rn (zd h e (λ_ h=>?_) (λ_ h=>wk (ws (oa e (zO (zaW) (zO (ze2 (α:=NL Int)) (zO (zaS 6 e nilvV) (rn (ss (oV (vI e GTyp.f5 ze4 y3.root) (oV (za ty3 e) (oV (zvC e e) (oV (vI e GTyp.f4 zaB y3.fields) (oV (za ty127 e) (oV (vN e sl127) (zb h λy15 hy15 h=>oT (tC1 (zm3 hy15) hT (s2 e e) k0 (λv16=>oV (zhg sl28 e) (om e (rn (zo (lP h (Vt × Tok) (none,none) (λq17 g17=>[(6,vecv g17.1 (q17.1.length)),(35,isv q17.2)]) (λq17 g17=>[vecE g17.1 (nestL g17.2 (q17.1:List (List Int))),tokE g17.2]) (zu (j:=6) e (vecvE (by first | rfl | simp)) (zu (j:=35) e hI zal)) (a1 (a1 k0)) λL18 q17 g17 Q79 h hL18 eL18 rL18=>ws (oV (zac e e) (rn (zE (zd h e (λ_ h=>?_) (λ_ h=>xn (eL18 _ _ ?_))))))))))))))))))))))))))))
   ·exact ws (oa e (zO (zaW) (zO (ze2 (α:=NL Int)) (zO (zaS 4 e nilvV) (rn (zbz (zx (zgo (zhe 4 .here e (by first | rfl | simp)) (zgo (zaS 4 e (zj0 (t:=none) (L:=(([]:(List (List Int))):List (List Int))))) (ze (r1 e) k0 (iS h ▸ ⟨e,e⟩)))))))))))
   ·refine wk (zE (jw h (Vt × Tok) (λq49 g49=>[(6,vecv g49.1 (q49.length))]) (λq49 g49=>[vecE g49.1 (nestL g49.2 (q49:List (List Int))),tokE g49.2]) k2 (λq49 g49 h=>?_) λJ50 h hJ50=>zo (ws (zad h λq51 h=>oV (zdi (α:=Int) sl28 e e q51.1 q51.2) (zb h λy52 hy52 h=>oT (zdJ ty3 e (.there (.there .here)) hy52 (an e (ws (om e (oV (zhg sl178 e) (zt h λq53 h=>oV (zdR e e q53) (an e (ss (oV (vI e GTyp.f4 zaB y3.fields) (oV (za ty127 e) (om e (zb h λy54 hy54 h=>oV (vX e e sl127 hy54) (oV (vI e GFld.f5 ziR y54.group) (oV (za ty3 e) (an e (ws (oV (vI e GTyp.f0 zbh y3.kind) (oV (za ty3 e) (oV (zaQ e e) (om e ?_)))))))))))))))))))))))))
    ·exact zi (zt h λq78 h=>oV (zX e e q78) (om e (zF (hL18 h (g49.1,g49.2) 6))))
    refine jO 3 54 h (λq55 h=>?_) λJ56 h hJ56=>oI h (λg57 h=>?_) λg57 h=>oN g57 (oN g57 (oV (zf e g57 e) (hJ56 h 3)))
    ·refine om e (jO 3 58 h (λq58 h=>?_) λJ59 h hJ59=>oI h (λg60 h=>?_) λg60 h=>oN g60 (oN g60 (oV (zf e g60 e) (hJ59 h 3))))
     ·refine om e (jO 10 69 h (λq61 h=>?_) λJ62 h hJ62=>oI h (λg63 h=>?_) λg63 h=>oN g63 (oN g63 (oN g63 (oN g63 (oN g63 (oN g63 (oN g63 (oN g63 (oN g63 (oV (zf e g63 e) (hJ62 h 10)))))))))))
      ·refine rn (zd h e (λ_ h=>?_) (λ_ h=>wk (zi (om e (om e (oT (zB (l:=([y52]:(List Int))) el28 (.cons e hI .nil) e e (zO (zaW) (oT (zB (l:=[NL.mk (([y52]:(List Int))) (some none)]) el178 (.cons e zoL .nil) e e (zR h λq77 h=>oT (zkk (m:=[NL.mk (([y52]:(List Int))) (some none)]) zmc e e zz (.there .here) (by first | rfl | simp) (by rw [zeK];exact q77) λv76=>zO (zpz .here) (zO (zaS (R':=vecv v76 (q17.1 ++ [([y52]:(List Int))]).length) 84 e (vecvE (by simp))) (oa e (rb (hJ50 h (v76,none) 30))))))))))))))))
       exact ws (om e (om e (om e (om e (zad h λq66 h=>oV (zdi (α:=NL Int) sl178 e e q66.1 q66.2) (zad h λq67 h=>zb h λy68 hy68 h=>oT (zdJ ty28 e .here (zhp q67 hy68) (zO (zaS 75 e zth) (om e (oT (zB (l:=([y52]:(List Int))) el28 (.cons e hI .nil) e e (zR h λq71 h=>oT (zbY (l:=y68) (m:=([y52]:(List Int))) zeY e hI e zz (.there .here) q71 λt70=>zad h λq72 h=>oV (zdi (α:=NL Int) sl178 e e q72.1 q72.2) (zad h λq73 h=>zb h λy74 hy74 h=>zO (zaS 78 e zoL) (oT (zgC ty28 e e (.there .here) (zhp q73 hy74) (zO (zqc .here (zl7 q73)) (zO (zaS (R':=vecv g17.1 (q17.1.set ((((q17.1.length:Nat):Int) - (1:Int)).toNat) (y68 ++ ([y52]:(List Int)))).length) 6 e (vecvE (by simp))) (zO (zaS (R':=vecv g17.1 (q17.1.set ((((q17.1.length:Nat):Int) - (1:Int)).toNat) (y68 ++ ([y52]:(List Int)))).length) 39 e (vecvE (by simp))) (zO (zaS (R':=vecv g17.1 (q17.1.set ((((q17.1.length:Nat):Int) - (1:Int)).toNat) (y68 ++ ([y52]:(List Int)))).length) 70 e (vecvE (by simp))) (zO (zaS (R':=vecv g17.1 (q17.1.set ((((q17.1.length:Nat):Int) - (1:Int)).toNat) (y68 ++ ([y52]:(List Int)))).length) 72 e (vecvE (by simp))) (rn (xn (zs (hJ50 h (g17.1,t70) 39)))))))))))))))))))))))))
      exact oG g63 (vI e GTyp.f4 zaB y3.fields) (oG g63 (za ty127 e) (oG g63 (zm e) (zt h λq64 h=>oG g63 (zdR e e q64) (zb h λy65 hy65 h=>oG g63 (vX e e sl127 hy65) (oG g63 (vI e GFld.f5 ziR y65.group) (oG g63 (za ty3 e) (oG g63 (zm e) (oG g63 (zC e e) (oV (zg e g63 e) (hJ62 h 10))))))))))
     exact oG g60 (zm e) (oG g60 (zcY e e) (oV (zg e g60 e) (hJ59 h 3)))
    exact oG g57 (zm e) (oG g57 (zbw e e) (oV (zg e g57 e) (hJ56 h 3)))
   exact zs (zp (ws (om e (ar e (zgo (zhe 4 .here e (by first | rfl | simp)) (zgo (zaS 4 e (zj0 (t:=g17.2) (L:=(q17.1:List (List Int))))) (ze (r1 e) k0 (iS h ▸ ⟨e,e⟩))))))))
  exact oG g10 (vI e GTyp.f0 zbh y3.kind) (oG g10 (za ty3 e) (oG g10 (zaQ e e) (oV (zg e g10 e) (hJ9 h 4))))
 exact oG g7 (vI e GTyp.f0 zbh y3.kind) (oG g7 (za ty3 e) (oG g7 (zaQ e e) (oV (zg e g7 e) (hJ6 h 4))))


theorem zpW {a_a a_b r} (h:zim a_a a_b=some r):Ctr Tryz.prog 192 [isv a_a,isv a_b] [] (Pt [isv r] []):=by
 unfold zim at h
 refine zh Tryz.func192 e λw0 S0 hT=>ws (oT (tB e (oT (tB e (an e (ss (oV (vI e Tag.f0 zfE a_a.cls) (oV (za ty3 e) (oV (vI e Tag.f0 zfE a_b.cls) (oV (za ty3 e) (oV (zaQ e e) (rn (zd h e (λ_ h=>?_) (λ_ h=>wk (ws (oV (vI e Tag.f1 zdz a_a.num) (oV (za ty3 e) (oV (vI e Tag.f1 zdz a_b.num) (oV (za ty3 e) (oV (zac e e) (ar e (ze (r1 e) k0 (iS h ▸ ⟨e,e⟩)))))))))))))))))))))))
 exact ws (oV (vI e Tag.f0 zfE a_a.cls) (oV (za ty3 e) (oV (vI e Tag.f0 zfE a_b.cls) (oV (za ty3 e) (oV (zac e e) (ar e (zx (ze (r1 e) k0 (iS h ▸ ⟨e,e⟩)))))))))

end Go.Proofs.Q


namespace Go.Proofs.Q
open Go.Sy
set_option maxRecDepth 4000
theorem zjW {a_c a_i a_v zca r} (h:zdr a_c a_i a_v=some r):Ctr Tryz.prog 158 [ptrv zca (Fld.id GChk),isv a_i,isv a_v] [boxE zca (a_c:GChk)] (Pt [isv r.1] [boxE zca (r.2)]):=by
 unfold zdr at h
 refine zh Tryz.func158 e λw0 S0 hT=>ws (oT (tB e (an e (ws (om e (oV (zn e) (oV (zV e GChk.f0 zfx) (oV (zV e GTbd.f0 zfw) (oV (zV e GTab.f3 zcE) (oT (tL ty29 e p0 a_c.tabled.t.types (om e (zb h λy1 hy1 h=>oV (vX e e sl29 hy1) (oV (za ty129 e) (oT (zU _ ze129 λb2=>oT (tS ty129 e e p0 y1 (zO (zaz 7 .here e) (rn (ss (oV (vI e Val.f5 zd4 a_v.more) (oV (za ty24 e) (oV (vN e sl24) (oV (zC e e) (rn (zd h e (λ_ h=>?_) (λ_ h=>wk (ss (oV (vI e GTyp.f6 zhF y1.more) (oV (za ty4 e) ?_))))))))))))))))))))))))))))))
 ·exact ws (oV (vI e Val.f4 zdF a_v.rule) (oV (za ty3 e) (oV (zC e e) (ar e (zx (ze (r1 e) k1 (iS h ▸ ⟨e,e⟩)))))))
 refine oV (zaA e) (om e (jO 9 42 h (λq3 h=>?_) λJ4 h hJ4=>oI h (λg5 h=>?_) λg5 h=>oG g5 (vI e Val.f4 zdF a_v.rule) (oG g5 (za ty3 e) (oG g5 (zaQ e e) (oG g5 (zm e) (jO 4 41 h (λq6 h=>?_) λJ7 h hJ7=>oI h (λg8 h=>?_) λg8 h=>oN g8 (oN g8 (oN g8 (oG g5 (zf e g8 e) (hJ7 h 4))))))))))
 ·refine rn (zd h e (λ_ h=>?_) (λ_ h=>wk (ws (om e (oV (zn e) (oV (zV e GChk.f0 zfx) (oV (zV e GTbd.f0 zfw) (oT (tL ty31 e p0 a_c.tabled.t (om e (zb h λy9 hy9 h=>oT (tC (zkP hy9) hT (s2 e e) k0 (oV (vN e sl178) (an e (ws (oT (zU _ ze206 λb10=>rn (ss (oV (vI e Val.f5 zd4 a_v.more) (oV (za ty24 e) (oV (vN e sl24) (om e (rn (zo (lP h Unit () (λq11 g11=>[(8,isv q11.1),(54,isv q11.2.1)]) (λq11 g11=>[boxE b10 (q11.2.2.1:Tag),boxE zca (q11.2.2.2:GChk)]) (zu (j:=8) e hI (zu (j:=54) e hI zal)) k2 λL12 q11 g11 Q69 h hL12 eL12 rL12=>ws (oV (zac e e) (rn (zE (zd h e (λ_ h=>?_) (λ_ h=>?_))))))))))))))))))))))))))))))
  ·exact ws (ar e (zx (ze (r1 e) k1 (iS h ▸ ⟨e,e⟩))))
  ·refine wk (zE (jw h Unit (λq41 g41=>[(8,isv q41.1)]) (λq41 g41=>[boxE b10 (q41.2.1:Tag),boxE zca (q41.2.2:GChk)]) k2 (λq41 g41 h=>?_) λJ42 h hJ42=>zo (ws (om e (zb h λy43 hy43 h=>oV (vX e e sl24 hy43) (oV (za ty92 e) (oT (zU _ ze92 λb44=>oa e (oT (tS ty92 e e p0 y43 (zO (zaz 11 .here e) (rn (ss (oV (vI e Val.f4 zdF a_v.rule) (oV (za ty3 e) (oV (zC e e) (rn (zd h e (λ_ h=>?_) (λ_ h=>wk (ws (om e (om e (oV (vI e Raw.f1 ziV y43.b) (oV (za ty22 e) (zb h λy53 hy53 h=>oT (tC (zfp hy53) hT (s3 e e e) (a1 k0) (om e (oV (zD e e) ?_))))))))))))))))))))))))))))
   ·exact zi (zt h λq68 h=>oV (zX e e q68) (om e (zF (hL12 h () 6))))
   ·refine ss (oV (vI e Raw.f0 zgJ y43.n) (oV (za ty3 e) (om e (oV (zac e e) (om e (jO 4 70 h (λq45 h=>?_) λJ46 h hJ46=>oI h (λg47 h=>?_) λg47 h=>oG g47 (vI e Raw.f0 zgJ y43.n) (oG g47 (za ty3 e) (oG g47 (zcY e e) (oV (zf e g47 e) (hJ46 h 4))))))))))
    ·refine om e (jO 5 76 h (λq48 h=>?_) λJ49 h hJ49=>oI h (λg50 h=>?_) λg50 h=>oG g50 (vI e Raw.f1 ziV y43.b) (oG g50 (za ty22 e) (zb h λy51 hy51 h=>oH g50 (tC (zlD hy51) hT (s1 e) k0 (oG g50 (zaA e) (oV (zf e g50 e) (hJ49 h 5)))))))
     ·refine rn (zd h e (λ_ h=>?_) (λ_ h=>wk (ws (oV (vI e Raw.f0 zgJ y43.n) (oV (za ty3 e) (zt h λq52 h=>oV (zX e e q52) (an e (xn (zs (hJ42 h () 21))))))))))
      exact ws (ar e (zx (zx (bn (rL12 _ (bn (ze (r1 e) (a1 k0) (iS h ▸ ⟨e,e⟩))))))))
     exact oN g50 (oN g50 (oN g50 (oN g50 (oV (zg e g50 e) (hJ49 h 5)))))
    exact oN g47 (oN g47 (oN g47 (oV (zg e g47 e) (hJ46 h 4))))
   refine oV (zD e e) (oT (zU _ ze206 λb54=>oT (tS ty206 e e p0 y53.1 (zO (zaz 12 .here e) (an e (ss (om e (oV (zaA e) (om e (jO 4 94 h (λq55 h=>?_) λJ56 h hJ56=>oI h (λg57 h=>?_) λg57 h=>oG g57 (vI e Raw.f0 zgJ y43.n) (oG g57 (za ty3 e) (oG g57 (zaQ e e) (oV (zf e g57 e) (hJ56 h 4))))))))))))))
   ·refine om e (jO 14 109 h (λq58 h=>?_) λJ59 h hJ59=>oI h (λg60 h=>?_) λg60 h=>oG g60 (vI e GTyp.f0 zbh y1.kind) (oG g60 (za ty3 e) (oG g60 (zC e e) (oG g60 (zm e) (jO 3 102 h (λq61 h=>?_) λJ62 h hJ62=>oI h (λg63 h=>?_) λg63 h=>oN g63 (oN g63 (oG g60 (zf e g63 e) (hJ62 h 3))))))))
    ·refine rn (zd h e (λ_ h=>?_) (λ_ h=>wk (zi (oV (za ty206 e) (oT (tS ty206 e e p1 y53.1 (rb (hJ42 h () 27))))))))
     exact ws (ar e (zx (bn (rL12 _ (bn (ze (r1 e) k1 (iS h ▸ ⟨e,e⟩)))))))
    ·exact oN g60 (oN g60 (oN g60 (oN g60 (oU (oU (oN g60 (oN g60 (oU (oU (oU (oU (oN g60 (oV (zg e g60 e) (hJ59 h 14))))))))))))))
    ·refine oG g60 (zm e) (jO 5 108 h (λq64 h=>?_) λJ65 h hJ65=>oI h (λg66 h=>?_) λg66 h=>oN g66 (oN g66 (oN g66 (oN g66 (oG g60 (zf e g66 e) (hJ65 h 5))))))
     ·exact oV (zf e g60 e) (hJ59 h 8)
     exact oH g66 (tL ty206 e p1 q11.2.2.1 (oG g66 (za ty206 e) (zb h λy67 hy67 h=>oH g66 (tC (zpW hy67) hT (s2 e e) k0 (oG g66 (zaA e) (oG g60 (zg e g66 e) (hJ65 h 5)))))))
    exact oG g63 (zm e) (oG g63 (zbw e e) (oG g60 (zg e g63 e) (hJ62 h 3)))
   exact oN g57 (oN g57 (oN g57 (oV (zg e g57 e) (hJ56 h 4))))
  exact xn (eL12 _ _ (zs (zp (ws (ar e (ze (r1 e) (a1 k0) (iS h ▸ ⟨e,e⟩)))))))
 ·exact oN g5 (oN g5 (oN g5 (oN g5 (oU (oU (oU (oN g5 (oV (zg e g5 e) (hJ4 h 9)))))))))
 ·exact oV (zf e g5 e) (hJ4 h 6)
 exact oG g8 (vI e Val.f4 zdF a_v.rule) (oG g8 (za ty3 e) (oG g8 (zaQ e e) (oG g5 (zg e g8 e) (hJ7 h 4))))


theorem zhq {a_v r} (h:zd5 a_v=some r):Ctr Tryz.prog 61 [isv a_v] [] (Pt [isv r] []):=by
 unfold zd5 at h
 refine zh Tryz.func61 e λw0 S0 hT=>ws (oT (tB e (an e (ws (oV (vI e Val.f0 zcw a_v.kind) (oV (za ty3 e) (oV (zC e e) (om e (jO 3 9 h (λq1 h=>?_) λJ2 h hJ2=>oI h (λg3 h=>?_) λg3 h=>oN g3 (oN g3 (oV (zf e g3 e) (hJ2 h 3))))))))))))
 ·exact ar e (ze (r1 e) k0 (iS h ▸ ⟨e,e⟩))
 exact oG g3 (za ty26 e) (zb h λy4 hy4 h=>oH g3 (tC (zc0 hy4) hT (s2 e e) k0 (oV (zg e g3 e) (hJ2 h 3))))


theorem zkK {a_a a_b r} (h:zhD a_a a_b=some r):Ctr Tryz.prog 170 [isv a_a,isv a_b] [] (Pt [isv r] []):=by
 unfold zhD at h
 exact zh Tryz.func170 e λw0 S0 hT=>ws (an e (ws (om e (oV (zld (l:=a_a) Tryz.underlying22 Tryz.underlying5 Tryz.underlying9 e hI) (om e (oV (zld (l:=a_b) Tryz.underlying22 Tryz.underlying5 Tryz.underlying9 e hI) (oV (zcL eq9 e e) (ar e (ze (r1 e) k0 (iS h ▸ ⟨e,e⟩))))))))))


theorem zmE {a_a a_b r} (h:zeP a_a a_b=some r):Ctr Tryz.prog 173 [isv a_a,isv a_b] [] (Pt [isv r] []):=by
 unfold zeP at h
 refine zh Tryz.func173 e λw0 S0 hT=>ws (oT (tB e (oT (tB e (an e (ws (oV (vI e Raw.f0 zgJ a_a.n) (oV (za ty3 e) (oV (vI e Raw.f0 zgJ a_b.n) (oV (za ty3 e) (oV (zC e e) (om e (jO 6 16 h (λq1 h=>?_) λJ2 h hJ2=>oI h (λg3 h=>?_) λg3 h=>oN g3 (oN g3 (oN g3 (oN g3 (oN g3 (oV (zf e g3 e) (hJ2 h 6)))))))))))))))))))
 ·exact ar e (ze (r1 e) k0 (iS h ▸ ⟨e,e⟩))
 exact oG g3 (vI e Raw.f1 ziV a_a.b) (oG g3 (za ty22 e) (oG g3 (vI e Raw.f1 ziV a_b.b) (oG g3 (za ty22 e) (zb h λy4 hy4 h=>oH g3 (tC (zkK hy4) hT (s2 e e) k0 (oV (zg e g3 e) (hJ2 h 6)))))))


theorem zdj {a_s1 a_s2 r} (h:zaF a_s1 a_s2=some r):Ctr Tryz.prog 172 [isv a_s1,isv a_s2,clov 173 []] [] (Pt [isv r] []):=by
 unfold zaF at h
 refine zh Tryz.func172 e λw0 S0 hT=>ws (an e (ss (om e (oV (vN e sl24) (om e (oV (vN e sl24) (oV (zaQ e e) (rn (zd h e (λ_ h=>?_) (λ_ h=>wk (ss (om e (oV (vN e sl24) (om e (rn (zo (lO 17 h e λL2 q1 Q15 h hL2 eL2 rL2=>ws (oV (zac e e) (rn (zE (zd h e (λ_ h=>?_) (λ_ h=>xn (eL2 _ _ (zs (zp (ws (ar e ?_)))))))))))))))))))))))))))
 ·exact ws (ar e (zx (ze (r1 e) k0 (iS h ▸ ⟨e,e⟩))))
 ·refine wk (zE (zo (ws (om e (zb h λy9 hy9 h=>oV (vX e e sl24 hy9) (oV (za ty92 e) (oT (zU _ ze92 λb10=>oa e (oT (tS ty92 e e p0 y9 (zO (zaz 8 .here e) (rn (ws (om e (om e (zb h λy11 hy11 h=>oV (vX e e sl24 hy11) (oV (za ty92 e) (oT (zU _ ze92 λb12=>oT (tS ty92 e e p0 y11 (zO (zaz 9 .here e) (rn (ws (om e (oV (za ty92 e) (oV (za ty92 e) (zb h λy13 hy13 h=>oT (zfG e (.same e (.same e .nil)) (zmE hy13) hT .nil (λR H' hR=>?_)))))))))))))))))))))))))))))
  obtain ⟨rfl,rfl⟩:=hR
  refine oV (zaA e) (rn (zd h e (λ_ h=>?_) (λ_ h=>zJ (zw (zp (zi (zt h λq14 h=>oV (zX e e q14) (om e (zF (hL2 h 21))))))))))
  exact ws (ar e (bn (rL2 _ (bn (ze (r1 e) k0 (iS h ▸ ⟨e,e⟩))))))
 exact ze (r1 e) k0 (iS h ▸ ⟨e,e⟩)


def zfu (f':Val->Val->Option (Bool)):Prop :=
 ∀ {a_a a_b r},f' a_a a_b=some r->Ctr Tryz.prog 130 [isv a_a,isv a_b] [] (Pt [isv r] [])
def zaq (f':(List Val)->(List Val)->Option (Bool)):Prop :=
 ∀ {a_s1 a_s2 r},f' a_s1 a_s2=some r->Ctr Tryz.prog 171 [isv a_s1,isv a_s2,clov 130 []] [] (Pt [isv r] [])
theorem znV {zdX zK} (zlG:zfu zdX) (zbi:zaq zK):zfu (zft zdX zK):=by
 intro a_a a_b r h
 unfold zft at h
 refine zh Tryz.func130 e λw0 S0 hT=>ws (oT (tB e (oT (tB e (an e (ws (oV (vI e Val.f0 zcw a_a.kind) (oV (za ty3 e) (oV (vI e Val.f0 zcw a_b.kind) (oV (za ty3 e) (oV (zC e e) (om e (jO 6 16 h (λq1 h=>?_) λJ2 h hJ2=>oI h (λg3 h=>?_) λg3 h=>oN g3 (oN g3 (oN g3 (oN g3 (oN g3 (oV (zf e g3 e) (hJ2 h 6)))))))))))))))))))
 ·refine om e (jO 6 23 h (λq4 h=>?_) λJ5 h hJ5=>oI h (λg6 h=>?_) λg6 h=>oN g6 (oN g6 (oN g6 (oN g6 (oN g6 (oV (zf e g6 e) (hJ5 h 6)))))))
  ·refine om e (jO 6 30 h (λq8 h=>?_) λJ9 h hJ9=>oI h (λg10 h=>?_) λg10 h=>oN g10 (oN g10 (oN g10 (oN g10 (oN g10 (oV (zf e g10 e) (hJ9 h 6)))))))
   ·refine om e (jO 6 37 h (λq12 h=>?_) λJ13 h hJ13=>oI h (λg14 h=>?_) λg14 h=>oN g14 (oN g14 (oN g14 (oN g14 (oN g14 (oV (zf e g14 e) (hJ13 h 6)))))))
    ·refine om e (jO 6 44 h (λq15 h=>?_) λJ16 h hJ16=>oI h (λg17 h=>?_) λg17 h=>oN g17 (oN g17 (oN g17 (oN g17 (oN g17 (oV (zf e g17 e) (hJ16 h 6)))))))
     ·exact ar e (ze (r1 e) k0 (iS h ▸ ⟨e,e⟩))
     exact oG g17 (vI e Val.f5 zd4 a_a.more) (oG g17 (za ty24 e) (oG g17 (vI e Val.f5 zd4 a_b.more) (oG g17 (za ty24 e) (zb h λy18 hy18 h=>oH g17 (tC (zdj hy18) hT (s3 e e e) k0 (oV (zg e g17 e) (hJ16 h 6)))))))
    exact oG g14 (vI e Val.f4 zdF a_a.rule) (oG g14 (za ty3 e) (oG g14 (vI e Val.f4 zdF a_b.rule) (oG g14 (za ty3 e) (oG g14 (zC e e) (oV (zg e g14 e) (hJ13 h 6))))))
   exact oG g10 (vI e Val.f3 zaY a_a.l) (oG g10 (za ty23 e) (oG g10 (vI e Val.f3 zaY a_b.l) (oG g10 (za ty23 e) (zb h λy11 hy11 h=>oH g10 (tC (zbi hy11) hT (s3 e e e) k0 (oV (zg e g10 e) (hJ9 h 6)))))))
  exact oG g6 (vI e Val.f2 zbN a_a.b) (oG g6 (za ty22 e) (oG g6 (vI e Val.f2 zbN a_b.b) (oG g6 (za ty22 e) (zb h λy7 hy7 h=>oH g6 (tC (zkK hy7) hT (s2 e e) k0 (oV (zg e g6 e) (hJ5 h 6)))))))
 exact oG g3 (vI e Val.f1 zbd a_a.n) (oG g3 (za ty2 e) (oG g3 (vI e Val.f1 zbd a_b.n) (oG g3 (za ty2 e) (oG g3 (zC e e) (oV (zg e g3 e) (hJ2 h 6))))))

theorem zcD {zdX zK} (zlG:zfu zdX) (zbi:zaq zK):zaq (zag zdX zK):=by
 intro a_s1 a_s2 r h
 unfold zag at h
 refine zh Tryz.func171 e λw0 S0 hT=>ws (an e (ss (om e (oV (vN e sl23) (om e (oV (vN e sl23) (oV (zaQ e e) (rn (zd h e (λ_ h=>?_) (λ_ h=>wk (ss (om e (oV (vN e sl23) (om e (rn (zo (lO 17 h e λL2 q1 Q15 h hL2 eL2 rL2=>ws (oV (zac e e) (rn (zE (zd h e (λ_ h=>?_) (λ_ h=>xn (eL2 _ _ (zs (zp (ws (ar e ?_)))))))))))))))))))))))))))
 ·exact ws (ar e (zx (ze (r1 e) k0 (iS h ▸ ⟨e,e⟩))))
 ·refine wk (zE (zo (ws (om e (zb h λy9 hy9 h=>oV (vX e e sl23 hy9) (oV (za ty26 e) (oT (zU _ ze26 λb10=>oa e (oT (tS ty26 e e p0 y9 (zO (zaz 8 .here e) (rn (ws (om e (om e (zb h λy11 hy11 h=>oV (vX e e sl23 hy11) (oV (za ty26 e) (oT (zU _ ze26 λb12=>oT (tS ty26 e e p0 y11 (zO (zaz 9 .here e) (rn (ws (om e (oV (za ty26 e) (oV (za ty26 e) (zb h λy13 hy13 h=>oT (zfG e (.same e (.same e .nil)) (zlG hy13) hT .nil (λR H' hR=>?_)))))))))))))))))))))))))))))
  obtain ⟨rfl,rfl⟩:=hR
  refine oV (zaA e) (rn (zd h e (λ_ h=>?_) (λ_ h=>zJ (zw (zp (zi (zt h λq14 h=>oV (zX e e q14) (om e (zF (hL2 h 21))))))))))
  exact ws (ar e (bn (rL2 _ (bn (ze (r1 e) k0 (iS h ▸ ⟨e,e⟩))))))
 exact ze (r1 e) k0 (iS h ▸ ⟨e,e⟩)

theorem zid:∀ n,zfu (zf8 n)/\zaq (zaN n)
  | 0=>⟨λh=>(by cases h),λh=>(by cases h)⟩
  | n + 1=>by
    obtain ⟨h0,h1⟩:=zid n
    exact ⟨znV h0 h1,zcD h0 h1⟩
theorem zo0 (n:Nat):zfu (zf8 n):=(zid n).1
theorem zi6 {a_c a_i a_v zca r} (h:zc3 a_c a_i a_v=some r):Ctr Tryz.prog 160 [ptrv zca (Fld.id GChk),isv a_i,isv a_v] [boxE zca (a_c:GChk)] (Pt [isv r.1] [boxE zca (r.2)]):=by
 unfold zc3 at h
 refine zh Tryz.func160 e λw0 S0 hT=>ws (oT (tB e (an e (ws (om e (oV (zn e) (oV (zV e GChk.f0 zfx) (oV (zV e GTbd.f0 zfw) (oV (zV e GTab.f3 zcE) (oT (tL ty29 e p0 a_c.tabled.t.types (om e (zb h λy1 hy1 h=>oV (vX e e sl29 hy1) (oV (za ty129 e) (oT (zU _ ze129 λb2=>oT (tS ty129 e e p0 y1 (zO (zaz 7 .here e) (rn (ss (om e (oV (zn e) (oV (zV e GChk.f0 zfx) (oV (zV e GTbd.f0 zfw) (oT (tL ty31 e p0 a_c.tabled.t (om e (zb h λy3 hy3 h=>oT (tC (zkP hy3) hT (s2 e e) k0 (oV (vN e sl178) (om e ?_)))))))))))))))))))))))))))))))
 refine rn (zo (lO 32 h e λL5 q4 Q90 h hL5 eL5 rL5=>ws (oV (zac e e) (rn (zE (zd h e (λ_ h=>?_) (λ_ h=>xn (eL5 _ _ (zs (zp (ws (ar e (ze (r1 e) k1 (iS h ▸ ⟨e,e⟩))))))))))))))
 refine wk (zE (jw h Unit (λq48 g48=>[]) (λq48 g48=>[]) k0 (λq48 g48 h=>?_) λJ49 h hJ49=>zo (ws (zb h λy50 hy50 h=>oV (vX e e sl178 hy50) (oV (za ty28 e) (an e (zE (zE (zG (.v 0 (.v 1 (.v 2 (.v 3 (.v 4 (.v 5 (.v 6 (.v 7 (.v 8 .nil))))))))) moOrd (by kernel_rfl) (zj e (vI e GTyp.f4 zaB y1.fields) (zj e (za ty127 e) (rm e e (zb h λy51 hy51 h=>zj e (vX e e sl28 hy51) (zj e (za ty3 e) (zb h λy52 hy52 h=>zj e (vX e e sl127 hy52) (zj e (vI e GFld.f5 ziR y52.group) (zj e (za ty3 e) (zj e (zC e e) (zah (zp (zd h e (λ_ h=>?_) (λ_ h=>wk (ws (oa e (an e ?_)))))))))))))))))))))))))
 ·exact zi (zt h λq89 h=>oV (zX e e q89) (om e (zF (hL5 h 4))))
 ·exact xn (zs (hJ49 h () 12))
 refine ss (om e (oV (vN e sl28) (om e (rn (zo (lP h Unit () (λq53 g53=>[(10,isv q53.1),(11,isv q53.2.1),(47,isv q53.2.2)]) (λq53 g53=>[]) (zu (j:=10) e hI (zu (j:=11) e hI (zu (j:=47) e hI zal))) k0 λL54 q53 g53 Q88 h hL54 eL54 rL54=>ws (oV (zac e e) (rn (zE (zd h e (λ_ h=>?_) (λ_ h=>xn (eL54 _ _ (zs (zp (ws (om e (om e (jO 2 89 h (λq85 h=>?_) λJ86 h hJ86=>oI h (λg87 h=>?_) λg87 h=>oN g87 (oV (zf e g87 e) (hJ86 h 2))))))))))))))))))))
 ·refine wk (zE (zo (ws (zb h λy67 hy67 h=>oV (vX e e sl28 hy67) (oV (za ty3 e) (an e (ws (oV (vI e Val.f3 zaY a_v.l) (oV (za ty23 e) (om e (zb h λy68 hy68 h=>oV (vX e e sl23 hy68) (oV (za ty26 e) (zb h λy69 hy69 h=>oT (tC (zhq hy69) hT (s1 e) k0 (oV (zaA e) (an e (ws (om e (om e (jO 2 61 h (λq70 h=>?_) λJ71 h hJ71=>oI h (λg72 h=>?_) λg72 h=>oG g72 (zm e) (oV (zf e g72 e) (hJ71 h 2))))))))))))))))))))))
  ·refine an e (zi (om e (om e (jO 21 84 h (λq73 h=>?_) λJ74 h hJ74=>oI h (λg75 h=>?_) λg75 h=>oG g75 (zm e) (oG g75 (zaA e) (oG g75 (zm e) (jO 8 74 h (λq76 h=>?_) λJ77 h hJ77=>oI h (λg78 h=>?_) λg78 h=>oN g78 (oN g78 (oN g78 (oN g78 (oN g78 (oN g78 (oN g78 (oG g75 (zf e g78 e) (hJ77 h 8)))))))))))))))
   ·exact oa e (rb (zp (zi (zt h λq84 h=>oV (zX e e q84) (om e (zF (hL54 h () 25)))))))
   ·exact oN g75 (oN g75 (oN g75 (oU (oU (oU (oU (oU (oU (oU (oN g75 (oN g75 (oU (oU (oU (oU (oU (oU (oU (oN g75 (oV (zg e g75 e) (hJ74 h 21)))))))))))))))))))))
   ·refine oG g75 (zm e) (jO 8 83 h (λq80 h=>?_) λJ81 h hJ81=>oI h (λg82 h=>?_) λg82 h=>oN g82 (oN g82 (oN g82 (oN g82 (oN g82 (oN g82 (oN g82 (oG g75 (zf e g82 e) (hJ81 h 8)))))))))
    ·exact oV (zf e g75 e) (hJ74 h 7)
    exact oG g82 (vI e GTyp.f4 zaB y1.fields) (oG g82 (za ty127 e) (oG g82 (zm e) (zb h λy83 hy83 h=>oG g82 (vX e e sl127 hy83) (oG g82 (vI e GFld.f3 zgT y83.has) (oG g82 (za ty4 e) (oG g82 (zaA e) (oG g75 (zg e g82 e) (hJ81 h 8))))))))
   exact oG g78 (vI e GTyp.f4 zaB y1.fields) (oG g78 (za ty127 e) (oG g78 (zm e) (zb h λy79 hy79 h=>oG g78 (vX e e sl127 hy79) (oG g78 (vI e GFld.f2 zj6 y79.optional) (oG g78 (za ty4 e) (oG g78 (zaA e) (oG g75 (zg e g78 e) (hJ77 h 8))))))))
  exact oN g72 (oV (zg e g72 e) (hJ71 h 2))
 ·refine rn (zd h e (λ_ h=>?_) (λ_ h=>zJ (zw (hJ49 h () 24))))
  exact ws (ar e (bn (rL5 _ (bn (ze (r1 e) k1 (iS h ▸ ⟨e,e⟩))))))
 exact oG g87 (zm e) (oV (zg e g87 e) (hJ86 h 2))


def za5 (f':Val->GChk->GTyp->Int->Option (Bool × GChk)):Prop :=
 ∀ {a_w_ a_a1 a_a2 a_a3 zep r},f' a_w_ a_a1 a_a2 a_a3=some r->Ctr Tryz.prog 157 [isv a_w_,immv (PtrB.mk zep),immv (a_a2),immv (a_a3)] [boxE zep (a_a1:GChk)] (Pt [isv r.1] [boxE zep (r.2)])
def zbb (f':GChk->Int->Val->Int->Option (Bool × GChk)):Prop :=
 ∀ {a_c a_i a_v zI zca r},f' a_c a_i a_v zI=some r->Ctr Tryz.prog 52 [ptrv zca (Fld.id GChk),isv a_i,isv a_v,isv zI] [boxE zca (a_c:GChk)] (Pt [isv r.1] [boxE zca (r.2)])
def zbu (f':GChk->GTyp->Val->Int->Option (Bool × GChk)):Prop :=
 ∀ {a_c a_x a_v zI zca r},f' a_c a_x a_v zI=some r->Ctr Tryz.prog 108 [ptrv zca (Fld.id GChk),isv a_x,isv a_v,isv zI] [boxE zca (a_c:GChk)] (Pt [isv r.1] [boxE zca (r.2)])
def zaf (f':(List Val)->GChk->GTyp->Int->Option (Bool × GChk)):Prop :=
 ∀ {a_s zdU zeT zjw zdg r},f' a_s zdU zeT zjw=some r->Ctr Tryz.prog 54 [isv a_s,clov 157 [immv (PtrB.mk zdg),immv (zeT),immv (zjw)]] [boxE zdg (zdU:GChk)] (Pt [isv r.1] [boxE zdg (r.2)])
def zaj (f':(List Val)->GChk->GTyp->Int->Option (Int × GChk)):Prop :=
 ∀ {a_s zdU zeT zjw zdg r},f' a_s zdU zeT zjw=some r->Ctr Tryz.prog 110 [isv a_s,clov 157 [immv (PtrB.mk zdg),immv (zeT),immv (zjw)]] [boxE zdg (zdU:GChk)] (Pt [isv r.1] [boxE zdg (r.2)])
def zbc (f':GChk->Int->Val->Int->Option (Bool × GChk)):Prop :=
 ∀ {a_c a_i a_v zI zca r},f' a_c a_i a_v zI=some r->Ctr Tryz.prog 109 [ptrv zca (Fld.id GChk),isv a_i,isv a_v,isv zI] [boxE zca (a_c:GChk)] (Pt [isv r.1] [boxE zca (r.2)])
theorem zhR {zM zS zY zq zr zQ} (zbQ:za5 zM) (zby:zbb zS) (zcg:zbu zY) (zau:zaf zq) (zaC:zaj zr) (zbX:zbc zQ):za5 (zcl zM zS zY zq zr zQ):=by
 intro a_w_ a_a1 a_a2 a_a3 zep r h
 unfold zcl at h
 exact zh Tryz.func157 e λw0 S0 hT=>ws (oT (tB e (an e (ws (oV (zdP (α:=GChk) ty116 e) (oV (vI e GTyp.f7 zlW a_a2.of) (oV (za ty3 e) (oV (za ty26 e) (oV (za ty3 e) (zt h λq1 h=>oV (zX e e q1) (zb h λy2 hy2 h=>oT (tC (zby hy2) hT (s4 e e e e) k1 (oV (zaA e) (ar e (ze (r1 e) k1 (iS h ▸ ⟨e,e⟩))))))))))))))))

theorem zjk {zM zS zY zq zr zQ} (zbQ:za5 zM) (zby:zbb zS) (zcg:zbu zY) (zau:zaf zq) (zaC:zaj zr) (zbX:zbc zQ):zbb (zbT zM zS zY zq zr zQ):=by
 intro a_c a_i a_v zI zca r h
 unfold zbT at h
 refine zh Tryz.func52 e λw0 S0 hT=>ws (oT (tB e (an e (ss (om e (oV (zac e e) (om e (jO 10 22 h (λq1 h=>?_) λJ2 h hJ2=>oI h (λg3 h=>?_) λg3 h=>oG g3 (zm e) (oG g3 (zm e) (oG g3 (zn e) (oG g3 (zV e GChk.f0 zfx) (oG g3 (zV e GTbd.f0 zfw) (oG g3 (zV e GTab.f3 zcE) (oH g3 (tL ty29 e p0 a_c.tabled.t.types (oG g3 (vN e sl29) (oG g3 (zcY e e) (oV (zf e g3 e) (hJ2 h 10)))))))))))))))))))
 ·refine om e (jO 3 26 h (λq4 h=>?_) λJ5 h hJ5=>oI h (λg6 h=>?_) λg6 h=>oG g6 (zm e) (oG g6 (zbw e e) (oV (zf e g6 e) (hJ5 h 3))))
  ·refine rn (zd h e (λ_ h=>?_) (λ_ h=>wk (ws (om e (oV (zn e) (oV (zV e GChk.f0 zfx) (oV (zV e GTbd.f0 zfw) (oV (zV e GTab.f3 zcE) (oT (tL ty29 e p0 a_c.tabled.t.types (om e (zb h λy7 hy7 h=>oV (vX e e sl29 hy7) (oV (za ty129 e) (oT (zU _ ze129 λb8=>oT (tS ty129 e e p0 y7 (zO (zaz 9 .here e) (rn (ss (oV (vI e Val.f0 zcw a_v.kind) (oV (za ty3 e) (oV (zC e e) (rn (zd h e (λ_ h=>?_) (λ_ h=>wk (ss (oV (vI e Val.f0 zcw a_v.kind) (oV (za ty3 e) (oV (vI e GTyp.f0 zbh y7.kind) (oV (za ty3 e) ?_))))))))))))))))))))))))))))))
   ·exact ws (ar e (zx (ze (r1 e) k1 (iS h ▸ ⟨e,e⟩))))
   ·exact ws (om e (om e (oV (za ty26 e) (zb h λy9 hy9 h=>oT (tC (zh4 hy9) hT (s3 e e e) k1 (ar e (zx (ze (r1 e) k1 (iS h ▸ ⟨e,e⟩)))))))))
   refine oV (zaQ e e) (rn (zd h e (λ_ h=>?_) (λ_ h=>wk (ss (oV (vI e GTyp.f0 zbh y7.kind) (oV (za ty3 e) (rn (zo (ws (oV (zC e e) (an e (zd h e (λ_ h=>?_) (λ_ h=>ws (oV (zC e e) (an e (zd h e (λ_ h=>?_) (λ_ h=>ws (oV (zC e e) (an e (zd h e (λ_ h=>?_) (λ_ h=>ws (oV (zC e e) (an e (zd h e (λ_ h=>?_) (λ_ h=>ss (oV (zC e e) (an e (jW 95 h (λq31 h=>?_) λJ32 h hJ32=>zd h e (λ_ h=>?_) (λ_ h=>?_)))))))))))))))))))))))))))))
   ·exact ws (ar e (zx (ze (r1 e) k1 (iS h ▸ ⟨e,e⟩))))
   ·refine ws (oV (za ty26 e) (zb h λy10 hy10 h=>oT (tC (zc0 hy10) hT (s2 e e) k0 (om e (jO 9 63 h (λq11 h=>?_) λJ12 h hJ12=>oI h (λg13 h=>?_) λg13 h=>oN g13 (oN g13 (oN g13 (oN g13 (oU (oU (oU (oN g13 (oV (zf e g13 e) (hJ12 h 9))))))))))))))
    ·exact ar e (bn (ze (r1 e) k1 (iS h ▸ ⟨e,e⟩)))
    refine oG g13 (vI e Val.f1 zbd a_v.n) (oG g13 (za ty2 e) (oG g13 (zC e e) (oG g13 (zm e) (jO 4 62 h (λq14 h=>?_) λJ15 h hJ15=>oI h (λg16 h=>?_) λg16 h=>oG g16 (vI e Val.f1 zbd a_v.n) (oG g16 (za ty2 e) (oG g16 (zC e e) (oG g13 (zf e g16 e) (hJ15 h 4))))))))
    ·exact oV (zg e g13 e) (hJ12 h 6)
    exact oN g16 (oN g16 (oN g16 (oG g13 (zg e g16 e) (hJ15 h 4))))
   ·refine ws (oV (za ty26 e) (zb h λy17 hy17 h=>oT (tC (zc0 hy17) hT (s2 e e) k0 (om e (jO 11 79 h (λq18 h=>?_) λJ19 h hJ19=>oI h (λg20 h=>?_) λg20 h=>oN g20 (oN g20 (oN g20 (oN g20 (oU (oU (oU (oU (oU (oN g20 (oV (zf e g20 e) (hJ19 h 11))))))))))))))))
    ·exact ar e (bn (ze (r1 e) k1 (iS h ▸ ⟨e,e⟩)))
    refine oG g20 (vI e GTyp.f2 zd1 y7.con) (oG g20 (vI e GCon.f3 zi3 y7.con.more) (oG g20 (za ty4 e) (oG g20 (zm e) (jO 6 78 h (λq21 h=>?_) λJ22 h hJ22=>oI h (λg23 h=>?_) λg23 h=>oG g23 (vI e GTyp.f2 zd1 y7.con) (oG g23 (za ty125 e) (oG g23 (vI e Val.f1 zbd a_v.n) (oG g23 (za ty2 e) (zb h λy24 hy24 h=>oH g23 (tC (zgH hy24) hT (s2 e e) k0 (oG g20 (zf e g23 e) (hJ22 h 6)))))))))))
    ·exact oV (zg e g20 e) (hJ19 h 6)
    exact oN g23 (oN g23 (oN g23 (oN g23 (oN g23 (oG g20 (zg e g23 e) (hJ22 h 6))))))
   ·refine ws (oV (za ty26 e) (zb h λy25 hy25 h=>oT (tC (zc0 hy25) hT (s2 e e) k0 (om e (jO 6 90 h (λq26 h=>?_) λJ27 h hJ27=>oI h (λg28 h=>?_) λg28 h=>oN g28 (oN g28 (oN g28 (oN g28 (oN g28 (oV (zf e g28 e) (hJ27 h 6)))))))))))
    ·exact ar e (bn (ze (r1 e) k1 (iS h ▸ ⟨e,e⟩)))
    exact oG g28 (za ty129 e) (oG g28 (vI e Val.f1 zbd a_v.n) (oG g28 (za ty2 e) (zb h λy29 hy29 h=>oH g28 (tC (ziU hy29) hT (s2 e e) k0 (oG g28 (zcY e e) (oV (zg e g28 e) (hJ27 h 6)))))))
   ·exact ws (oV (za ty26 e) (zb h λy30 hy30 h=>oT (tC (zc0 hy30) hT (s2 e e) k0 (ar e (bn (ze (r1 e) k1 (iS h ▸ ⟨e,e⟩)))))))
   ·refine zd h e (λ_ h=>?_) (λ_ h=>ws (oV (zC e e) (an e (zd h e (λ_ h=>?_) (λ_ h=>ws (oV (zC e e) (an e (zd h e (λ_ h=>?_) (λ_ h=>ss (oV (zC e e) (an e (jW 149 h (λq52 h=>?_) λJ53 h hJ53=>zd h e (λ_ h=>?_) (λ_ h=>zi (oV (zC e e) (oa e (zF (hJ53 h 2)))))))))))))))))
    ·exact ws (om e (oV (za ty129 e) (oV (za ty26 e) (zb h λy33 hy33 h=>oT (tC (ziH hy33) hT (s3 e e e) k1 (ar e (bn (ze (r1 e) k1 (iS h ▸ ⟨e,e⟩)))))))))
    ·exact ws (om e (oV (za ty129 e) (oV (za ty26 e) (om e (zb h λy34 hy34 h=>oT (tC (zcg hy34) hT (s4 e e e e) k1 (ar e (bn (ze (r1 e) k1 (iS h ▸ ⟨e,e⟩))))))))))
    ·refine zE (zG (.v 0 (.t 1 (.v 2 (.v 3 (.v 4 (.v 5 (.v 6 (.v 7 (.v 8 (.v 9 (.v 10 (.v 11 (.v 12 (.v 13 (.v 14 (.v 15 (.v 16 (.v 17 (.v 18 (.v 19 (.v 20 (.v 21 (.v 22 (.v 23 (.v 24 (.v 25 (.v 26 (.v 27 (.v 28 (.v 29 (.v 30 (.v 31 (.v 32 (.v 33 (.v 34 (.v 35 (.t 36 (.v 37 (.v 38 .nil))))))))))))))))))))))))))))))))))))))) moOrd (by kernel_rfl) (zj e (za ty26 e) (zb h λy35 hy35 h=>rT e (tC (zc0 hy35) hT (s2 e e) k0 (rm e e (jD 4 117 h (λq36 h=>?_) λJ37 h hJ37=>rJ h (λg38 h=>?_) λg38 h=>rP e g38 (rP e g38 (rP e g38 (zj e (zf e g38 e) (hJ37 h 4))))))))))
     ·refine rm e e (jD 7 125 h (λq39 h=>?_) λJ40 h hJ40=>rJ h (λg41 h=>?_) λg41 h=>rP e g41 (rP e g41 (rP e g41 (rP e g41 (rP e g41 (rP e g41 (zj e (zf e g41 e) (hJ40 h 7))))))))
      ·refine rm e e (jD 5 131 h (λq42 h=>?_) λJ43 h hJ43=>rJ h (λg44 h=>?_) λg44 h=>rP e g44 (rP e g44 (rP e g44 (rP e g44 (zj e (zf e g44 e) (hJ43 h 5))))))
       ·refine rm e e (jd 16 h Unit (λq45 g45=>[(148,isv q45.1)]) (λq45 g45=>[boxE zca (q45.2:GChk)]) k1 (λq45 g45 h=>?_) λJ46 h hJ46=>rJ h (λg47 h=>?_) λg47 h=>rP e g47 (rP e g47 (rP e g47 (rP e g47 (rP e g47 (rP e g47 (rP e g47 (rP e g47 (rP e g47 (rP e g47 (rP e g47 (rP e g47 (rP e g47 (rP e g47 (zet e e (dj:=132) e g47 (zj e (zf e g47 e) (hJ46 h () 16)))))))))))))))))
        ·exact zj e (zar e) (zah (zp (zbz (bn (ze (r1 e) k1 (iS h ▸ ⟨e,e⟩))))))
        exact rG e g47 (zm e) (rG e g47 (vI e GTyp.f4 zaB y7.fields) (rG e g47 (za ty127 e) (rG e g47 (vI e Val.f1 zbd a_v.n) (rG e g47 (za ty2 e) (zb h λy48 hy48 h=>rG e g47 (vX e e sl127 hy48) (rG e g47 (vI e GFld.f1 zcr y48.ty) (rG e g47 (za ty3 e) (rG e g47 (vI e Val.f3 zaY a_v.l) (rG e g47 (za ty23 e) (zb h λy49 hy49 h=>rG e g47 (vX e e sl23 hy49) (rG e g47 (za ty26 e) (rG e g47 (zm e) (zt h λq50 h=>rG e g47 (zX e e q50) (zb h λy51 hy51 h=>rH e g47 (tC (zby hy51) hT (s4 e e e e) k1 (zj e (zg e g47 e) (hJ46 h () 16)))))))))))))))))
       exact rG e g44 (vI e Val.f3 zaY a_v.l) (rG e g44 (za ty23 e) (rG e g44 (vN e sl23) (rG e g44 (zC e e) (zj e (zg e g44 e) (hJ43 h 5)))))
      exact rG e g41 (vI e Val.f1 zbd a_v.n) (rG e g41 (za ty2 e) (rG e g41 (vI e GTyp.f4 zaB y7.fields) (rG e g41 (za ty127 e) (rG e g41 (vN e sl127) (rG e g41 (zac e e) (zj e (zg e g41 e) (hJ40 h 7)))))))
     exact rG e g38 (vI e Val.f1 zbd a_v.n) (rG e g38 (za ty2 e) (rG e g38 (zcY e e) (zj e (zg e g38 e) (hJ37 h 4))))
    ·refine zd h e (λ_ h=>?_) (λ_ h=>zJ (zw (zp (ws (ar e (ze (r1 e) k1 (iS h ▸ ⟨e,e⟩)))))))
     exact ws (om e (om e (oV (za ty26 e) (om e (zb h λy54 hy54 h=>oT (tC (zbX hy54) hT (s4 e e e e) k1 (ar e (bn (ze (r1 e) k1 (iS h ▸ ⟨e,e⟩))))))))))
    exact zJ (hJ53 h 0)
   ·exact zJ (hJ32 h 0)
   exact zi (oV (zC e e) (oa e (zF (hJ32 h 2))))
  exact oN g6 (oN g6 (oV (zg e g6 e) (hJ5 h 3)))
 exact oN g3 (oN g3 (oN g3 (oN g3 (oN g3 (oN g3 (oN g3 (oN g3 (oN g3 (oV (zg e g3 e) (hJ2 h 10))))))))))

theorem zjj {zM zS zY zq zr zQ} (zbQ:za5 zM) (zby:zbb zS) (zcg:zbu zY) (zau:zaf zq) (zaC:zaj zr) (zbX:zbc zQ):zbu (zc8 zM zS zY zq zr zQ):=by
 intro a_c a_x a_v zI zca r h
 unfold zc8 at h
 refine zh Tryz.func108 e λw0 S0 hT=>ws (oT (zmV (y:=PtrB.mk zca) e zpt (oT (tB e (oT (tB e (oT (tB e (an e (ws (oV (za ty26 e) (zb h λy1 hy1 h=>oT (tC (zc0 hy1) hT (s2 e e) k0 (om e (jO 12 23 h (λq2 h=>?_) λJ3 h hJ3=>oI h (λg4 h=>?_) λg4 h=>oN g4 (oN g4 (oN g4 (oN g4 (oU (oU (oU (oU (oU (oU (oN g4 (oV (zf e g4 e) (hJ3 h 12)))))))))))))))))))))))))))
 ·refine om e (jo 6 h Unit (λq9 g9=>[(30,isv q9.1)]) (λq9 g9=>[boxE zca (q9.2:GChk)]) k1 (λq9 g9 h=>?_) λJ10 h hJ10=>oI h (λg11 h=>?_) λg11 h=>oN g11 (oN g11 (oN g11 (oN g11 (oN g11 (oV (zf e g11 e) (hJ10 h () 6)))))))
  ·exact ar e (ze (r1 e) k1 (iS h ▸ ⟨e,e⟩))
  exact oG g11 (vI e Val.f3 zaY a_v.l) (oG g11 (za ty23 e) (oG g11 (zgk (.same e (.same e (.same e .nil)))) (zb h λy12 hy12 h=>oH g11 (tC (zau hy12) hT (s2 e e) k1 (oG g11 (zaA e) (oV (zg e g11 e) (hJ10 h () 6)))))))
 refine oG g4 (vI e GTyp.f2 zd1 a_x.con) (oG g4 (vI e GCon.f3 zi3 a_x.con.more) (oG g4 (za ty4 e) (oG g4 (zm e) (jO 7 22 h (λq5 h=>?_) λJ6 h hJ6=>oI h (λg7 h=>?_) λg7 h=>oG g7 (vI e GTyp.f2 zd1 a_x.con) (oG g7 (za ty125 e) (oG g7 (vI e Val.f3 zaY a_v.l) (oG g7 (za ty23 e) (oG g7 (vN e sl23) (zb h λy8 hy8 h=>oH g7 (tC (zgH hy8) hT (s2 e e) k0 (oG g4 (zf e g7 e) (hJ6 h 7))))))))))))
 ·exact oV (zg e g4 e) (hJ3 h 6)
 exact oN g7 (oN g7 (oN g7 (oN g7 (oN g7 (oN g7 (oG g4 (zg e g7 e) (hJ6 h 7)))))))

theorem zdT {zM zS zY zq zr zQ} (zbQ:za5 zM) (zby:zbb zS) (zcg:zbu zY) (zau:zaf zq) (zaC:zaj zr) (zbX:zbc zQ):zaf (zaG zM zS zY zq zr zQ):=by
 intro a_s zdU zeT zjw zdg r h
 unfold zaG at h
 exact zh Tryz.func54 e λw0 S0 hT=>ws (an e (ws (om e (om e (zb h λy1 hy1 h=>oT (tC (zaC hy1) hT (s2 e e) k1 (oV (zcY e e) (ar e (ze (r1 e) k1 (iS h ▸ ⟨e,e⟩))))))))))

theorem zef {zM zS zY zq zr zQ} (zbQ:za5 zM) (zby:zbb zS) (zcg:zbu zY) (zau:zaf zq) (zaC:zaj zr) (zbX:zbc zQ):zaj (zaP zM zS zY zq zr zQ):=by
 intro a_s zdU zeT zjw zdg r h
 unfold zaP at h
 refine zh Tryz.func110 e λw0 S0 hT=>ws (an e (ss (om e (oV (vN e sl23) (om e (rn (zo (lP h Unit () (λq1 g1=>[(8,isv q1.1)]) (λq1 g1=>[boxE zdg (q1.2:GChk)]) (zu (j:=8) e hI zal) k1 λL2 q1 g1 Q9 h hL2 eL2 rL2=>ws (oV (zac e e) (rn (zE (zd h e (λ_ h=>?_) (λ_ h=>xn (eL2 _ _ (zs (zp (ws (ar e (ze (r1 e) k1 (iS h ▸ ⟨e,e⟩))))))))))))))))))))
 refine wk (zE (zo (ws (om e (an e (ws (om e (om e (om e (zb h λy6 hy6 h=>oV (vX e e sl23 hy6) (oV (za ty26 e) (zb h λy7 hy7 h=>oT (zfG e (.same e .nil) (zbQ hy7) hT (.cons .here .nil) (λR H' hR=>?_))))))))))))))
 obtain ⟨rfl,rfl⟩:=hR
 refine rn (zd h e (λ_ h=>?_) (λ_ h=>zJ (zw (zp (zi (zt h λq8 h=>oV (zX e e q8) (om e (zF (hL2 h () 12)))))))))
 exact ws (om e (ar e (bn (rL2 _ (bn (ze (r1 e) k1 (iS h ▸ ⟨e,e⟩)))))))

theorem zib {zM zS zY zq zr zQ} (zbQ:za5 zM) (zby:zbb zS) (zcg:zbu zY) (zau:zaf zq) (zaC:zaj zr) (zbX:zbc zQ):zbc (zcu zM zS zY zq zr zQ):=by
 intro a_c a_i a_v zI zca r h
 unfold zcu at h
 refine zh Tryz.func109 e λw0 S0 hT=>ws (oT (tB e (an e (ws (om e (oV (zn e) (oV (zV e GChk.f0 zfx) (oV (zV e GTbd.f0 zfw) (oV (zV e GTab.f3 zcE) (oT (tL ty29 e p0 a_c.tabled.t.types (om e (zb h λy1 hy1 h=>oV (vX e e sl29 hy1) (oV (za ty129 e) (oT (zU _ ze129 λb2=>oT (tS ty129 e e p0 y1 (zO (zaz 9 .here e) (rn (ss (oV (za ty26 e) (zb h λy3 hy3 h=>oT (tC (zc0 hy3) hT (s2 e e) k0 (oV (zaA e) (om e (jO 8 33 h (λq4 h=>?_) λJ5 h hJ5=>oI h (λg6 h=>?_) λg6 h=>oG g6 (vI e Val.f3 zaY a_v.l) (oG g6 (za ty23 e) (oG g6 (vN e sl23) ?_))))))))))))))))))))))))))))
 ·refine om e (jo 6 h Unit (λq7 g7=>[(40,isv q7.1)]) (λq7 g7=>[boxE zca (q7.2:GChk)]) k1 (λq7 g7 h=>?_) λJ8 h hJ8=>oI h (λg9 h=>?_) λg9 h=>oG g9 (zm e) (oG g9 (zm e) (oG g9 (za ty26 e) (zb h λy10 hy10 h=>oH g9 (tC (zjW hy10) hT (s3 e e e) k1 (oG g9 (zaA e) (oV (zf e g9 e) (hJ8 h () 6))))))))
  ·refine rn (zd h e (λ_ h=>?_) (λ_ h=>wk (ss (oV (vI e GTyp.f4 zaB y1.fields) (oV (za ty127 e) (oV (vN e sl127) (om e (rn (zo (lP h Unit () (λq11 g11=>[(44,isv q11.1)]) (λq11 g11=>[boxE zca (q11.2:GChk)]) (zu (j:=44) e hI zal) k1 λL12 q11 g11 Q57 h hL12 eL12 rL12=>ws (oV (zac e e) (rn (zE (zd h e (λ_ h=>?_) (λ_ h=>xn (eL12 _ _ (zs (zp (ws (om e (om e (oV (za ty26 e) (zb h λy56 hy56 h=>oT (tC (zi6 hy56) hT (s3 e e e) k1 (ar e (ze (r1 e) k1 (iS h ▸ ⟨e,e⟩)))))))))))))))))))))))))))
   ·exact ws (ar e (zx (ze (r1 e) k1 (iS h ▸ ⟨e,e⟩))))
   refine wk (zE (jw h Unit (λq35 g35=>[]) (λq35 g35=>[boxE zca (q35:GChk)]) k1 (λq35 g35 h=>?_) λJ36 h hJ36=>zo (ws (om e (zb h λy37 hy37 h=>oV (vX e e sl127 hy37) (oV (za ty137 e) (oT (zU _ ze137 λb38=>oa e (oT (tS ty137 e e p0 y37 (zO (zaz 11 .here e) (rn (ws (oV (vI e Val.f3 zaY a_v.l) (oV (za ty23 e) (om e (zb h λy39 hy39 h=>oV (vX e e sl23 hy39) (oV (za ty26 e) (oT (zU _ ze26 λb40=>oT (tS ty26 e e p0 y39 (zO (zaz 12 .here e) (rn (zo (ws (oV (vI e Val.f0 zcw y39.kind) (oV (za ty3 e) (oV (zC e e) ?_))))))))))))))))))))))))))))
   ·exact zi (zt h λq55 h=>oV (zX e e q55) (om e (zF (hL12 h () 4))))
   refine an e (zd h e (λ_ h=>?_) (λ_ h=>ws (om e (oV (vI e GFld.f1 zcr y37.ty) (oV (za ty3 e) (oV (za ty26 e) (om e (zt h λq46 h=>oV (zX e e q46) (zb h λy47 hy47 h=>oT (tC (zby hy47) hT (s4 e e e e) k1 (oV (zaA e) (om e (jO 9 85 h (λq48 h=>?_) λJ49 h hJ49=>oI h (λg50 h=>?_) λg50 h=>oG g50 (vI e GFld.f3 zgT y37.has) (oG g50 (za ty4 e) (oG g50 (zm e) (jO 5 84 h (λq51 h=>?_) λJ52 h hJ52=>oI h (λg53 h=>?_) λg53 h=>oN g53 (oN g53 (oN g53 (oN g53 (oG g50 (zf e g53 e) (hJ52 h 5)))))))))))))))))))))
   ·refine ws (oV (za ty26 e) (zb h λy41 hy41 h=>oT (tC (zhq hy41) hT (s1 e) k0 (oV (zaA e) (om e (jO 5 66 h (λq42 h=>?_) λJ43 h hJ43=>oI h (λg44 h=>?_) λg44 h=>oG g44 (za ty129 e) (oG g44 (zm e) (zb h λy45 hy45 h=>oH g44 (tC (zkL hy45) hT (s2 e e) k0 (oG g44 (zaA e) (oV (zf e g44 e) (hJ43 h 5))))))))))))
    ·refine rn (zd h e (λ_ h=>?_) (λ_ h=>zJ (zw (zw (hJ36 h () 22)))))
     exact ws (ar e (zbP (bn (rL12 _ (bn (ze (r1 e) k1 (iS h ▸ ⟨e,e⟩)))))))
    exact oN g44 (oN g44 (oN g44 (oN g44 (oV (zg e g44 e) (hJ43 h 5)))))
   ·refine an e (zd h e (λ_ h=>?_) (λ_ h=>zJ (zw (zw (hJ36 h () 28)))))
    exact ws (ar e (zbP (bn (rL12 _ (bn (ze (r1 e) k1 (iS h ▸ ⟨e,e⟩)))))))
   ·exact oN g50 (oN g50 (oN g50 (oU (oU (oU (oU (oN g50 (oV (zg e g50 e) (hJ49 h 9)))))))))
   ·exact oV (zf e g50 e) (hJ49 h 5)
   exact oG g53 (za ty26 e) (oG g53 (vI e GFld.f4 zly y37.dflt) (oG g53 (za ty26 e) (zb h λy54 hy54 h=>oH g53 (tC (zo0 fuel hy54) hT (s2 e e) k0 (oG g50 (zg e g53 e) (hJ52 h 5))))))
  exact oN g9 (oN g9 (oN g9 (oN g9 (oN g9 (oV (zg e g9 e) (hJ8 h () 6))))))
 ·exact oN g6 (oN g6 (oN g6 (oN g6 (oN g6 (oN g6 (oN g6 (oV (zg e g6 e) (hJ5 h 8))))))))
 exact oG g6 (vI e GTyp.f4 zaB y1.fields) (oG g6 (za ty127 e) (oG g6 (vN e sl127) (oG g6 (zaQ e e) (oV (zf e g6 e) (hJ5 h 8)))))

theorem zei:∀ n,za5 (zbl n)/\zbb (za3 n)/\zbu (zbW n)/\zaf (zai n)/\zaj (zam n)/\zbc (zbx n)
  | 0=>⟨λh=>(by cases h),λh=>(by cases h),λh=>(by cases h),λh=>(by cases h),λh=>(by cases h),λh=>(by cases h)⟩
  | n + 1=>by
    obtain ⟨h0,h1,h2,h3,h4,h5⟩:=zei n
    exact ⟨zhR h0 h1 h2 h3 h4 h5,zjk h0 h1 h2 h3 h4 h5,zjj h0 h1 h2 h3 h4 h5,zdT h0 h1 h2 h3 h4 h5,zef h0 h1 h2 h3 h4 h5,zib h0 h1 h2 h3 h4 h5⟩
theorem zjq (n:Nat):zbb (za3 n):=(zei n).2.1
def zgr (f':Val->Option (Int)):Prop :=
 ∀ {a_v r},f' a_v=some r->Ctr Tryz.prog 53 [isv a_v] [] (Pt [isv r] [])
theorem znA {zgN} (zn1:zgr zgN):zgr (zeS zgN):=by
 intro a_v r h
 unfold zeS at h
 refine zh Tryz.func53 e λw0 S0 hT=>ws (oT (tB e (an e (ws (an e (ss (oV (vI e Val.f3 zaY a_v.l) (oV (za ty23 e) (oV (vN e sl23) (om e (rn (zo (lP h Unit () (λq1 g1=>[(3,isv q1.1),(9,isv q1.2)]) (λq1 g1=>[]) (zu (j:=3) e hI (zu (j:=9) e hI zal)) k0 λL2 q1 g1 Q13 h hL2 eL2 rL2=>ws (oV (zac e e) (rn (zE (zd h e (λ_ h=>?_) (λ_ h=>xn (eL2 _ _ (zs (zp (ws (om e (ar e (ze (r1 e) k0 (iS h ▸ ⟨e,e⟩))))))))))))))))))))))))))
 exact wk (zE (zo (ws (zb h λy8 hy8 h=>oV (vX e e sl23 hy8) (oV (za ty26 e) (oT (zU _ ze26 λb9=>oT (tS ty26 e e p0 y8 (zO (zaz 5 .here e) (rn (zi (om e (oV (za ty26 e) (zb h λy10 hy10 h=>oT (tC (zn1 hy10) hT (s1 e) k0 (zt h λq11 h=>oV (zX e e q11) (oa e (rb (zp (zi (zt h λq12 h=>oV (zX e e q12) (om e (zF (hL2 h () 14))))))))))))))))))))))))

theorem zhK:∀ n,zgr (zgB n)
  | 0=>λh=>(by cases h)
  | n + 1=>znA (zhK n)
theorem zn4 (n:Nat):zgr (zgB n):=(zhK n)

theorem zo4 {a_t a_i a_v r} (h:zhu a_t a_i a_v=some r):Ctr Tryz.prog 25 [isv a_t,isv a_i,isv a_v] [] (Pt [isv r] []):=by
 unfold zhu at h
 refine zh Tryz.func25 e λw0 S0 hT=>ws (oT (tB e (oT (tB e (an e (ws (oV (za ty31 e) (oV (zak (z:=(GTbd.mk a_t)) e bu118 ze118 (.cons GTbd.f0 zfw e hI .nil)) (oV (zak (z:=(GChk.mk (GTbd.mk a_t) false)) e bu120 ze120 (.cons GChk.f0 zfx e hI .nil)) (oT (zma (y:=(GChk.mk (GTbd.mk a_t) false)) e hI λb1=>an e (ws (om e (om e (oV (za ty26 e) (zb h λy2 hy2 h=>oT (tC (zjq fuel hy2) hT (s4 e e e e) k1 (om e (jO 4 20 h (λq3 h=>?_) λJ4 h hJ4=>oI h (λg5 h=>?_) λg5 h=>oN g5 (oN g5 (oN g5 (oV (zf e g5 e) (hJ4 h 4)))))))))))))))))))))))
 ·exact ar e (ze (r1 e) k0 (iS h ▸ ⟨e,e⟩))
 exact oG g5 (za ty26 e) (zb h λy6 hy6 h=>oH g5 (tC (zn4 fuel hy6) hT (s1 e) k0 (oG g5 (zjA e e) (oV (zg e g5 e) (hJ4 h 4)))))


def zdw (f':Val->Option (Bool)):Prop :=
 ∀ {a_w_ r},f' a_w_=some r->Ctr Tryz.prog 55 [isv a_w_] [] (Pt [isv r] [])
def zd7 (f':Val->Option (Bool)):Prop :=
 ∀ {a_v r},f' a_v=some r->Ctr Tryz.prog 26 [isv a_v] [] (Pt [isv r] [])
def zap (f':(List Val)->Option (Bool)):Prop :=
 ∀ {a_s r},f' a_s=some r->Ctr Tryz.prog 54 [isv a_s,clov 55 []] [] (Pt [isv r] [])
def zax (f':(List Val)->Option (Int)):Prop :=
 ∀ {a_s r},f' a_s=some r->Ctr Tryz.prog 110 [isv a_s,clov 55 []] [] (Pt [isv r] [])
theorem zl8 {zaU zbG zy zA} (ze0:zdw zaU) (zgQ:zd7 zbG) (zaR:zap zy) (za0:zax zA):zdw (zec zaU zbG zy zA):=by
 intro a_w_ r h
 unfold zec at h
 exact zh Tryz.func55 e λw0 S0 hT=>ws (oT (tB e (an e (ws (oV (za ty26 e) (zb h λy1 hy1 h=>oT (tC (zgQ hy1) hT (s1 e) k0 (oV (zaA e) (ar e (ze (r1 e) k0 (iS h ▸ ⟨e,e⟩)))))))))))

theorem znY {zaU zbG zy zA} (ze0:zdw zaU) (zgQ:zd7 zbG) (zaR:zap zy) (za0:zax zA):zd7 (zfW zaU zbG zy zA):=by
 intro a_v r h
 unfold zfW at h
 refine zh Tryz.func26 e λw0 S0 hT=>ws (oT (tB e (an e (ws (oV (vI e Val.f0 zcw a_v.kind) (oV (za ty3 e) (oV (zaQ e e) (om e (jO 5 11 h (λq1 h=>?_) λJ2 h hJ2=>oI h (λg3 h=>?_) λg3 h=>oN g3 (oN g3 (oN g3 (oN g3 (oV (zf e g3 e) (hJ2 h 5))))))))))))))
 ·refine om e (jO 5 17 h (λq4 h=>?_) λJ5 h hJ5=>oI h (λg6 h=>?_) λg6 h=>oN g6 (oN g6 (oN g6 (oN g6 (oV (zf e g6 e) (hJ5 h 5))))))
  ·exact ar e (ze (r1 e) k0 (iS h ▸ ⟨e,e⟩))
  exact oG g6 (vI e Val.f3 zaY a_v.l) (oG g6 (za ty23 e) (zb h λy7 hy7 h=>oH g6 (tC (zaR hy7) hT (s2 e e) k0 (oG g6 (zaA e) (oV (zg e g6 e) (hJ5 h 5))))))
 exact oG g3 (vI e Val.f5 zd4 a_v.more) (oG g3 (za ty24 e) (oG g3 (vN e sl24) (oG g3 (zC e e) (oV (zg e g3 e) (hJ2 h 5)))))

theorem zdH {zaU zbG zy zA} (ze0:zdw zaU) (zgQ:zd7 zbG) (zaR:zap zy) (za0:zax zA):zap (zaE zaU zbG zy zA):=by
 intro a_s r h
 unfold zaE at h
 exact zh Tryz.func54 e λw0 S0 hT=>ws (an e (ws (om e (om e (zb h λy1 hy1 h=>oT (tC (za0 hy1) hT (s2 e e) k0 (oV (zcY e e) (ar e (ze (r1 e) k0 (iS h ▸ ⟨e,e⟩))))))))))

theorem zd6 {zaU zbG zy zA} (ze0:zdw zaU) (zgQ:zd7 zbG) (zaR:zap zy) (za0:zax zA):zax (zaJ zaU zbG zy zA):=by
 intro a_s r h
 unfold zaJ at h
 refine zh Tryz.func110 e λw0 S0 hT=>ws (an e (ss (om e (oV (vN e sl23) (om e (rn (zo (lO 8 h e λL2 q1 Q9 h hL2 eL2 rL2=>ws (oV (zac e e) (rn (zE (zd h e (λ_ h=>?_) (λ_ h=>xn (eL2 _ _ (zs (zp (ws (ar e (ze (r1 e) k0 (iS h ▸ ⟨e,e⟩))))))))))))))))))))
 refine wk (zE (zo (ws (om e (an e (ws (om e (om e (om e (zb h λy6 hy6 h=>oV (vX e e sl23 hy6) (oV (za ty26 e) (zb h λy7 hy7 h=>oT (zfG e (.same e .nil) (ze0 hy7) hT .nil (λR H' hR=>?_))))))))))))))
 obtain ⟨rfl,rfl⟩:=hR
 refine rn (zd h e (λ_ h=>?_) (λ_ h=>zJ (zw (zp (zi (zt h λq8 h=>oV (zX e e q8) (om e (zF (hL2 h 12)))))))))
 exact ws (om e (ar e (bn (rL2 _ (bn (ze (r1 e) k0 (iS h ▸ ⟨e,e⟩)))))))

theorem zgL:∀ n,zdw (zeR n)/\zd7 (zes n)/\zap (zav n)/\zax (zaO n)
  | 0=>⟨λh=>(by cases h),λh=>(by cases h),λh=>(by cases h),λh=>(by cases h)⟩
  | n + 1=>by
    obtain ⟨h0,h1,h2,h3⟩:=zgL n
    exact ⟨zl8 h0 h1 h2 h3,znY h0 h1 h2 h3,zdH h0 h1 h2 h3,zd6 h0 h1 h2 h3⟩
theorem zpr (n:Nat):zd7 (zes n):=(zgL n).2.1
def ziQ (f':Val->Option (Bool)):Prop :=
 ∀ {a_v r},f' a_v=some r->Ctr Tryz.prog 19 [isv a_v] [] (Pt [isv r] [])
theorem zql {zj8} (zru:ziQ zj8):ziQ (zhv zj8):=by
 intro a_v r h
 unfold zhv at h
 refine zh Tryz.func19 e λw0 S0 hT=>ws (oT (tB e (an e (ss (oV (vI e Val.f0 zcw a_v.kind) (oV (za ty3 e) (oV (zC e e) (om e (jO 5 12 h (λq1 h=>?_) λJ2 h hJ2=>oI h (λg3 h=>?_) λg3 h=>oG g3 (vI e Val.f5 zd4 a_v.more) (oG g3 (za ty24 e) (oG g3 (vN e sl24) (oG g3 (zbw e e) (oV (zf e g3 e) (hJ2 h 5))))))))))))))
 ·refine rn (zd h e (λ_ h=>?_) (λ_ h=>wk (ss (an e (zo (lO 3 h e λL5 q4 Q12 h hL5 eL5 rL5=>ss (om e (oV (vI e Val.f3 zaY a_v.l) (oV (za ty23 e) (oV (vN e sl23) (oV (zac e e) (rn (zd h e (λ_ h=>?_) (λ_ h=>xn (eL5 _ _ (zs (zp (ws (ar e (ze (r1 e) k0 (iS h ▸ ⟨e,e⟩)))))))))))))))))))))
  ·exact ws (ar e (zx (ze (r1 e) k0 (iS h ▸ ⟨e,e⟩))))
  refine wk (zE (zo (ws (oV (vI e Val.f3 zaY a_v.l) (oV (za ty23 e) (om e (zb h λy9 hy9 h=>oV (vX e e sl23 hy9) (oV (za ty26 e) (zb h λy10 hy10 h=>oT (tC (zru hy10) hT (s1 e) k0 (oV (zaA e) (rn (zd h e (λ_ h=>?_) (λ_ h=>zJ (zw (zp (zi (om e (zt h λq11 h=>oV (zX e e q11) (oa e (zF (hL5 h 16))))))))))))))))))))))
  exact ws (ar e (bn (rL5 _ (bn (ze (r1 e) k0 (iS h ▸ ⟨e,e⟩))))))
 exact oN g3 (oN g3 (oN g3 (oN g3 (oV (zg e g3 e) (hJ2 h 5)))))

theorem zjP:∀ n,ziQ (zjV n)
  | 0=>λh=>(by cases h)
  | n + 1=>zql (zjP n)
theorem zq0 (n:Nat):ziQ (zjV n):=(zjP n)
end Go.Proofs.Q


namespace Go.Proofs.Q
open Go.Sy
set_option maxRecDepth 4000
end Go.Proofs.Q


namespace Go.Proofs.Q
open Go.Sy
set_option maxRecDepth 4000
theorem zaT {a_p zla zdG zeC r} (h:zat a_p zla=some r):Ctr Tryz.prog 56 [ptrv zdG (Fld.id GNprOT),isv zla] [boxE zdG (GNprO a_p zeC),vecE zeC a_p.b] (Pt1 (λ_=>[]) λu1=>[boxE zdG (GNprO r u1),vecE u1 r.b]):=by
 unfold zat at h
 refine zh Tryz.func56 e λw0 S0 hT=>ws (om e (oV (vN e sl27) (om e (rn (zo (lP h Vt zeC (λq2 g2=>[(8,isv q2.1)]) (λq2 g2=>[boxE zdG (GNprO q2.2 g2),vecE g2 q2.2.b]) (zu (j:=8) e hI zal) k2 λL3 q2 g2 Q12 h hL3 eL3 rL3=>ws (oV (zac e e) (rn (zE (zd h e (λ_ h=>?_) (λ_ h=>xn (eL3 _ _ (zs (zaD .nil k2 (iS h ▸ ⟨g2,e,e⟩)))))))))))))))
 exact wk (zE (zo (ws (zb h λy8 hy8 h=>oV (vX e e sl27 hy8) (oV (za ty9 e) (an e (zi (om e (om e (oV (zn e) (oV (zV e zeU zhP) (oT (zaL (R:=vecv g2 (q2.2.b.length)) ty22 e p0 isvV1 (om e (zR h λq10 h=>oT (zuZ zv2 e e (.there .here) (by first | rfl | simp) q10 λv9=>oV (zn e) (oV (zV e zeU zhP) (oT (tR ty22 e e isvV2 p1 (GNprO {q2.2 with b:=(q2.2.b ++ y8.b)} v9) e (rb (zp (zi (zt h λq11 h=>oV (zX e e q11) (om e (zF (hL3 h v9 16))))))))))))))))))))))))))


theorem zpZ {a_b r} (h:zis a_b=some r):Ctr Tryz.prog 114 [isv a_b] [] (Pt [isv r] []):=by
 unfold zis at h
 refine zh Tryz.func114 e λw0 S0 hT=>ws (an e (ws (oT (zB (l:=([(39:UInt8)]:(List UInt8))) el22 (.cons e hI .nil) e e (an e (ss (om e (oV (vN e sl22) (om e (rn (zo (zhE (zaW) (lP h Tok none (λq2 g2=>[(3,appv g2 q2.1),(9,isv q2.2)]) (λq2 g2=>[tokE g2]) (zu (j:=3) e hI (zu (j:=9) e hI zal)) k1 λL3 q2 g2 Q26 h hL3 eL3 rL3=>ws (oV (zac e e) (rn (zE (zd h e (λ_ h=>?_) (λ_ h=>xn (eL3 _ _ (zs (zp (ws (om e (oT (zB (l:=([(39:UInt8),(72:UInt8)]:(List UInt8))) el22 (.cons e hI (.cons e hI .nil)) e e (zR h λq25 h=>oT (zbY (l:=q2.1) (m:=([(39:UInt8),(72:UInt8)]:(List UInt8))) zkq e hI e zz .here q25 λt24=>oV (zld (l:=(q2.1 ++ ([(39:UInt8),(72:UInt8)]:(List UInt8)))) Tryz.underlying22 Tryz.underlying5 Tryz.underlying9 e zz) (ar e ?_))))))))))))))))))))))))))))
 ·refine wk (zE (zo (ws (zb h λy15 hy15 h=>oV (vX e e sl22 hy15) (oV (za ty5 e) (an e (zG (.v 0 (.v 1 (.v 2 (.v 3 (.v 4 (.v 5 (.v 6 (.t 7 (.t 8 (.v 9 .nil)))))))))) moOrd (by kernel_rfl) (rm e e (rm e e (zR h λq16 h=>zj e (zmd e e q16) (zb h λy17 hy17 h=>zj e (zr3 y17 st9 e e hy17) (rm e e (zj e (zhU e e) (zb h λy18 hy18 h=>zj e (zr3 y18 st9 e e hy18) (rT e (zB (l:=([y17,y18]:(List UInt8))) el22 (.cons e hI (.cons e hI .nil)) e e (zR h λq21 h=>rT e (zbY (l:=q2.1) (m:=([y17,y18]:(List UInt8))) zkq e hI e zz .here q21 λt20=>zj e (zar e) (zah (zw (zp (zi (zt h λq22 h=>oV (zX e e q22) (om e ?_))))))))))))))))))))))))
  exact zF (hL3 h t20 18)
 exact ze (r1 e) k0 (iS h ▸ ⟨e,e⟩)


theorem znU {a_v r} (h:zfl a_v=some r):Ctr Tryz.prog 62 [isv a_v] [] (Pt [isv r] []):=by
 unfold zfl at h
 refine zh Tryz.func62 e λw0 S0 hT=>ws (oT (tB e (an e (ss (oV (vI e Val.f0 zcw a_v.kind) (oV (za ty3 e) (rn (zo (ws (oV (zC e e) (an e (zd h e (λ_ h=>?_) (λ_ h=>ws (oV (zC e e) (an e (zd h e (λ_ h=>?_) (λ_ h=>ws (oV (zC e e) (an e (zd h e (λ_ h=>?_) (λ_ h=>ws (oV (zC e e) (an e (zd h e (λ_ h=>?_) (λ_ h=>ws (oV (zC e e) (an e (zd h e (λ_ h=>?_) (λ_ h=>ws ?_)))))))))))))))))))))))))))))
 ·refine ss (oV (vI e Val.f1 zbd a_v.n) (oV (za ty2 e) (oV (zaQ e e) (rn (zd h e (λ_ h=>?_) (λ_ h=>wk (ws (ar e (bn (ze (r1 e) k0 (iS h ▸ ⟨e,e⟩)))))))))))
  exact ws (ar e (zx (bn (ze (r1 e) k0 (iS h ▸ ⟨e,e⟩)))))
 ·exact ws (ar e (bn (ze (r1 e) k0 (iS h ▸ ⟨e,e⟩))))
 ·exact ws (oV (vI e Val.f1 zbd a_v.n) (oV (za ty2 e) (zb h λy1 hy1 h=>oT (tC (zkB hy1) hT (s2 e e) k0 (ar e (bn (ze (r1 e) k0 (iS h ▸ ⟨e,e⟩))))))))
 ·exact ws (oV (vI e Val.f2 zbN a_v.b) (oV (za ty22 e) (oV (zld (l:=a_v.b) Tryz.underlying22 Tryz.underlying5 Tryz.underlying9 e hI) (ar e (bn (ze (r1 e) k0 (iS h ▸ ⟨e,e⟩)))))))
 ·exact ws (oV (vI e Val.f2 zbN a_v.b) (oV (za ty22 e) (zb h λy2 hy2 h=>oT (tC (zpZ hy2) hT (s1 e) k0 (ar e (bn (ze (r1 e) k0 (iS h ▸ ⟨e,e⟩))))))))
 refine oV (zC e e) (an e (zd h e (λ_ h=>?_) (λ_ h=>zJ (zw (zp (ws (ar e (ze (r1 e) k0 (iS h ▸ ⟨e,e⟩)))))))))
 exact ws (oV (vI e Val.f2 zbN a_v.b) (oV (za ty22 e) (oV (zld (l:=a_v.b) Tryz.underlying22 Tryz.underlying5 Tryz.underlying9 e hI) (zb h λy3 hy3 h=>oT (tC (zjS hy3) hT (s3 e e e) k0 (zR h λq4 h=>oV (zea e e q4) (zR h λq5 h=>oV (zea e e q5) (ar e (bn (ze (r1 e) k0 (iS h ▸ ⟨e,e⟩)))))))))))


def zbq (f':Int->GNpr->GTyp->Val->Option (Bool × GNpr)):Prop :=
 ∀ {a_k a_a1 a_a2 a_a3 zep zo9 r},f' a_k a_a1 a_a2 a_a3=some r->Ctr Tryz.prog 59 [isv a_k,immv (PtrB.mk zep),immv (a_a2),immv (a_a3)] [boxE zep (GNprO a_a1 zo9),vecE zo9 a_a1.b] (Pt1 (λ_=>[isv r.1]) λu1=>[boxE zep (GNprO r.2 u1),vecE u1 r.2.b])
def zbv (f':GNpr->Int->Val->Option (GNpr)):Prop :=
 ∀ {a_p a_i a_v zdG zeC r},f' a_p a_i a_v=some r->Ctr Tryz.prog 27 [ptrv zdG (Fld.id GNprOT),isv a_i,isv a_v] [boxE zdG (GNprO a_p zeC),vecE zeC a_p.b] (Pt1 (λ_=>[]) λu1=>[boxE zdG (GNprO r u1),vecE u1 r.b])
def zbH (f':GNpr->Int->GTyp->Val->Option (GNpr)):Prop :=
 ∀ {a_p a_n_ zlF zfR zdG zeC r},f' a_p a_n_ zlF zfR=some r->Ctr Tryz.prog 58 [ptrv zdG (Fld.id GNprOT),isv a_n_,clov 59 [immv (PtrB.mk zdG),immv (zlF),immv (zfR)]] [boxE zdG (GNprO a_p zeC),vecE zeC a_p.b] (Pt1 (λ_=>[]) λu1=>[boxE zdG (GNprO r u1),vecE u1 r.b])
def zbr (f':GNpr->Int->Val->GTyp->Option (GNpr)):Prop :=
 ∀ {a_p a_n_ zlm zfR zdG zeC r},f' a_p a_n_ zlm zfR=some r->Ctr Tryz.prog 58 [ptrv zdG (Fld.id GNprOT),isv a_n_,clov 60 [immv (zlm),immv (PtrB.mk zdG),immv (zfR)]] [boxE zdG (GNprO a_p zeC),vecE zeC a_p.b] (Pt1 (λ_=>[]) λu1=>[boxE zdG (GNprO r u1),vecE u1 r.b])
def zbp (f':Int->Val->GNpr->GTyp->Option (Bool × GNpr)):Prop :=
 ∀ {a_k a_a1 a_a2 a_a3 zo8 zmN r},f' a_k a_a1 a_a2 a_a3=some r->Ctr Tryz.prog 60 [isv a_k,immv (a_a1),immv (PtrB.mk zo8),immv (a_a3)] [boxE zo8 (GNprO a_a2 zmN),vecE zmN a_a2.b] (Pt1 (λ_=>[isv r.1]) λu1=>[boxE zo8 (GNprO r.2 u1),vecE u1 r.2.b])
theorem zhV {z6 zaa zab zZ z7} (zch:zbq z6) (zbS:zbv zaa) (zcH:zbH zab) (zck:zbr zZ) (zco:zbp z7):zbq (zcj z6 zaa zab zZ z7):=by
 intro a_k a_a1 a_a2 a_a3 zep zo9 r h
 unfold zcj at h
 exact zh Tryz.func59 e λw0 S0 hT=>ws (an e (zE (zG (.v 0 (.v 1 (.v 2 (.v 3 (.v 4 (.v 5 (.v 6 (.v 7 (.t 8 .nil))))))))) moOrd (by kernel_rfl) (zj e (zdP (α:=GNprOT) ty64 e) (zj e (vI e GTyp.f7 zlW a_a2.of) (zj e (za ty3 e) (zj e (vI e Val.f3 zaY a_a3.l) (zj e (za ty23 e) (rm e e (zb h λy2 hy2 h=>zj e (vX e e sl23 hy2) (zj e (za ty26 e) (zb h λy3 hy3 h=>rT e (tC1 (zbS hy3) hT (s3 e e e) k2 (λv4=>zah (zp (ws (ar e (ze (r1 e) k2 (iS h ▸ ⟨v4,e,e⟩)))))))))))))))))))

theorem zji {z6 zaa zab zZ z7} (zch:zbq z6) (zbS:zbv zaa) (zcH:zbH zab) (zck:zbr zZ) (zco:zbp z7):zbv (zc5 z6 zaa zab zZ z7):=by
 intro a_p a_i a_v zdG zeC r h
 unfold zc5 at h
 refine zh Tryz.func27 e λw0 S0 hT=>ws (oT (zmV (y:=PtrB.mk zdG) e zpt (oT (tB e (rn (ws (oV (zdP (α:=GNprOT) ty64 e) (oV (zn e) (oV (zV e zpv zuq) (oV (zV e GTab.f3 zcE) (oT (tL ty29 e p0 a_p.t.types (om e (zb h λy2 hy2 h=>oV (vX e e sl29 hy2) (oV (za ty129 e) (oT (zU _ ze129 λb3=>oT (tS ty129 e e p0 y2 (zO (zaz 6 .here e) (rn (ws (oV (vI e GTyp.f0 zbh y2.kind) (oV (za ty3 e) (rn (zo (ws (oV (zC e e) (an e (zd h e (λ_ h=>?_) (λ_ h=>ws (oV (zC e e) ?_)))))))))))))))))))))))))))))))
 ·exact zG (.v 0 (.v 1 (.v 2 (.v 3 (.v 4 (.v 5 (.t 6 (.v 7 (.v 8 (.v 9 (.t 10 (.t 11 .nil)))))))))))) moOrd (by kernel_rfl) (zj e (zdP (α:=GNprOT) ty64 e) (zj e (vI e GTyp.f3 zfy y2.items) (zj e (za ty126 e) (zj e (za ty129 e) (zj e (vI e Val.f1 zbd a_v.n) (zj e (za ty2 e) (zb h λy4 hy4 h=>rT e (tC (ziU hy4) hT (s2 e e) k0 (zb h λy5 hy5 h=>zj e (vX e e sl126 hy5) (zj e (vI e GItem.f0 zkd y5.name) (zj e (za ty9 e) (rT e (zB (l:=([y5.name]:(List Str))) el27 (.cons e hI .nil) e e (zb h λy7 hy7 h=>rT e (tC1 (zaT hy7) hT (.same e (.cons e zz .nil)) k2 (λv8=>zah (zw (zaD .nil k2 (iS h ▸ ⟨v8,e,e⟩)))))))))))))))))))
 refine an e (zd h e (λ_ h=>?_) (λ_ h=>ws (oV (zC e e) (an e (zd h e (λ_ h=>?_) (λ_ h=>ss (oV (zC e e) (an e (jW 66 h (λq19 h=>?_) λJ20 h hJ20=>zd h e (λ_ h=>?_) (λ_ h=>zi (oV (zC e e) (oa e (zF (hJ20 h 2))))))))))))))
 ·exact zi (oV (zdP (α:=GNprOT) ty64 e) (oV (vI e Val.f3 zaY a_v.l) (oV (za ty23 e) (oV (vN e sl23) (oV (zgk (.same e (.same e (.same e .nil)))) (zb h λy9 hy9 h=>oT (tC1 (zcH hy9) hT (s3 e e e) k2 (λv10=>rb (zaD .nil k2 (iS h ▸ ⟨v10,e,e⟩))))))))))
 ·refine ws (oV (vI e GTyp.f4 zaB y2.fields) (oV (za ty127 e) (oV (vI e Val.f1 zbd a_v.n) (oV (za ty2 e) (zb h λy11 hy11 h=>oV (vX e e sl127 hy11) (oV (za ty137 e) (oT (zU _ ze137 λb12=>oT (tS ty137 e e p0 y11 (zO (zaz 7 .here e) (rn (ws (oV (zdP (α:=GNprOT) ty64 e) (oV (vI e GFld.f0 ziY y11.name) (oV (za ty9 e) (oT (zB (l:=([y11.name,(Str.mk [32,58,32])]:(List Str))) el27 (.cons e hI (.cons e hI .nil)) e e (zb h λy14 hy14 h=>oT (tC1 (zaT hy14) hT (.same e (.cons e zz .nil)) k2 (λv15=>rn (zG (.v 0 (.v 1 (.v 2 (.v 3 (.v 4 (.v 5 (.v 6 (.t 7 .nil)))))))) moOrd (by kernel_rfl) (zj e (zdP (α:=GNprOT) ty64 e) (zj e (vI e GFld.f1 zcr y11.ty) (zj e (za ty3 e) (zj e (vI e Val.f3 zaY a_v.l) (zj e (za ty23 e) (zb h λy16 hy16 h=>zj e (vX e e sl23 hy16) (zj e (za ty26 e) (zb h λy17 hy17 h=>?_)))))))))))))))))))))))))))))
  exact rT e (tC1 (zbS hy17) hT (s3 e e e) k2 (λv18=>zah (zw (zaD .nil k2 (iS h ▸ ⟨v18,e,e⟩)))))
 ·refine zd h e (λ_ h=>?_) (λ_ h=>zG (.v 0 (.v 1 (.t 2 (.t 3 (.t 4 .nil))))) moOrd (by kernel_rfl) (zj e (zdP (α:=GNprOT) ty64 e) (zj e (za ty26 e) (zb h λy23 hy23 h=>rT e (tC (znU hy23) hT (s1 e) k0 (rT e (zB (l:=([y23]:(List Str))) el27 (.cons e hI .nil) e e (zb h λy25 hy25 h=>rT e (tC1 (zaT hy25) hT (.same e (.cons e zz .nil)) k2 (λv26=>zah (zw (zaD .nil k2 (iS h ▸ ⟨v26,e,e⟩)))))))))))))
  exact zi (oV (zdP (α:=GNprOT) ty64 e) (oV (vI e Val.f3 zaY a_v.l) (oV (za ty23 e) (oV (vN e sl23) (oV (zgk (.same e (.same e (.same e .nil)))) (zb h λy21 hy21 h=>oT (tC1 (zck hy21) hT (s3 e e e) k2 (λv22=>rb (zaD .nil k2 (iS h ▸ ⟨v22,e,e⟩))))))))))
 exact zJ (hJ20 h 0)

theorem ziz {z6 zaa zab zZ z7} (zch:zbq z6) (zbS:zbv zaa) (zcH:zbH zab) (zck:zbr zZ) (zco:zbp z7):zbH (zcI z6 zaa zab zZ z7):=by
 intro a_p a_n_ zlF zfR zdG zeC r h
 unfold zcI at h
 refine zh Tryz.func58 e λw0 S0 hT=>ws (an e (ss (om e (om e (rn (zo (lP h Vt zeC (λq2 g2=>[(6,isv q2.1),(10,isv q2.2.1)]) (λq2 g2=>[boxE zdG (GNprO q2.2.2 g2),vecE g2 q2.2.2.b]) (zu (j:=6) e hI (zu (j:=10) e hI zal)) k2 λL3 q2 g2 Q38 h hL3 eL3 rL3=>ws (oV (zac e e) (rn (zE (zd h e (λ_ h=>?_) (λ_ h=>xn (eL3 _ _ (zs (zp (ss (om e (rn (zd h e (λ_ h=>?_) (λ_ h=>wk (zi (om e (oT (zB (l:=([(Str.mk [32,125])]:(List Str))) el27 (.cons e hI .nil) e e (zb h λy36 hy36 h=>oT (tC1 (zaT hy36) hT (.same e (.cons e zz .nil)) k2 (λv37=>zF (zaD .nil k2 (iS h ▸ ⟨v37,e,e⟩)))))))))))))))))))))))))))))
 ·refine wk (zE (jw h Vt (λq18 g18=>[(6,isv q18.1)]) (λq18 g18=>[boxE zdG (GNprO q18.2 g18),vecE g18 q18.2.b]) k2 (λq18 g18 h=>?_) λJ19 h hJ19=>zo (ws (om e (an e (ws (om e (oV (zn e) (oV (zV e zeU zhP) (oT (zaL (R:=vecv g2 (q2.2.2.b.length)) ty22 e p0 isvV1 (oV (zhg sl22 e) (an e (ss (om e (rn (jw h Vt (λq20 g20=>[]) (λq20 g20=>[boxE zdG (GNprO q20 g20),vecE g20 q20.b]) k2 (λq20 g20 h=>?_) λJ21 h hJ21=>zd h e (λ_ h=>?_) (λ_ h=>zi (om e (oT (zB (l:=([(Str.mk [44,32])]:(List Str))) el27 (.cons e hI .nil) e e (zb h λy26 hy26 h=>oT (tC1 (zaT hy26) hT (.same e (.cons e zz .nil)) k2 (λv27=>zF (hJ21 h v27 3)))))))))))))))))))))))))
  ·exact zi (zt h λq31 h=>oV (zX e e q31) (om e (zF (hL3 h g18 6))))
  ·refine ws (om e (om e (zb h λy28 hy28 h=>oT (zfG e (.same e .nil) (zch hy28) hT (.cons .here (.cons .here .nil)) (λR H' hR=>?_)))))
   obtain ⟨v29,rfl,rfl⟩:=hR
   refine rn (zd h e (λ_ h=>?_) (λ_ h=>zi (om e (om e (oV (zn e) (oV (zV e zeU zhP) (oT (zaL (R:=vecv v29 (y28.2.b.length)) ty22 e p0 isvV1 (om e (zad h λq30 h=>oV (zt7 e sl22 (.there .here) (by first | rfl | simp) e q30.1 q30.2) (zO (zpH (((q2.2.2.b.length:Nat):Int)).toNat (.there .here)) (oV (zn e) (oV (zV e zeU zhP) (oT (tR ty22 e e isvV2 p1 (GNprO {y28.2 with b:=(y28.2.b.take (((q2.2.2.b.length:Nat):Int)).toNat)} v29) e (rb (hJ19 h v29 21)))))))))))))))))
   exact zi (oa e (rb (hJ19 h v29 13)))
  exact zi (om e (oT (zB (l:=([(Str.mk [123,32])]:(List Str))) el27 (.cons e hI .nil) e e (zb h λy23 hy23 h=>oT (tC1 (zaT hy23) hT (.same e (.cons e zz .nil)) k2 (λv24=>zF (hJ21 h v24 3)))))))
 exact ws (om e (oT (zB (l:=([(Str.mk [123,125])]:(List Str))) el27 (.cons e hI .nil) e e (zb h λy33 hy33 h=>oT (tC1 (zaT hy33) hT (.same e (.cons e zz .nil)) k2 (λv34=>rn (zbz (zx (ze .nil k2 (iS h ▸ ⟨v34,e,e⟩))))))))))

theorem zhW {z6 zaa zab zZ z7} (zch:zbq z6) (zbS:zbv zaa) (zcH:zbH zab) (zck:zbr zZ) (zco:zbp z7):zbr (zci z6 zaa zab zZ z7):=by
 intro a_p a_n_ zlm zfR zdG zeC r h
 unfold zci at h
 refine zh Tryz.func58 e λw0 S0 hT=>ws (an e (ss (om e (om e (rn (zo (lP h Vt zeC (λq2 g2=>[(6,isv q2.1),(10,isv q2.2.1)]) (λq2 g2=>[boxE zdG (GNprO q2.2.2 g2),vecE g2 q2.2.2.b]) (zu (j:=6) e hI (zu (j:=10) e hI zal)) k2 λL3 q2 g2 Q38 h hL3 eL3 rL3=>ws (oV (zac e e) (rn (zE (zd h e (λ_ h=>?_) (λ_ h=>xn (eL3 _ _ (zs (zp (ss (om e (rn (zd h e (λ_ h=>?_) (λ_ h=>wk (zi (om e (oT (zB (l:=([(Str.mk [32,125])]:(List Str))) el27 (.cons e hI .nil) e e (zb h λy36 hy36 h=>oT (tC1 (zaT hy36) hT (.same e (.cons e zz .nil)) k2 (λv37=>zF (zaD .nil k2 (iS h ▸ ⟨v37,e,e⟩)))))))))))))))))))))))))))))
 ·refine wk (zE (jw h Vt (λq18 g18=>[(6,isv q18.1)]) (λq18 g18=>[boxE zdG (GNprO q18.2 g18),vecE g18 q18.2.b]) k2 (λq18 g18 h=>?_) λJ19 h hJ19=>zo (ws (om e (an e (ws (om e (oV (zn e) (oV (zV e zeU zhP) (oT (zaL (R:=vecv g2 (q2.2.2.b.length)) ty22 e p0 isvV1 (oV (zhg sl22 e) (an e (ss (om e (rn (jw h Vt (λq20 g20=>[]) (λq20 g20=>[boxE zdG (GNprO q20 g20),vecE g20 q20.b]) k2 (λq20 g20 h=>?_) λJ21 h hJ21=>zd h e (λ_ h=>?_) (λ_ h=>zi (om e (oT (zB (l:=([(Str.mk [44,32])]:(List Str))) el27 (.cons e hI .nil) e e (zb h λy26 hy26 h=>oT (tC1 (zaT hy26) hT (.same e (.cons e zz .nil)) k2 (λv27=>zF (hJ21 h v27 3)))))))))))))))))))))))))
  ·exact zi (zt h λq31 h=>oV (zX e e q31) (om e (zF (hL3 h g18 6))))
  ·refine ws (om e (om e (zb h λy28 hy28 h=>oT (zfG e (.same e .nil) (zco hy28) hT (.cons .here (.cons .here .nil)) (λR H' hR=>?_)))))
   obtain ⟨v29,rfl,rfl⟩:=hR
   refine rn (zd h e (λ_ h=>?_) (λ_ h=>zi (om e (om e (oV (zn e) (oV (zV e zeU zhP) (oT (zaL (R:=vecv v29 (y28.2.b.length)) ty22 e p0 isvV1 (om e (zad h λq30 h=>oV (zt7 e sl22 (.there .here) (by first | rfl | simp) e q30.1 q30.2) (zO (zpH (((q2.2.2.b.length:Nat):Int)).toNat (.there .here)) (oV (zn e) (oV (zV e zeU zhP) (oT (tR ty22 e e isvV2 p1 (GNprO {y28.2 with b:=(y28.2.b.take (((q2.2.2.b.length:Nat):Int)).toNat)} v29) e (rb (hJ19 h v29 21)))))))))))))))))
   exact zi (oa e (rb (hJ19 h v29 13)))
  exact zi (om e (oT (zB (l:=([(Str.mk [123,32])]:(List Str))) el27 (.cons e hI .nil) e e (zb h λy23 hy23 h=>oT (tC1 (zaT hy23) hT (.same e (.cons e zz .nil)) k2 (λv24=>zF (hJ21 h v24 3)))))))
 exact ws (om e (oT (zB (l:=([(Str.mk [123,125])]:(List Str))) el27 (.cons e hI .nil) e e (zb h λy33 hy33 h=>oT (tC1 (zaT hy33) hT (.same e (.cons e zz .nil)) k2 (λv34=>rn (zbz (zx (ze .nil k2 (iS h ▸ ⟨v34,e,e⟩))))))))))

theorem zhO {z6 zaa zab zZ z7} (zch:zbq z6) (zbS:zbv zaa) (zcH:zbH zab) (zck:zbr zZ) (zco:zbp z7):zbp (zbO z6 zaa zab zZ z7):=by
 intro a_k a_a1 a_a2 a_a3 zo8 zmN r h
 unfold zbO at h
 refine zh Tryz.func60 e λw0 S0 hT=>ws (an e (ss (oV (vI e Val.f3 zaY a_a1.l) (oV (za ty23 e) (om e (zb h λy2 hy2 h=>oV (vX e e sl23 hy2) (oV (za ty26 e) (zb h λy3 hy3 h=>oT (tC (zhq hy3) hT (s1 e) k0 (rn (zd h e (λ_ h=>?_) (λ_ h=>wk (zE (zG (.v 0 (.v 1 (.v 2 (.v 3 (.v 4 (.v 5 (.v 6 (.t 7 (.t 8 .nil))))))))) moOrd (by kernel_rfl) (zj e (zdP (α:=GNprOT) ty64 e) (zj e (vI e GTyp.f4 zaB a_a3.fields) (zj e (za ty127 e) (rm e e (zb h λy4 hy4 h=>zj e (vX e e sl127 hy4) (zj e (vI e GFld.f0 ziY y4.name) (zj e (za ty9 e) (rT e (zB (l:=([y4.name,(Str.mk [32])]:(List Str))) el27 (.cons e hI (.cons e hI .nil)) e e (zb h λy6 hy6 h=>rT e (tC1 (zaT hy6) hT (.same e (.cons e zz .nil)) k2 (λv7=>zah (zp ?_)))))))))))))))))))))))))))
 ·exact ws (ar e (zx (ze (r1 e) k2 (iS h ▸ ⟨zmN,e,e⟩))))
 exact zE (zG (.v 0 (.v 1 (.v 2 (.v 3 (.v 4 (.v 5 (.v 6 (.v 7 (.v 8 (.v 9 (.v 10 (.v 11 (.t 12 .nil))))))))))))) moOrd (by kernel_rfl) (zj e (zdP (α:=GNprOT) ty64 e) (zj e (vI e GTyp.f4 zaB a_a3.fields) (zj e (za ty127 e) (rm e e (zb h λy8 hy8 h=>zj e (vX e e sl127 hy8) (zj e (vI e GFld.f1 zcr y8.ty) (zj e (za ty3 e) (zj e (vI e Val.f3 zaY a_a1.l) (zj e (za ty23 e) (rm e e (zb h λy9 hy9 h=>zj e (vX e e sl23 hy9) (zj e (za ty26 e) (zb h λy10 hy10 h=>rT e (tC1 (zbS hy10) hT (s3 e e e) k2 (λv11=>zah (zp (ws (ar e (ze (r1 e) k2 (iS h ▸ ⟨v11,e,e⟩)))))))))))))))))))))

theorem zej:∀ n,zbq (zbK n)/\zbv (zbf n)/\zbH (zb1 n)/\zbr (zbk n)/\zbp (zbI n)
  | 0=>⟨λh=>(by cases h),λh=>(by cases h),λh=>(by cases h),λh=>(by cases h),λh=>(by cases h)⟩
  | n + 1=>by
    obtain ⟨h0,h1,h2,h3,h4⟩:=zej n
    exact ⟨zhV h0 h1 h2 h3 h4,zji h0 h1 h2 h3 h4,ziz h0 h1 h2 h3 h4,zhW h0 h1 h2 h3 h4,zhO h0 h1 h2 h3 h4⟩
theorem zjM (n:Nat):zbv (zbf n):=(zej n).2.1
theorem zlE {a_t a_i a_v r} (h:zd9 a_t a_i a_v=some r):Ctr Tryz.prog 13 [isv a_t,isv a_i,isv a_v] [] (Pt [isv r.1,isv r.2] []):=by
 unfold zd9 at h
 refine zh Tryz.func13 e λw0 S0 hT=>ws (oT (tB e (oT (tB e (oa e (an e (zE (zo (ws (oV (za ty31 e) (om e (oV (za ty26 e) (zb h λy1 hy1 h=>oT (tC (zo4 hy1) hT (s3 e e e) k0 (oV (zaA e) (an e (zd h e (λ_ h=>?_) (λ_ h=>ws (oV (za ty26 e) (zb h λy2 hy2 h=>oT (tC (zpr fuel hy2) hT (s1 e) k0 (oV (zaA e) (an e (zd h e (λ_ h=>?_) (λ_ h=>zJ (zw (zp (ws (oV (za ty31 e) (oV (zak (z:=((a_t,(Vh.mk none 0)):GNprOT)) e bu66 zvR (.cons zpv zuq e hI .nil)) ?_))))))))))))))))))))))))))))))
 ·exact ws (oa e (ar e (bn (ze (r2 e e) k0 (iS h ▸ ⟨e,e⟩)))))
 ·exact ws (oa e (ar e (bn (ze (r2 e e) k0 (iS h ▸ ⟨e,e⟩)))))
 refine oT (zma (y:=((a_t,(Vh.mk none 0)):GNprOT)) e hI λb3=>zO (ze2 (α:=UInt8)) (an e (ss (om e (om e (oV (za ty26 e) (zb h λy5 hy5 h=>oT (tC1 (zjM fuel hy5) hT (s3 e e e) (a1 k1) (λv6=>rn (ws (om e (oV (zn e) (oV (zV e zeU zhP) (oT (zaL (R:=vecv v6 (y5.b.length)) ty22 e p0 isvV1 (oV (zhg sl22 e) (oV (zbw e e) (rn (zd h e (λ_ h=>?_) (λ_ h=>wk (ws (om e (oV (zn e) (oV (zV e zeU zhP) (oT (zaL (R:=vecv v6 (y5.b.length)) ty22 e p0 isvV1 (zO (zhe 35 (.there .here) e (by first | rfl | simp)) (oV (zld (l:=y5.b) Tryz.underlying22 Tryz.underlying5 Tryz.underlying9 e hI) (oa e (ar e (ze (r2 e e) k0 (iS h ▸ ⟨e,e⟩))))))))))))))))))))))))))))))))
 exact ws (oa e (ar e (zx (ze (r2 e e) k0 (iS h ▸ ⟨e,e⟩)))))


def ziN (f':UInt64->Option (Str)):Prop :=
 ∀ {a_v r},f' a_v=some r->Ctr Tryz.prog 43 [isv a_v] [] (Pt [isv r] [])
theorem zpS {zkl} (znw:ziN zkl):ziN (zfd zkl):=by
 intro a_v r h
 unfold zfd at h
 refine zh Tryz.func43 e λw0 S0 hT=>ws (an e (ss (om e (oV (zls e e) (rn (zd h e (λ_ h=>?_) (λ_ h=>wk (zE (jW 2 h (λq2 h=>?_) λJ3 h hJ3=>zG (.v 0 (.v 1 (.v 3 (.v 4 (.v 5 (.v 6 (.alt 2 (.t 7 (.v 8 (.v 9 (.v 10 .nil)))) (.t 7 (.v 8 (.t 2 (.v 9 (.v 10 .nil)))))))))))) moOrd (by kernel_rfl) (rm e e (zR h λq4 h=>zj e (zuA e e q4) (rm e e (zR h λq5 h=>zj e (zr7 e e q5) (zj e (zlg e e) (zj e (zmX Tryz.underlying102 Tryz.underlying5 e) (zb h λy6 hy6 h=>zR h λq8 h=>zhi ?_ (rT e (zB (l:=([((48:UInt64) + (a_v % (10:UInt64))).toUInt8]:(List UInt8))) el22 (.cons e hI .nil) e e (zj e (zld (l:=([((48:UInt64) + (a_v % (10:UInt64))).toUInt8]:(List UInt8))) Tryz.underlying22 Tryz.underlying5 Tryz.underlying9 e zz) (rT e (tC (znw hy6) hT (s1 e) k0 (zj e (zea e e q8) (zj e (zar e) (zah (hJ3 h 11)))))))))))))))))))))))))
 ·exact ws (om e (oV (zlg e e) (oV (zmX Tryz.underlying102 Tryz.underlying5 e) (oT (zB (l:=([((48:UInt64) + a_v).toUInt8]:(List UInt8))) el22 (.cons e hI .nil) e e (oV (zld (l:=([((48:UInt64) + a_v).toUInt8]:(List UInt8))) Tryz.underlying22 Tryz.underlying5 Tryz.underlying9 e zz) (ar e (zx (ze (r1 e) k0 (iS h ▸ ⟨e,e⟩))))))))))
 ·exact zbz (ze (r1 e) k0 (iS h ▸ ⟨e,e⟩))
 exact rT e (tC (znw hy6) hT (s1 e) k0 (rT e (zB (l:=([((48:UInt64) + (a_v % (10:UInt64))).toUInt8]:(List UInt8))) el22 (.cons e hI .nil) e e (zj e (zld (l:=([((48:UInt64) + (a_v % (10:UInt64))).toUInt8]:(List UInt8))) Tryz.underlying22 Tryz.underlying5 Tryz.underlying9 e zz) (zj e (zea e e q8) (zj e (zar e) (zah (hJ3 h 11))))))))

theorem zjE:∀ n,ziN (zgv n)
  | 0=>λh=>(by cases h)
  | n + 1=>zpS (zjE n)
theorem znM (n:Nat):ziN (zgv n):=(zjE n)

theorem zrg {a_v r} (h:zjt a_v=some r):Ctr Tryz.prog 21 [isv a_v] [] (Pt [isv r] []):=by
 unfold zjt at h
 refine zh Tryz.func21 e λw0 S0 hT=>ws (an e (ss (om e (oV (zac e e) (rn (zd h e (λ_ h=>?_) (λ_ h=>wk (ws (om e (oV (zrB Tryz.underlying2 Tryz.underlying102 e) (zb h λy5 hy5 h=>oT (tC (znM fuel hy5) hT (s1 e) k0 (ar e (ze (r1 e) k0 (iS h ▸ ⟨e,e⟩)))))))))))))))
 exact ws (om e (zt h λq1 h=>oV (zX e e q1) (zt h λq2 h=>oV (zvz e q2) (oV (zrB Tryz.underlying2 Tryz.underlying102 e) (oV (zlg e e) (zb h λy3 hy3 h=>oT (tC (znM fuel hy3) hT (s1 e) k0 (zR h λq4 h=>oV (zea e e q4) (ar e (zx (ze (r1 e) k0 (iS h ▸ ⟨e,e⟩))))))))))))

end Go.Proofs.Q


namespace Go.Proofs.Q
open Go.Sy
set_option maxRecDepth 4000
theorem zkN:∀  {r:Bool},zfm =some r->Ctr Tryz.prog 12 [] [] (λR H=>R=oneOf [isv (r)]/\H=[]):=by
 intro  r h
 unfold zfm at h
 refine zh Tryz.func12 e λw0 S0 hT=>ws (an e (ws (zb h λy1 hy1 h=>oT (tC (zhM hy1) hT (s1 e) k0 (om e (oV (zD e e) (oV (zD e e) (oT (zU _ ze31 λb2=>oT (tS ty31 e e p0 y1.1 (zO (zaz 1 .here e) (an e (ws (oV (za ty31 e) (oV (zak (z:=(Val.mk (2:Int) (5:Int) ([]:(List UInt8)) ([]:(List Val)) (0:Int) ([]:(List Raw)))) e bu26 ze26 (.cons Val.f0 zcw e hI (.cons Val.f1 zbd e hI .nil))) (oV (zak (z:=(Val.mk (1:Int) (1:Int) ([]:(List UInt8)) ([]:(List Val)) (0:Int) ([]:(List Raw)))) e bu26 ze26 (.cons Val.f0 zcw e hI (.cons Val.f1 zbd e hI .nil))) (oT (zB (l:=([(Val.mk (2:Int) (5:Int) ([]:(List UInt8)) ([]:(List Val)) (0:Int) ([]:(List Raw))),(Val.mk (1:Int) (1:Int) ([]:(List UInt8)) ([]:(List Val)) (0:Int) ([]:(List Raw)))]:(List Val))) el23 (.cons e hI (.cons e hI .nil)) e e (oV (zak (z:=(Val.mk (7:Int) (0:Int) ([]:(List UInt8)) ([(Val.mk (2:Int) (5:Int) ([]:(List UInt8)) ([]:(List Val)) (0:Int) ([]:(List Raw))),(Val.mk (1:Int) (1:Int) ([]:(List UInt8)) ([]:(List Val)) (0:Int) ([]:(List Raw)))]:(List Val)) (0:Int) ([]:(List Raw)))) e bu26 ze26 (.cons Val.f0 zcw e hI (.cons Val.f3 zaY e zz .nil))) (zb h λy4 hy4 h=>oT (tC (zlE hy4) hT (s3 e e e) k0 (om e (oV (zD e e) (oV (zD e e) (oa e (an e (ws (om e (om e (jO 3 22 h (λq5 h=>?_) λJ6 h hJ6=>?_))))))))))))))))))))))))))))))
 ·refine om e (jO 3 26 h (λq8 h=>?_) λJ9 h hJ9=>oI h (λg10 h=>?_) λg10 h=>oN g10 (oN g10 (oV (zf e g10 e) (hJ9 h 3))))
  ·exact ar e (ze (r1 e) k0 (iS h ▸ ⟨e,e⟩))
  exact oG g10 (zm e) (oG g10 (zcL eq9 e e) (oV (zg e g10 e) (hJ9 h 3)))
 refine oI h (λg7 h=>?_) λg7 h=>oN g7 (oN g7 (oV (zf e g7 e) (hJ6 h 3)))
 exact oG g7 (zm e) (oG g7 (zC e e) (oV (zg e g7 e) (hJ6 h 3)))

end Go.Proofs.Q


namespace Go.Proofs.Q
open Go.Sy
set_option maxRecDepth 4000
theorem zsX {a_b r} (h:zk8 a_b=some r):Ctr Tryz.prog 116 [isv a_b] [] (Pt [isv r] []):=by
 unfold zk8 at h
 refine zh Tryz.func116 e λw0 S0 hT=>ws (an e (ws (an e (ss (an e (zo (lP h Unit () (λq1 g1=>[(3,isv q1.1),(4,isv q1.2)]) (λq1 g1=>[]) (zu (j:=3) e hI (zu (j:=4) e hI zal)) k0 λL2 q1 g1 Q25 h hL2 eL2 rL2=>ss (om e (om e (oV (vN e sl22) (oV (zac e e) (rn (zd h e (λ_ h=>?_) (λ_ h=>xn (eL2 _ _ (zs (zp (ws (om e (ar e (ze (r1 e) k0 (iS h ▸ ⟨e,e⟩))))))))))))))))))))))
 refine wk (zE (zo (zG (.v 0 (.v 1 (.v 2 (.v 3 (.v 4 (.v 5 (.v 6 (.v 7 (.v 8 (.v 9 (.v 10 (.v 11 (.v 12 (.v 13 (.v 14 (.v 15 (.v 16 (.v 17 (.v 18 (.v 19 (.v 20 (.v 21 (.v 22 (.v 23 (.v 24 (.v 25 (.v 26 (.v 27 .nil)))))))))))))))))))))))))))) moOrd (by kernel_rfl) (rm e e (rm e e (rm e e (zb h λy14 hy14 h=>zj e (vX e e sl22 hy14) (zj e (za ty5 e) (zR h λq15 h=>zj e (zmd e e q15) (rm e e (rm e e (zb h λy16 hy16 h=>zj e (vX e e sl22 hy16) (zj e (za ty5 e) (zR h λq17 h=>zj e (zmd e e q17) (zj e (zqN e e) (zad h λq18 h=>zj e (ztV st9 e e e q18.1 q18.2) (zR h λq19 h=>zj e (zea e e q19) (rm e e (rm e e (zb h λy20 hy20 h=>zj e (vX e e sl22 hy20) (zj e (za ty5 e) (zj e (zhU e e) ?_))))))))))))))))))))))
 exact rm e e (rm e e (zb h λy21 hy21 h=>zj e (vX e e sl22 hy21) (zj e (za ty5 e) (zj e (zhU e e) (zj e (zqN e e) (zad h λq22 h=>zj e (ztV st9 e e e q22.1 q22.2) (zR h λq23 h=>zj e (zea e e q23) (zj e (zar e) (zah (zw (zp (zi (om e (zt h λq24 h=>oV (zX e e q24) (oa e (zF (hL2 h () 37)))))))))))))))))


theorem zqf {a_v r} (h:zgd a_v=some r):Ctr Tryz.prog 64 [isv a_v] [] (Pt [isv r] []):=by
 unfold zgd at h
 refine zh Tryz.func64 e λw0 S0 hT=>ws (oT (tB e (an e (ss (oV (vI e Val.f0 zcw a_v.kind) (oV (za ty3 e) (rn (zo (ws (oV (zC e e) (an e (zd h e (λ_ h=>?_) (λ_ h=>ws (oV (zC e e) (an e (zd h e (λ_ h=>?_) (λ_ h=>ws (oV (zC e e) (an e (zd h e (λ_ h=>?_) (λ_ h=>ws (oV (zC e e) (an e (zd h e (λ_ h=>?_) (λ_ h=>ws (oV (zC e e) (an e (zd h e (λ_ h=>?_) (λ_ h=>ws ?_)))))))))))))))))))))))))))))
 ·refine ss (oV (vI e Val.f1 zbd a_v.n) (oV (za ty2 e) (oV (zaQ e e) (rn (zd h e (λ_ h=>?_) (λ_ h=>wk (ws (ar e (bn (ze (r1 e) k0 (iS h ▸ ⟨e,e⟩)))))))))))
  exact ws (ar e (zx (bn (ze (r1 e) k0 (iS h ▸ ⟨e,e⟩)))))
 ·exact ws (ar e (bn (ze (r1 e) k0 (iS h ▸ ⟨e,e⟩))))
 ·exact ws (oV (vI e Val.f1 zbd a_v.n) (oV (za ty2 e) (zb h λy1 hy1 h=>oT (tC (zrg hy1) hT (s1 e) k0 (ar e (bn (ze (r1 e) k0 (iS h ▸ ⟨e,e⟩))))))))
 ·exact ws (oV (vI e Val.f2 zbN a_v.b) (oV (za ty22 e) (oV (zld (l:=a_v.b) Tryz.underlying22 Tryz.underlying5 Tryz.underlying9 e hI) (ar e (bn (ze (r1 e) k0 (iS h ▸ ⟨e,e⟩)))))))
 ·exact ws (oV (vI e Val.f2 zbN a_v.b) (oV (za ty22 e) (zb h λy2 hy2 h=>oT (tC (zsX hy2) hT (s1 e) k0 (zR h λq3 h=>oV (zea e e q3) (zR h λq4 h=>oV (zea e e q4) (ar e (bn (ze (r1 e) k0 (iS h ▸ ⟨e,e⟩))))))))))
 refine oV (zC e e) (an e (zd h e (λ_ h=>?_) (λ_ h=>zJ (zw (zp (ws (ar e (ze (r1 e) k0 (iS h ▸ ⟨e,e⟩)))))))))
 refine ws (an e (ss (an e (zo (lP h Unit () (λq5 g5=>[(3,isv q5.1),(4,isv q5.2)]) (λq5 g5=>[]) (zu (j:=3) e hI (zu (j:=4) e hI zal)) k0 λL6 q5 g5 Q25 h hL6 eL6 rL6=>ss (om e (oV (vI e Val.f2 zbN a_v.b) (oV (za ty22 e) (oV (vN e sl22) (oV (zac e e) (rn (zd h e (λ_ h=>?_) (λ_ h=>xn (eL6 _ _ (zs (zp (ws (om e (zR h λq24 h=>oV (zea e e q24) (ar e (bn (ze (r1 e) k0 (iS h ▸ ⟨e,e⟩)))))))))))))))))))))))
 refine wk (zE (jW 3 h (λq16 h=>?_) λJ17 h hJ17=>zo (ws (om e (oV (vI e Val.f2 zbN a_v.b) (oV (za ty22 e) (om e (om e (zt h λq18 h=>oV (zX e e q18) (zad h λq19 h=>oV (zf1 (l:=a_v.b) e hI sl22 (.inr ⟨_,e,e⟩) (.inr ⟨_,e,e⟩) q19.1 q19.2.1 q19.2.2) (oV (zld (l:=((a_v.b.take ((q5.2 + (1:Int))).toNat).drop (q5.2).toNat)) Tryz.underlying22 Tryz.underlying5 Tryz.underlying9 e hI) (zR h λq20 h=>oV (zea e e q20) (an e (ws (oV (vI e Val.f2 zbN a_v.b) (oV (za ty22 e) (om e (zb h λy21 hy21 h=>oV (vX e e sl22 hy21) (oV (za ty5 e) (oV (zcL eq5 e e) (rn (zd h e (λ_ h=>?_) (λ_ h=>zJ (zw ?_))))))))))))))))))))))))
 ·exact zi (om e (zt h λq23 h=>oV (zX e e q23) (oa e (zF (hL6 h () 11)))))
 ·exact zi (om e (zR h λq22 h=>oV (zea e e q22) (oa e (rb (hJ17 h 19)))))
 exact hJ17 h 16


def ziS (f':GTab->Int->Val->Option (Str)):Prop :=
 ∀ {a_t a_i a_v r},f' a_t a_i a_v=some r->Ctr Tryz.prog 28 [isv a_t,isv a_i,isv a_v] [] (Pt [isv r] [])
theorem zqb {zgY} (zkT:ziS zgY):ziS (zhx zgY):=by
 intro a_t a_i a_v r h
 unfold zhx at h
 refine zh Tryz.func28 e λw0 S0 hT=>ws (oT (tB e (oT (tB e (an e (ws (oV (vI e GTab.f3 zcE a_t.types) (oV (za ty29 e) (om e (zb h λy1 hy1 h=>oV (vX e e sl29 hy1) (oV (za ty129 e) (oT (zU _ ze129 λb2=>oT (tS ty129 e e p0 y1 (zO (zaz 7 .here e) (rn (ss (oV (vI e GTyp.f0 zbh y1.kind) (oV (za ty3 e) (rn (zo (ws (oV (zC e e) (an e (zd h e (λ_ h=>?_) (λ_ h=>ws (oV (zC e e) (an e (zd h e (λ_ h=>?_) (λ_ h=>ws ?_))))))))))))))))))))))))))))))
 ·exact zE (zG (.v 0 (.v 1 (.v 2 (.v 3 (.v 4 (.t 5 (.v 6 (.v 7 (.v 8 (.v 9 .nil)))))))))) moOrd (by kernel_rfl) (zj e (vI e GTyp.f3 zfy y1.items) (zj e (za ty126 e) (zj e (za ty129 e) (zj e (vI e Val.f1 zbd a_v.n) (zj e (za ty2 e) (zb h λy3 hy3 h=>rT e (tC (zkR hy3) hT (s2 e e) k0 (zb h λy4 hy4 h=>zj e (vX e e sl126 hy4) (zj e (vI e GItem.f0 zkd y4.name) (zj e (za ty9 e) (zj e (zar e) (zah (zp (zbz (bn (ze (r1 e) k0 (iS h ▸ ⟨e,e⟩))))))))))))))))))
 ·refine ss (oV (vI e Val.f3 zaY a_v.l) (oV (za ty23 e) (oV (vN e sl23) (oV (zC e e) (rn (zd h e (λ_ h=>?_) (λ_ h=>wk (ws (an e (ss (an e (zo (lP h Unit () (λq5 g5=>[(8,isv q5.1),(9,isv q5.2)]) (λq5 g5=>[]) (zu (j:=8) e hI (zu (j:=9) e hI zal)) k0 λL6 q5 g5 Q23 h hL6 eL6 rL6=>ss (om e (oV (vI e Val.f3 zaY a_v.l) (oV (za ty23 e) (oV (vN e sl23) (oV (zac e e) (rn (zd h e (λ_ h=>?_) (λ_ h=>xn (eL6 _ _ (zs (zp (ws (om e (zR h λq22 h=>oV (zea e e q22) ?_)))))))))))))))))))))))))))
  ·exact ws (ar e (zx (bn (ze (r1 e) k0 (iS h ▸ ⟨e,e⟩)))))
  ·refine wk (zE (zo (ss (om e (oV (zbw e e) (rn (jW 8 h (λq15 h=>?_) λJ16 h hJ16=>zd h e (λ_ h=>?_) (λ_ h=>zJ (hJ16 h 0)))))))))
   ·exact zG (.v 0 (.v 1 (.v 2 (.v 3 (.v 4 (.v 5 (.v 6 (.v 7 (.v 8 (.t 9 (.v 10 (.v 11 .nil)))))))))))) moOrd (by kernel_rfl) (rm e e (zj e (za ty31 e) (zj e (vI e GTyp.f7 zlW y1.of) (zj e (za ty3 e) (zj e (vI e Val.f3 zaY a_v.l) (zj e (za ty23 e) (rm e e (zb h λy18 hy18 h=>zj e (vX e e sl23 hy18) (zj e (za ty26 e) (zb h λy19 hy19 h=>rT e (tC (zkT hy19) hT (s3 e e e) k0 (zR h λq20 h=>zj e (zea e e q20) (zj e (zar e) (zah (zw (zp (zi (om e (zt h λq21 h=>oV (zX e e q21) (oa e (zF (hL6 h () 25))))))))))))))))))))))
   exact zi (om e (zR h λq17 h=>oV (zea e e q17) (oa e (zF (hJ16 h 3)))))
  exact ar e (bn (ze (r1 e) k0 (iS h ▸ ⟨e,e⟩)))
 refine oV (zC e e) (an e (zd h e (λ_ h=>?_) (λ_ h=>ss (oV (zC e e) (an e (jW 84 h (λq30 h=>?_) λJ31 h hJ31=>zd h e (λ_ h=>?_) (λ_ h=>zi (oV (zC e e) (oa e (zF (hJ31 h 2)))))))))))
 ·refine zE (zG (.v 0 (.v 1 (.v 2 (.v 3 (.v 4 (.v 5 (.v 6 (.v 7 (.v 8 (.v 9 (.v 10 (.v 11 (.v 12 (.v 13 (.v 14 (.v 15 (.v 16 (.v 17 (.v 18 (.v 19 (.t 20 (.v 21 (.v 22 .nil))))))))))))))))))))))) moOrd (by kernel_rfl) (zj e (vI e GTyp.f4 zaB y1.fields) (zj e (za ty127 e) (zj e (vI e Val.f1 zbd a_v.n) (zj e (za ty2 e) (zb h λy24 hy24 h=>zj e (vX e e sl127 hy24) (zj e (vI e GFld.f0 ziY y24.name) (zj e (za ty9 e) (zR h λq25 h=>zj e (zea e e q25) (zj e (za ty31 e) (zj e (vI e GTyp.f4 zaB y1.fields) (zj e (za ty127 e) (zj e (vI e Val.f1 zbd a_v.n) (zj e (za ty2 e) (zb h λy26 hy26 h=>zj e (vX e e sl127 hy26) (zj e (vI e GFld.f1 zcr y26.ty) (zj e (za ty3 e) (zj e (vI e Val.f3 zaY a_v.l) (zj e (za ty23 e) (zb h λy27 hy27 h=>zj e (vX e e sl23 hy27) (zj e (za ty26 e) (zb h λy28 hy28 h=>rT e (tC (zkT hy28) hT (s3 e e e) k0 (zR h λq29 h=>zj e (zea e e q29) ?_))))))))))))))))))))))))
  exact zj e (zar e) (zah (zp (zbz (bn (ze (r1 e) k0 (iS h ▸ ⟨e,e⟩))))))
 ·refine zd h e (λ_ h=>?_) (λ_ h=>zJ (zw (zp (ws (oV (za ty26 e) (zb h λy67 hy67 h=>oT (tC (zqf hy67) hT (s1 e) k0 (ar e (ze (r1 e) k0 (iS h ▸ ⟨e,e⟩))))))))))
  refine ws (an e (ss (an e (zo (lP h Unit () (λq32 g32=>[(10,isv q32.1),(11,isv q32.2)]) (λq32 g32=>[]) (zu (j:=10) e hI (zu (j:=11) e hI zal)) k0 λL33 q32 g32 Q66 h hL33 eL33 rL33=>ss (om e (oV (vI e Val.f3 zaY a_v.l) (oV (za ty23 e) (oV (vN e sl23) (oV (zac e e) (rn (zd h e (λ_ h=>?_) (λ_ h=>xn (eL33 _ _ (zs (zp (ss (om e (oV (zcL eq9 e e) (rn (zd h e (λ_ h=>?_) (λ_ h=>wk (ws (om e (zR h λq64 h=>oV (zea e e q64) (zR h λq65 h=>oV (zea e e q65) ?_))))))))))))))))))))))))))
  ·refine wk (zE (jW 10 h (λq50 h=>?_) λJ51 h hJ51=>zo (ss (oV (vI e Val.f3 zaY a_v.l) (oV (za ty23 e) (om e (zb h λy52 hy52 h=>oV (vX e e sl23 hy52) (oV (vI e Val.f0 zcw y52.kind) (oV (za ty3 e) (oV (zC e e) (rn (zd h e (λ_ h=>?_) (λ_ h=>wk (ss (om e (oV (zkJ eq9 e e) (rn (jW 10 h (λq53 h=>?_) λJ54 h hJ54=>zd h e (λ_ h=>?_) (λ_ h=>zJ (hJ54 h 0))))))))))))))))))))
   ·exact zi (om e (zt h λq63 h=>oV (zX e e q63) (oa e (zF (hL33 h () 11)))))
   ·exact xn (zs (hJ51 h 7))
   ·refine zG (.v 0 (.v 1 (.v 2 (.v 3 (.v 4 (.v 5 (.v 6 (.v 7 (.v 8 (.v 9 (.v 10 (.v 11 (.v 12 (.v 13 (.v 14 (.v 15 (.v 16 (.v 17 (.v 18 (.v 19 (.v 20 (.t 21 (.v 22 (.v 23 .nil)))))))))))))))))))))))) moOrd (by kernel_rfl) (rm e e (zj e (vI e GTyp.f4 zaB y1.fields) (zj e (za ty127 e) (rm e e (zb h λy56 hy56 h=>zj e (vX e e sl127 hy56) (zj e (vI e GFld.f0 ziY y56.name) (zj e (za ty9 e) (zR h λq57 h=>zj e (zea e e q57) (zR h λq58 h=>zj e (zea e e q58) (zj e (za ty31 e) (zj e (vI e GTyp.f4 zaB y1.fields) (zj e (za ty127 e) (rm e e (zb h λy59 hy59 h=>zj e (vX e e sl127 hy59) (zj e (vI e GFld.f1 zcr y59.ty) (zj e (za ty3 e) (zj e (vI e Val.f3 zaY a_v.l) (zj e (za ty23 e) (rm e e (zb h λy60 hy60 h=>zj e (vX e e sl23 hy60) (zj e (za ty26 e) (zb h λy61 hy61 h=>rT e (tC (zkT hy61) hT (s3 e e e) k0 (zR h λq62 h=>?_))))))))))))))))))))))))
    exact zj e (zea e e q62) (zj e (zar e) (zah (zw (hJ51 h 34))))
   exact zi (om e (zR h λq55 h=>oV (zea e e q55) (oa e (zF (hJ54 h 3)))))
  ·exact ws (ar e (zx (bn (ze (r1 e) k0 (iS h ▸ ⟨e,e⟩)))))
  exact ar e (bn (ze (r1 e) k0 (iS h ▸ ⟨e,e⟩)))
 exact zJ (hJ31 h 0)

theorem zjz:∀ n,ziS (zjU n)
  | 0=>λh=>(by cases h)
  | n + 1=>zqb (zjz n)
theorem zrt (n:Nat):ziS (zjU n):=(zjz n)

theorem zpL {a_t a_i a_v r} (h:zgf a_t a_i a_v=some r):Ctr Tryz.prog 14 [isv a_t,isv a_i,isv a_v] [] (Pt [isv r.1,isv r.2] []):=by
 unfold zgf at h
 refine zh Tryz.func14 e λw0 S0 hT=>ws (oT (tB e (oT (tB e (oa e (an e (ss (oV (za ty31 e) (om e (oV (za ty26 e) (zb h λy1 hy1 h=>oT (tC (zq8 hy1) hT (s3 e e e) k0 (oV (zaA e) (rn (zd h e (λ_ h=>?_) (λ_ h=>wk (ss (oV (za ty26 e) (zb h λy2 hy2 h=>oT (tC (zq0 fuel hy2) hT (s1 e) k0 (oV (zaA e) (rn (zd h e (λ_ h=>?_) (λ_ h=>wk (ws (oV (za ty31 e) (om e (oV (za ty26 e) (zb h λy3 hy3 h=>oT (tC (zrt fuel hy3) hT (s3 e e e) k0 ?_))))))))))))))))))))))))))))))
 ·exact ws (oa e (ar e (zx (ze (r2 e e) k0 (iS h ▸ ⟨e,e⟩)))))
 ·exact ws (oa e (ar e (zx (ze (r2 e e) k0 (iS h ▸ ⟨e,e⟩)))))
 refine an e (ss (om e (oV (zeO st9 e) (oV (zbw e e) (rn (zd h e (λ_ h=>?_) (λ_ h=>wk (ws (om e (oa e (ar e (ze (r2 e e) k0 (iS h ▸ ⟨e,e⟩)))))))))))))
 exact ws (oa e (ar e (zx (ze (r2 e e) k0 (iS h ▸ ⟨e,e⟩)))))


theorem zkW {zbV zgt a_v r} (h:zeG zbV zgt a_v=some r):Ctr Tryz.prog 3 [isv zbV,isv zgt,isv a_v] [] (Pt [isv r] []):=by
 unfold zeG at h
 refine zh Tryz.func3 e λw0 S0 hT=>ws (oT (tB e (an e (ws (om e (zb h λy1 hy1 h=>oT (tC (zhM hy1) hT (s1 e) k0 (om e (oV (zD e e) (oV (zD e e) (oT (zU _ ze31 λb2=>oT (tS ty31 e e p0 y1.1 (zO (zaz 7 .here e) (an e (ws (oV (za ty31 e) (om e (zb h λy3 hy3 h=>oT (tC (zml hy3) hT (s2 e e) k0 (om e (oV (zD e e) (oV (zD e e) (oa e (an e (ss (om e (oV (zaA e) (om e (jO 3 31 h (λq4 h=>?_) λJ5 h hJ5=>?_))))))))))))))))))))))))))))))
 ·refine om e (jO 4 36 h (λq7 h=>?_) λJ8 h hJ8=>oI h (λg9 h=>?_) λg9 h=>oG g9 (za ty26 e) (zb h λy10 hy10 h=>oH g9 (tC (zs3 hy10) hT (s2 e e) k0 (oG g9 (zaA e) (oV (zf e g9 e) (hJ8 h 4))))))
  ·refine rn (zd h e (λ_ h=>?_) (λ_ h=>wk (ws (oV (za ty31 e) (om e (oV (za ty26 e) (zb h λy12 hy12 h=>oT (tC (zlE hy12) hT (s3 e e e) k0 (om e (oV (zD e e) (oV (zD e e) (oa e (an e (ws (oV (za ty31 e) (om e (oV (za ty26 e) (zb h λy13 hy13 h=>oT (tC (zpL hy13) hT (s3 e e e) k0 (om e (oV (zD e e) (oV (zD e e) (oa e (an e (ws (zb h λy14 hy14 h=>oT (tC (zkN hy14) hT .nil k0 (om e (jO 4 57 h (λq15 h=>?_) λJ16 h hJ16=>?_)))))))))))))))))))))))))))))
   ·exact ws (zb h λy11 hy11 h=>oT (tC (zkN hy11) hT .nil k0 (ar e (zx (ze (r1 e) k0 (iS h ▸ ⟨e,e⟩))))))
   ·refine om e (jO 4 62 h (λq18 h=>?_) λJ19 h hJ19=>oI h (λg20 h=>?_) λg20 h=>oN g20 (oN g20 (oN g20 (oV (zf e g20 e) (hJ19 h 4)))))
    ·exact ar e (ze (r1 e) k0 (iS h ▸ ⟨e,e⟩))
    exact oG g20 (zm e) (oG g20 (zm e) (oG g20 (zC e e) (oV (zg e g20 e) (hJ19 h 4))))
   refine oI h (λg17 h=>?_) λg17 h=>oN g17 (oN g17 (oN g17 (oV (zf e g17 e) (hJ16 h 4))))
   exact oG g17 (zm e) (oG g17 (zm e) (oG g17 (zcL eq9 e e) (oV (zg e g17 e) (hJ16 h 4))))
  exact oN g9 (oN g9 (oN g9 (oV (zg e g9 e) (hJ8 h 4))))
 refine oI h (λg6 h=>?_) λg6 h=>oG g6 (zm e) (oG g6 (zaA e) (oV (zf e g6 e) (hJ5 h 3)))
 exact oN g6 (oN g6 (oV (zg e g6 e) (hJ5 h 3)))

end Go.Proofs.Q

