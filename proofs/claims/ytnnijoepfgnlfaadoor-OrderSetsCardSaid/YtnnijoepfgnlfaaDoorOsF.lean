/- Walks, printed by mill.py. -/
import Derived.Test.YtnnijoepfgnlfaaDoorOsA
import Derived.Test.YtnnijoepfgnlfaaDoorOsB
import Derived.Test.YtnnijoepfgnlfaaDoorOsC
import Derived.Test.YtnnijoepfgnlfaaDoorOsD
import Derived.Test.YtnnijoepfgnlfaaDoorOsE
set_option linter.unusedVariables false
set_option linter.unusedSimpArgs false

namespace Go.Proofs.Q
open Go.Sy
set_option maxRecDepth 4000
theorem zbc : ∀ {a_x : GMk} {a_e : Int} {zG : Nat} {zY : Vt} {r : GMk}, zaL a_x a_e = some r → Ctr Tryd.prog 100 [ptrv zG (Fld.id (GMod × Vh × Int)), isv (a_e)] [boxE zG ((a_x.m, (Vh.mk zY a_x.l.length), a_x.e) : (GMod × Vh × Int)), vecE zY (a_x.l : List GTyp)] (fun R H => R = oneOf [] ∧ H = [boxE zG ((r.m, (Vh.mk zY r.l.length), r.e)), vecE zY (r.l)]) := by
 intro a_x a_e zG zY r h
 unfold zaL at h
 refine zw Tryd.func100 rfl fun w0 S0 hT => wsr (oM rfl (oV (zp rfl) (oV (z8 rfl zcf zdd) (oT (zI (R := isv (a_x.e)) ty31 rfl .here hI (oV (zam rfl rfl) (rnf (zf h rfl (fun _ h => ?_) (fun _ h => ?_)))))))))
 ·refine zj (oM rfl (oM rfl (oV (zp rfl) (oV (z8 rfl zcf zdd) (oT (zi (y' := ((a_x.m, (Vh.mk zY a_x.l.length), a_e) : (GMod × Vh × Int))) ty31 rfl rfl hI .here rfl (zx (zao .nil k2 ?_))))))))
  cases h
  exact ⟨rfl, rfl⟩
 refine zW (zao .nil k2 ?_)
 cases h
 exact ⟨rfl, rfl⟩


theorem zhS : ∀ {zca : Int} {r : Tag}, zcK zca = some r → Ctr Tryd.prog 101 [isv (zca)] [] (fun R H => R = oneOf [isv (r)] ∧ H = []) := by
 intro zca r h
 unfold zcK at h
 refine zw Tryd.func101 rfl fun w0 S0 hT => wsr (oT (zab _ ze57 fun b1 => rnf (zn (wsr (oM rfl (rnf (zu ?_)))))))
 refine wsr (oV (zam rfl rfl) (oA rfl (rnf (zf h rfl (fun _ h => ?_) (fun _ h => ?_)))))
 ·refine wsr (oV (zax (z := (Tag.mk (0 : Int) (1 : Int))) rfl bu57 ze57 (.cons Tag.f1 zeE rfl hI .nil)) (oT (zi (y' := ((Tag.mk (0 : Int) (1 : Int)) : Tag)) ty57 rfl rfl hI .here rfl (rnf (zN (zD (zB ?_)))))))
  cases h
  exact zo (.cell rfl .here ty57 .nil) .nil ⟨rfl, rfl⟩
 refine wsr (oV (zam rfl rfl) (oA rfl (rnf (zf h rfl (fun _ h => ?_) (fun _ h => ?_)))))
 ·refine wsr (oV (zax (z := (Tag.mk (0 : Int) (2 : Int))) rfl bu57 ze57 (.cons Tag.f1 zeE rfl hI .nil)) (oT (zi (y' := ((Tag.mk (0 : Int) (2 : Int)) : Tag)) ty57 rfl rfl hI .here rfl (rnf (zN (zD (zB ?_)))))))
  cases h
  exact zo (.cell rfl .here ty57 .nil) .nil ⟨rfl, rfl⟩
 refine wsr (oV (zam rfl rfl) (oA rfl (rnf (zf h rfl (fun _ h => ?_) (fun _ h => ?_)))))
 ·refine wsr (oV (zax (z := (Tag.mk (0 : Int) (4 : Int))) rfl bu57 ze57 (.cons Tag.f1 zeE rfl hI .nil)) (oT (zi (y' := ((Tag.mk (0 : Int) (4 : Int)) : Tag)) ty57 rfl rfl hI .here rfl (rnf (zN (zD (zB ?_)))))))
  cases h
  exact zo (.cell rfl .here ty57 .nil) .nil ⟨rfl, rfl⟩
 refine wsr (oV (zam rfl rfl) (oA rfl (rnf (zf h rfl (fun _ h => ?_) (fun _ h => ?_)))))
 ·refine wsr (oV (zax (z := (Tag.mk (0 : Int) (5 : Int))) rfl bu57 ze57 (.cons Tag.f1 zeE rfl hI .nil)) (oT (zi (y' := ((Tag.mk (0 : Int) (5 : Int)) : Tag)) ty57 rfl rfl hI .here rfl (rnf (zN (zD (zB ?_)))))))
  cases h
  exact zo (.cell rfl .here ty57 .nil) .nil ⟨rfl, rfl⟩
 refine wsr (oV (zam rfl rfl) (oA rfl (rnf (zf h rfl (fun _ h => ?_) (fun _ h => ?_)))))
 ·refine wsr (oV (zax (z := (Tag.mk (0 : Int) (10 : Int))) rfl bu57 ze57 (.cons Tag.f1 zeE rfl hI .nil)) (oT (zi (y' := ((Tag.mk (0 : Int) (10 : Int)) : Tag)) ty57 rfl rfl hI .here rfl (rnf (zN (zD (zB ?_)))))))
  cases h
  exact zo (.cell rfl .here ty57 .nil) .nil ⟨rfl, rfl⟩
 refine wsr (oV (zam rfl rfl) (oA rfl (rnf (zf h rfl (fun _ h => ?_) (fun _ h => ?_)))))
 ·refine wsr (oV (zax (z := (Tag.mk (0 : Int) (12 : Int))) rfl bu57 ze57 (.cons Tag.f1 zeE rfl hI .nil)) (oT (zi (y' := ((Tag.mk (0 : Int) (12 : Int)) : Tag)) ty57 rfl rfl hI .here rfl (rnf (zN (zD (zB ?_)))))))
  cases h
  exact zo (.cell rfl .here ty57 .nil) .nil ⟨rfl, rfl⟩
 refine zn (wsr (oV (zam rfl rfl) (oA rfl (rnf (zdg (jb 22) je .nil h (fun q2 g2 h => ?_) (fun J3 h hJ3 => ?_))))))
 ·refine zf h rfl (fun _ h => ?_) (fun _ h => ?_)
  ·refine wsr (oV (zax (z := (Tag.mk (0 : Int) (16 : Int))) rfl bu57 ze57 (.cons Tag.f1 zeE rfl hI .nil)) (oT (zi (y' := ((Tag.mk (0 : Int) (16 : Int)) : Tag)) ty57 rfl rfl hI .here rfl (rnf (zN (zD (zB ?_)))))))
   cases h
   exact zo (.cell rfl .here ty57 .nil) .nil ⟨rfl, rfl⟩
  refine wsr (oV (zam rfl rfl) (oA rfl (rnf (zf h rfl (fun _ h => ?_) (fun _ h => ?_)))))
  ·refine wsr (oV (zax (z := (Tag.mk (0 : Int) (17 : Int))) rfl bu57 ze57 (.cons Tag.f1 zeE rfl hI .nil)) (oT (zi (y' := ((Tag.mk (0 : Int) (17 : Int)) : Tag)) ty57 rfl rfl hI .here rfl (rnf (zN (zD (zB ?_)))))))
   cases h
   exact zo (.cell rfl .here ty57 .nil) .nil ⟨rfl, rfl⟩
  refine zW (zk (zA (wsr (oV (zax (z := (Tag.mk (0 : Int) (0 : Int))) rfl bu57 ze57 .nil) (oT (zi (y' := ((Tag.mk (0 : Int) (0 : Int)) : Tag)) ty57 rfl rfl hI .here rfl (rnf (zN ?_))))))))
  cases h
  exact zo (.cell rfl .here ty57 .nil) .nil ⟨rfl, rfl⟩
 refine zf h rfl (fun _ h => ?_) (fun _ h => ?_)
 ·exact zW (hJ3 _ () h _ (jk 0 22 rfl rfl rfl))
 exact zj (oV (zam rfl rfl) (oA rfl (zx (hJ3 _ () h _ (jk 2 22 rfl rfl rfl)))))


theorem zkY : ∀ {a_c : GCon} {zih : Bool} {r : Int}, zeo a_c zih = some r → Ctr Tryd.prog 102 [isv (a_c), isv (zih)] [] (fun R H => R = oneOf [isv (r)] ∧ H = []) := by
 intro a_c zih r h
 unfold zeo at h
 refine zw Tryd.func102 rfl fun w0 S0 hT => wsr (oT (zbI (y := a_c) rfl hI (oA rfl (rnf (zn (wsr (oV (zac rfl GCon.f0 zlL rfl (z := a_c.has)) (oV (zg ty4 rfl) ?_))))))))
 refine oV (zbL rfl) (rnf (zf h rfl (fun _ h => ?_) (fun _ h => ?_)))
 ·refine wsr (oA rfl (rnf (zN (zB ?_))))
  cases h
  exact zo (.tmp rfl .nil) .nil ⟨rfl, rfl⟩
 refine wkf (zn (wsr (oV (zac rfl GCon.f1 ziq rfl (z := a_c.hasLow)) (oV (zg ty4 rfl) (oM rfl (zaz (jb 13) je .nil h 3 rfl (fun q1 g1 h => ?_) (fun J2 h hJ2 => ?_)))))))
 ·refine oM rfl (zaz (jb 20) je .nil h 6 rfl (fun q4 g4 h => ?_) (fun J5 h hJ5 => ?_))
  ·refine rnf (zf h rfl (fun _ h => ?_) (fun _ h => ?_))
   ·refine wsr (oA rfl (rnf (zN (zB ?_))))
    cases h
    exact zo (.tmp rfl .nil) .nil ⟨rfl, rfl⟩
   refine wkf (zn (wsr (oM rfl (oM rfl (zaz (jb 50) je .nil h 28 rfl (fun q7 g7 h => ?_) (fun J8 h hJ8 => ?_))))))
   ·refine rnf (zf h rfl (fun _ h => ?_) (fun _ h => ?_))
    ·refine wsr (oA rfl (rnf (zN (zB ?_))))
     cases h
     exact zo (.tmp rfl .nil) .nil ⟨rfl, rfl⟩
    refine wkf (wsr (oA rfl (rnf (zN ?_))))
    cases h
    exact zo (.tmp rfl .nil) .nil ⟨rfl, rfl⟩
   refine zC (j := 22) h rfl (fun g9 h => ?_) (fun g9 h => ?_)
   ·refine oK 22 rfl rfl rfl g9 (zac rfl GCon.f1 ziq rfl (z := a_c.hasLow)) (oK 22 rfl rfl rfl g9 (zg ty4 rfl) (oK 22 rfl rfl rfl g9 (zbL rfl) (oK 22 rfl rfl rfl g9 (zq rfl) (zaz (jb 30) je .nil h 4 rfl (fun q10 g10 h => ?_) (fun J11 h hJ11 => ?_)))))
    ·refine oK 22 rfl rfl rfl g9 (zq rfl) (zaz (jb 35) je .nil h 4 rfl (fun q13 g13 h => ?_) (fun J14 h hJ14 => ?_))
     ·refine oK 22 rfl rfl rfl g9 (zq rfl) (zaz (jb 49) je .nil h 13 rfl (fun q16 g16 h => ?_) (fun J17 h hJ17 => ?_))
      ·exact oV (zr rfl g9 rfl) (hJ8 _ () h _ (ji 10 50 rfl rfl rfl))
      refine zC (j := 36) h rfl (fun g18 h => ?_) (fun g18 h => ?_)
      ·refine oP 36 rfl rfl g18 (oP 36 rfl rfl g18 (oP 36 rfl rfl g18 (zz rfl (dj := 39) rfl (zz rfl (dj := 39) rfl (zz rfl (dj := 39) rfl (zz rfl (dj := 39) rfl (zz rfl (dj := 43) rfl (zz rfl (dj := 43) rfl ?_))))))))
       exact zz rfl (dj := 43) rfl (zz rfl (dj := 39) rfl (oP 36 rfl rfl g18 (oK 22 rfl rfl rfl g9 (zr rfl g18 rfl) (hJ17 _ () h _ (ji 13 49 rfl rfl rfl)))))
      refine oK 36 rfl rfl rfl g18 (zac rfl GCon.f2 zij rfl (z := a_c.hasHigh)) (oK 36 rfl rfl rfl g18 (zg ty4 rfl) (oK 36 rfl rfl rfl g18 (zq rfl) (zaz (jb 48) je .nil h 9 rfl (fun q19 g19 h => ?_) (fun J20 h hJ20 => ?_))))
      ·exact oK 22 rfl rfl rfl g9 (zs rfl g18 rfl) (hJ17 _ () h _ (ji 5 49 rfl rfl rfl))
      refine zC (j := 39) h rfl (fun g21 h => ?_) (fun g21 h => ?_)
      ·refine oK 39 rfl rfl rfl g21 (zac rfl GCon.f5 zho rfl (z := a_c.high)) (oK 39 rfl rfl rfl g21 (zg ty2 rfl) (oK 39 rfl rfl rfl g21 (zal rfl rfl) (oK 39 rfl rfl rfl g21 (zq rfl) (zaz (jb 47) je .nil h 4 rfl (fun q22 g22 h => ?_) (fun J23 h hJ23 => ?_)))))
       ·exact oK 36 rfl rfl rfl g18 (zr rfl g21 rfl) (hJ20 _ () h _ (ji 6 48 rfl rfl rfl))
       refine zC (j := 43) h rfl (fun g24 h => ?_) (fun g24 h => ?_)
       ·exact oP 43 rfl rfl g24 (oP 43 rfl rfl g24 (oP 43 rfl rfl g24 (oK 39 rfl rfl rfl g21 (zr rfl g24 rfl) (hJ23 _ () h _ (ji 4 47 rfl rfl rfl)))))
       exact oK 43 rfl rfl rfl g24 (zac rfl GCon.f5 zho rfl (z := a_c.high)) (oK 43 rfl rfl rfl g24 (zg ty2 rfl) (oK 43 rfl rfl rfl g24 (zbY rfl rfl) (oK 39 rfl rfl rfl g21 (zs rfl g24 rfl) (hJ23 _ () h _ (ji 4 47 rfl rfl rfl)))))
      refine oP 39 rfl rfl g21 (oP 39 rfl rfl g21 (oP 39 rfl rfl g21 (oP 39 rfl rfl g21 (zz rfl (dj := 43) rfl (zz rfl (dj := 43) rfl (zz rfl (dj := 43) rfl (oP 39 rfl rfl g21 (oK 36 rfl rfl rfl g18 (zs rfl g21 rfl) ?_))))))))
      exact hJ20 _ () h _ (ji 9 48 rfl rfl rfl)
     refine zC (j := 31) h rfl (fun g15 h => ?_) (fun g15 h => ?_)
     ·exact oP 31 rfl rfl g15 (oP 31 rfl rfl g15 (oP 31 rfl rfl g15 (oK 22 rfl rfl rfl g9 (zr rfl g15 rfl) (hJ14 _ () h _ (ji 4 35 rfl rfl rfl)))))
     exact oK 31 rfl rfl rfl g15 (zac rfl GCon.f4 zhv rfl (z := a_c.low)) (oK 31 rfl rfl rfl g15 (zg ty2 rfl) (oK 31 rfl rfl rfl g15 (zbY rfl rfl) (oK 22 rfl rfl rfl g9 (zs rfl g15 rfl) (hJ14 _ () h _ (ji 4 35 rfl rfl rfl)))))
    refine zC (j := 26) h rfl (fun g12 h => ?_) (fun g12 h => ?_)
    ·exact oP 26 rfl rfl g12 (oP 26 rfl rfl g12 (oP 26 rfl rfl g12 (oK 22 rfl rfl rfl g9 (zr rfl g12 rfl) (hJ11 _ () h _ (ji 4 30 rfl rfl rfl)))))
    exact oK 26 rfl rfl rfl g12 (zac rfl GCon.f4 zhv rfl (z := a_c.low)) (oK 26 rfl rfl rfl g12 (zg ty2 rfl) (oK 26 rfl rfl rfl g12 (zal rfl rfl) (oK 22 rfl rfl rfl g9 (zs rfl g12 rfl) (hJ11 _ () h _ (ji 4 30 rfl rfl rfl)))))
   refine oP 22 rfl rfl g9 (oP 22 rfl rfl g9 (oP 22 rfl rfl g9 (oP 22 rfl rfl g9 (zz rfl (dj := 26) rfl (zz rfl (dj := 26) rfl (zz rfl (dj := 26) rfl (oP 22 rfl rfl g9 (oP 22 rfl rfl g9 ?_))))))))
   refine zz rfl (dj := 31) rfl (zz rfl (dj := 31) rfl (zz rfl (dj := 31) rfl (oP 22 rfl rfl g9 (oP 22 rfl rfl g9 (zz rfl (dj := 36) rfl (zz rfl (dj := 36) rfl (zz rfl (dj := 36) rfl (zz rfl (dj := 39) rfl ?_))))))))
   refine zz rfl (dj := 39) rfl (zz rfl (dj := 39) rfl (zz rfl (dj := 39) rfl (zz rfl (dj := 43) rfl (zz rfl (dj := 43) rfl (zz rfl (dj := 43) rfl (zz rfl (dj := 39) rfl (zz rfl (dj := 36) rfl (oP 22 rfl rfl g9 ?_))))))))
   exact oV (zs rfl g9 rfl) (hJ8 _ () h _ (ji 28 50 rfl rfl rfl))
  refine zC (j := 14) h rfl (fun g6 h => ?_) (fun g6 h => ?_)
  ·exact oK 14 rfl rfl rfl g6 (zac rfl GCon.f4 zhv rfl (z := a_c.low)) (oK 14 rfl rfl rfl g6 (zg ty2 rfl) (oK 14 rfl rfl rfl g6 (zac rfl GCon.f5 zho rfl (z := a_c.high)) (oK 14 rfl rfl rfl g6 (zg ty2 rfl) (oK 14 rfl rfl rfl g6 (zbY rfl rfl) (oV (zr rfl g6 rfl) (hJ5 _ () h _ (ji 6 20 rfl rfl rfl)))))))
  exact oP 14 rfl rfl g6 (oP 14 rfl rfl g6 (oP 14 rfl rfl g6 (oP 14 rfl rfl g6 (oP 14 rfl rfl g6 (oV (zs rfl g6 rfl) (hJ5 _ () h _ (ji 6 20 rfl rfl rfl)))))))
 refine zC (j := 10) h rfl (fun g3 h => ?_) (fun g3 h => ?_)
 ·exact oK 10 rfl rfl rfl g3 (zac rfl GCon.f2 zij rfl (z := a_c.hasHigh)) (oK 10 rfl rfl rfl g3 (zg ty4 rfl) (oV (zr rfl g3 rfl) (hJ2 _ () h _ (ji 3 13 rfl rfl rfl))))
 exact oP 10 rfl rfl g3 (oP 10 rfl rfl g3 (oV (zs rfl g3 rfl) (hJ2 _ () h _ (ji 3 13 rfl rfl rfl))))


theorem zkl : ∀ {a_l : (List GItem)} {a_v : Int} {r : Bool}, zfc a_l a_v = some r → Ctr Tryd.prog 112 [isv (a_l), isv (a_v)] [] (fun R H => R = oneOf [isv (r)] ∧ H = []) := by
 intro a_l a_v r h
 unfold zfc at h
 refine zw Tryd.func112 rfl fun w0 S0 hT => wsr (oA rfl (rnf (zn (wsr (oA rfl (rnf (zu ?_)))))))
 refine zbg (ι := Int) (γ := Unit) (fun q1 g1 => [(5, isv (q1))]) (fun q1 g1 => []) h () (za (j := 5) rfl hI zd) .nil (fun L2 q1 g1 Q15 h hL2 eL2 rL2 => zn (wsr (oM rfl (oM rfl (oV (za6 (l := a_l) rfl hI sl51) (oV (zal rfl rfl) (rnf (zf h rfl (fun _ h => ?_) (fun _ h => ?_)))))))))
 ·refine wkf (zn (zu (wsr (oM rfl (oM rfl (zb h fun y9 hy9 h => oV (zaK (l := a_l) rfl hI rfl sl51 hy9) (oV (zac rfl GItem.f2 zhn rfl (z := y9.has)) ?_)))))))
  refine oV (zg ty4 rfl) (oM rfl (zaz (jb 25) je .nil h 8 rfl (fun q10 g10 h => ?_) (fun J11 h hJ11 => ?_)))
  ·refine rnf (zf h rfl (fun _ h => ?_) (fun _ h => ?_))
   ·refine wsr (oA rfl (rnf (zN (zD (zB (rL2 _ (zD (zB ?_))))))))
    cases h
    exact zo (.tmp rfl .nil) .nil ⟨rfl, rfl⟩
   refine zW (zk (zA (zj (oM rfl (zE h fun q14 h => oV (zaf rfl rfl q14) (oA rfl (zx ?_)))))))
   exact hL2 _ () h _ (ji 15 5 rfl rfl rfl)
  refine zC (j := 17) h rfl (fun g12 h => ?_) (fun g12 h => ?_)
  ·refine oK 17 rfl rfl rfl g12 (zq rfl) (oK 17 rfl rfl rfl g12 (zq rfl) (zb h fun y13 hy13 h => oK 17 rfl rfl rfl g12 (zaK (l := a_l) rfl hI rfl sl51 hy13) (oK 17 rfl rfl rfl g12 (zac rfl GItem.f1 zdN rfl (z := y13.number)) (oK 17 rfl rfl rfl g12 (zg ty2 rfl) (oK 17 rfl rfl rfl g12 (zq rfl) (oK 17 rfl rfl rfl g12 (zam rfl rfl) (oV (zr rfl g12 rfl) ?_)))))))
   exact hJ11 _ () h _ (ji 8 25 rfl rfl rfl)
  exact oP 17 rfl rfl g12 (oP 17 rfl rfl g12 (oP 17 rfl rfl g12 (oP 17 rfl rfl g12 (oP 17 rfl rfl g12 (oP 17 rfl rfl g12 (oP 17 rfl rfl g12 (oV (zs rfl g12 rfl) (hJ11 _ () h _ (ji 8 25 rfl rfl rfl)))))))))
 refine zah (zX (eL2 _ _ (zK (zA (wsr (oA rfl (rnf (zN ?_))))))))
 cases h
 exact zo (.tmp rfl .nil) .nil ⟨rfl, rfl⟩


theorem zeO : ∀ {a_x : GMk} {a_n_ : GNode} {zG : Nat} {zY : Vt} {r : (List GItem) × GMk}, zcd a_x a_n_ = some r → Ctr Tryd.prog 103 [ptrv zG (Fld.id (GMod × Vh × Int)), isv (a_n_)] [boxE zG ((a_x.m, (Vh.mk zY a_x.l.length), a_x.e) : (GMod × Vh × Int)), vecE zY (a_x.l : List GTyp)] (fun R H => R = oneOf [isv (r.1)] ∧ H = [boxE zG ((r.2.m, (Vh.mk zY r.2.l.length), r.2.e)), vecE zY (r.2.l)]) := by
 intro a_x a_n_ zG zY r h
 unfold zcd at h
 refine zw Tryd.func103 rfl fun w0 S0 hT => wsr (oT (zbI (y := a_n_) rfl hI (oA rfl (rnf (wsr (oA rfl (rnf (wsr ?_))))))))
 refine oA rfl (rnf (zn (wsr (oA rfl (rnf (zu (zfF (zbf) (zbg (ι := (List GItem) × Int × Int) (γ := Tok) (fun q2 g2 => [(5, appv g2 (q2.1)), (6, isv (q2.2.1)), (7, isv (q2.2.2))]) (fun q2 g2 => [tokE g2]) h (none) (za (j := 5) rfl zbF (za (j := 6) rfl hI (za (j := 7) rfl hI zd))) k1 (fun L3 q2 g2 Q666 h hL3 eL3 rL3 => ?_)))))))))
 refine zn (wsr (oM rfl (oV (zac rfl GNode.f6 zeM rfl (z := a_n_.root)) (oV (zg ty3 rfl) (oV (zal rfl rfl) (rnf (zf h rfl (fun _ h => ?_) (fun _ h => ?_))))))))
 ·refine wkf (zn (zu (wsr (oV (zac rfl GNode.f4 zd3 rfl (z := a_n_.items)) (oV (zg ty51 rfl) (oM rfl (zb h fun y335 hy335 h => oV (zaK (l := a_n_.items) rfl hI rfl sl51 hy335) ?_)))))))
  refine oV (zg ty67 rfl) (oT (zab _ ze67 fun b336 => oT (zi (y' := (y335 : GItem)) ty67 rfl rfl hI .here rfl (rnf (zn (wsr (oV (z8 rfl GItem.f2 zhn) (oT (zI (R := isv (y335.has)) ty4 rfl .here hI (oV (zbL rfl) ?_))))))))))
  refine rnf (zdg (ι := Int × GItem) (γ := Unit) (fun q337 g337 => [(6, isv (q337.1))]) (fun q337 g337 => [boxE b336 (q337.2 : GItem)]) k1 h (fun q337 g337 h => ?_) (fun J338 h hJ338 => ?_))
  ·refine wsr (oV (z8 rfl GItem.f2 zhn) (oT (zi (y' := ({ q337.2 with has := false } : GItem)) ty4 rfl rfl hI .here rfl (rnf (zj (oM rfl (oT (zI (R := isv ({ q337.2 with has := false })) ty67 rfl .here hI (oT (zS (l := ([{ q337.2 with has := false }] : (List GItem))) el51 (.cons rfl hI .nil) rfl rfl (zad h fun q352 h => ?_)))))))))))
   refine oT (zbA (l := q2.1) (m := ([{ q337.2 with has := false }] : (List GItem))) zhT rfl hI rfl zJ tH q352 fun t351 => oA rfl (zx (zk (zA (zj (oM rfl (zE h fun q353 h => oV (zaf rfl rfl q353) ?_)))))))
   exact oA rfl (zx (hL3 _ (t351) h _ (ze 26 rfl rfl (za (j := 5) rfl hI (za (j := 6) rfl hI (za (j := 7) rfl hI zd))) (.cons .here (.cons tH (.cons tH .nil))))))
  refine zf h rfl (fun _ h => ?_) (fun _ h => ?_)
  ·refine zn (zu (zbg (ι := Int) (γ := Unit) (fun q339 g339 => [(6, isv (q339))]) (fun q339 g339 => []) h () (za (j := 6) rfl hI zd) .nil (fun L340 q339 g339 Q349 h hL340 eL340 rL340 => zn (wsr (oV (zac rfl GNode.f4 zd3 rfl (z := a_n_.items)) (oV (zg ty51 rfl) (oV (zac rfl GNode.f6 zeM rfl (z := a_n_.root)) (oV (zg ty3 rfl) ?_))))))))
   refine zV h fun q345 h => oV (zfJ (l := a_n_.items) rfl hI sl51 (.inl ⟨rfl, rfl⟩) (.inr ⟨_, rfl, rfl⟩) q345.1 q345.2.1 q345.2.2) (oM rfl (zb h fun y346 hy346 h => oT (zy (zkl hy346) hT (s2 rfl rfl) .nil (rnf (zf h rfl (fun _ h => ?_) (fun _ h => ?_))))))
   ·refine wkf (zu (zj (oM rfl (zE h fun q347 h => oV (zaf rfl rfl q347) (oA rfl (zx (zk ?_)))))))
    exact hL340 _ () h _ (ze 11 rfl rfl (za (j := 6) rfl hI zd) k4)
   refine zah (zX (eL340 _ _ (zK (zA (wsr (oM rfl (oV (z8 rfl GItem.f1 zdN) (oT (zi (y' := ({ y335 with number := q339 } : GItem)) ty2 rfl rfl hI .here rfl ?_)))))))))
   exact rnf (zj (oM rfl (zE h fun q348 h => oV (zaf rfl rfl q348) (oA rfl (zx (hJ338 _ () h _ (ze 13 rfl rfl (za (j := 6) rfl hI zd) k4)))))))
  exact zW (hJ338 _ () h _ (ze 0 rfl rfl (za (j := 6) rfl hI zd) k4))
 refine zah (zX (eL3 _ _ (zK (zA (wsr (oA rfl (rnf (wsr ?_))))))))
 refine oA rfl (oA rfl (rnf (zn (wsr (oV (zac rfl GNode.f6 zeM rfl (z := a_n_.root)) (oV (zg ty3 rfl) (oA rfl (rnf ?_))))))))
 refine zu (zbg (ι := (List GItem) × Int × Bool × Bool × Int) (γ := Tok) (fun q354 g354 => [(5, appv g354 (q354.1)), (9, isv (q354.2.1)), (10, isv (q354.2.2.1)), (11, isv (q354.2.2.2.1)), (12, isv (q354.2.2.2.2))]) (fun q354 g354 => [tokE g354]) h (g2) (za (j := 5) rfl hI (za (j := 9) rfl hI (za (j := 10) rfl hI (za (j := 11) rfl hI (za (j := 12) rfl hI zd))))) k1 (fun L355 q354 g354 Q664 h hL355 eL355 rL355 => zn (wsr (oM rfl (oV (zac rfl GNode.f4 zd3 rfl (z := a_n_.items)) (oV (zg ty51 rfl) (oV (za6 (l := a_n_.items) rfl hI sl51) (oV (zal rfl rfl) ?_))))))))
 refine rnf (zf h rfl (fun _ h => ?_) (fun _ h => ?_))
 ·refine wkf (zn (zu (wsr (oV (zac rfl GNode.f4 zd3 rfl (z := a_n_.items)) (oV (zg ty51 rfl) (oM rfl (zb h fun y558 hy558 h => oV (zaK (l := a_n_.items) rfl hI rfl sl51 hy558) ?_)))))))
  refine oV (zg ty67 rfl) (oT (zab _ ze67 fun b559 => oT (zi (y' := (y558 : GItem)) ty67 rfl rfl hI .here rfl (rnf (zn (wsr (oV (z8 rfl GItem.f2 zhn) (oT (zI (R := isv (y558.has)) ty4 rfl .here hI (oV (zbL rfl) ?_))))))))))
  refine rnf (zdg (ι := GItem) (γ := Unit) (fun q560 g560 => [(13, ptrv b559 (Fld.id GItem))]) (fun q560 g560 => [boxE b559 (q560 : GItem)]) k1 h (fun q560 g560 h => ?_) (fun J561 h hJ561 => ?_))
  ·refine wsr (oM rfl (oM rfl (zaz (jb 109) je .nil h 8 rfl (fun q591 g591 h => ?_) (fun J592 h hJ592 => ?_))))
   ·refine oA rfl (rnf (wsr (oV (z8 rfl GItem.f2 zhn) (oT (zi (y' := ({ q560 with has := false } : GItem)) ty4 rfl rfl hI .here rfl (rnf (wsr (oV (z8 rfl GItem.f1 zdN) (oT (zI (R := isv (q560.number)) ty2 rfl .here hI ?_))))))))))
    refine oA rfl (oA rfl (rnf (zj (oM rfl (oT (zI (R := isv ({ q560 with has := false })) ty67 rfl .here hI (oT (zS (l := ([{ q560 with has := false }] : (List GItem))) el51 (.cons rfl hI .nil) rfl rfl (zad h fun q599 h => oT (zbA (l := q354.1) (m := ([{ q560 with has := false }] : (List GItem))) zhT rfl hI rfl zJ tH q599 fun t598 => ?_))))))))))
    refine oA rfl (zx (zk (zA (zj (oM rfl (zE h fun q600 h => oV (zaf rfl rfl q600) (oA rfl ?_)))))))
    exact zx (hL355 _ (t598) h _ (ze 37 rfl rfl (za (j := 5) rfl hI (za (j := 9) rfl hI (za (j := 10) rfl hI (za (j := 11) rfl hI (za (j := 12) rfl hI zd))))) (.cons .here (.cons tH (.cons tH .nil)))))
   refine zC (j := 101) h rfl (fun g593 h => ?_) (fun g593 h => ?_)
   ·exact oP 101 rfl rfl g593 (oP 101 rfl rfl g593 (zz rfl (dj := 103) rfl (zz rfl (dj := 103) rfl (zz rfl (dj := 103) rfl (zz rfl (dj := 103) rfl (oP 101 rfl rfl g593 (oV (zr rfl g593 rfl) (hJ592 _ () h _ (ze 8 rfl rfl (za (j := 109) rfl hI zd) k4)))))))))
   refine oK 101 rfl rfl rfl g593 (zq rfl) (oK 101 rfl rfl rfl g593 (zq rfl) (zaz (jb 108) je .nil h 5 rfl (fun q594 g594 h => ?_) (fun J595 h hJ595 => ?_)))
   ·exact oV (zs rfl g593 rfl) (hJ592 _ () h _ (ze 4 rfl rfl (za (j := 109) rfl hI zd) k4))
   refine zC (j := 103) h rfl (fun g596 h => ?_) (fun g596 h => ?_)
   ·exact oK 103 rfl rfl rfl g596 (z8 rfl GItem.f1 zdN) (zaA rfl rfl (dj := 103) rfl g596 (zI (R := isv (q560.number)) ty2 rfl .here hI (oK 103 rfl rfl rfl g596 (zq rfl) (oK 103 rfl rfl rfl g596 (zi0 rfl rfl) (oK 101 rfl rfl rfl g593 (zr rfl g596 rfl) (hJ595 _ () h _ (ze 5 rfl rfl (za (j := 108) rfl hI zd) k4)))))))
   exact oP 103 rfl rfl g596 (oP 103 rfl rfl g596 (oP 103 rfl rfl g596 (oP 103 rfl rfl g596 (oK 101 rfl rfl rfl g593 (zs rfl g596 rfl) (hJ595 _ () h _ (ze 5 rfl rfl (za (j := 108) rfl hI zd) k4))))))
  refine zf h rfl (fun _ h => ?_) (fun _ h => ?_)
  ·refine wsr (oV (z8 rfl GItem.f1 zdN) (oT (zi (y' := ({ y558 with number := (0 : Int) } : GItem)) ty2 rfl rfl hI .here rfl (rnf (wsr (oA rfl (rnf (zu (zbg (ι := Int × GItem) (γ := Unit) (fun q562 g562 => [(13, ptrv b559 (Fld.id GItem)), (14, isv (q562.1))]) (fun q562 g562 => [boxE b559 (q562.2 : GItem)]) h () (za (j := 13) rfl hI (za (j := 14) rfl hI zd)) k1 (fun L563 q562 g562 Q590 h hL563 eL563 rL563 => ?_))))))))))
   refine zn (wsr (oM rfl (oM rfl (oV (za6 (l := q354.1) rfl zJ sl51) (oV (zal rfl rfl) (rnf (zf h rfl (fun _ h => ?_) (fun _ h => ?_))))))))
   ·refine wkf (zn (zdg (ι := GItem) (γ := Unit) (fun q577 g577 => [(13, ptrv b559 (Fld.id GItem))]) (fun q577 g577 => [boxE b559 (q577 : GItem)]) k1 h (fun q577 g577 h => ?_) (fun J578 h hJ578 => ?_)))
    ·exact zj (oM rfl (zE h fun q589 h => oV (zaf rfl rfl q589) (oA rfl (zx (hL563 _ () h _ (ze 10 rfl rfl (za (j := 13) rfl hI (za (j := 14) rfl hI zd)) k4))))))
    refine zu (zn (wsr (oM rfl (oM rfl (zb h fun y579 hy579 h => oV (zaK (l := q354.1) rfl zJ rfl sl51 hy579) (oV (zac rfl GItem.f1 zdN rfl (z := y579.number)) (oV (zg ty2 rfl) ?_)))))))
    refine oV (zam rfl rfl) (rnf (zf h rfl (fun _ h => ?_) (fun _ h => ?_)))
    ·refine wsr (oM rfl (zb h fun y580 hy580 h => oT (zy (zbc hy580) hT (s2 rfl rfl) (.cons tI (.cons tI .nil)) (rnf (wsr (oA rfl (rnf (zN ?_))))))))
     refine zB (zD (zB (rL563 _ (zD (zB (zD (zB (rL355 _ ?_))))))))
     refine zD (zB ?_)
     cases h
     exact zo (.as rfl (zdB (α := GItem)) .nil) k2 ⟨rfl, rfl⟩
    refine wkf (zn (zcR 13 .here rfl (fun o581 hn582 => zU (.v 0 (.v 1 (.v 2 (.v 3 (.v 4 (.v 5 (.v 6 (.v 7 (.v 8 (.v 9 (.v 10 (.v 11 .nil)))))))))))) moOrd (by kernel_rfl) ?_)))
    refine rvm rfl rfl (zt rfl (zam rfl rfl) (rvm rfl rfl (zc9 (jb 92) je .nil h 9 rfl (fun q583 g583 h => ?_) (fun J584 h hJ584 => ?_))))
    ·refine zae (zaU 13 hn582 rfl (zA (zf h rfl (fun _ h => ?_) (fun _ h => ?_))))
     ·refine zj (oM rfl (oM rfl (zb h fun y587 hy587 h => oV (zaK (l := q354.1) rfl zJ rfl sl51 hy587) (oV (zac rfl GItem.f1 zdN rfl (z := y587.number)) (oV (zg ty2 rfl) (zE h fun q588 h => oV (zaf rfl rfl q588) ?_))))))
      exact oV (z8 rfl GItem.f1 zdN) (oT (zi (y' := ({ q562.2 with number := (y587.number + (1 : Int)) } : GItem)) ty2 rfl rfl hI .here rfl (zx (zk (hJ578 _ () h _ (ze 19 rfl rfl (za (j := 13) rfl hI zd) k4))))))
     exact zW (zk (hJ578 _ () h _ (ze 12 rfl rfl (za (j := 13) rfl hI zd) k4)))
    refine zaF (j := 83) h rfl (fun g585 h => ?_) (fun g585 h => ?_)
    ·refine rpv 83 rfl rfl rfl g585 (rpv 83 rfl rfl rfl g585 (rpv 83 rfl rfl rfl g585 (rpv 83 rfl rfl rfl g585 (rpv 83 rfl rfl rfl g585 (rpv 83 rfl rfl rfl g585 (rpv 83 rfl rfl rfl g585 (rpv 83 rfl rfl rfl g585 (zt rfl (zr rfl g585 rfl) ?_))))))))
     exact hJ584 _ () h _ (ze 9 rfl rfl (za (j := 92) rfl hI zd) k3)
    refine rvt 83 rfl rfl rfl g585 (zq rfl) (rvt 83 rfl rfl rfl g585 (zq rfl) (zb h fun y586 hy586 h => rvt 83 rfl rfl rfl g585 (zaK (l := q354.1) rfl zJ rfl sl51 hy586) (rvt 83 rfl rfl rfl g585 (zac rfl GItem.f1 zdN rfl (z := y586.number)) (rvt 83 rfl rfl rfl g585 (zg ty2 rfl) (rvt 83 rfl rfl rfl g585 (zfe rfl GItem.f1 zdN) (rvt 83 rfl rfl rfl g585 (zc1 (R := isv (q562.2.number)) ty2 rfl (List.Mem.head _) hI) (rvt 83 rfl rfl rfl g585 (zeN rfl rfl) ?_)))))))
    exact zt rfl (zs rfl g585 rfl) (hJ584 _ () h _ (ze 9 rfl rfl (za (j := 92) rfl hI zd) k3))
   exact zah (zX (eL563 _ _ (zK (hJ561 _ () h _ (ze 8 rfl rfl (za (j := 13) rfl hI zd) k4)))))
  exact zW (hJ561 _ () h _ (ze 0 rfl rfl (za (j := 13) rfl hI zd) k4))
 refine zah (zX (eL355 _ _ (zK (zA (zn (wsr (oA rfl (rnf ?_))))))))
 refine zu (zbg (ι := Bool × Int) (γ := Unit) (fun q601 g601 => [(11, isv (q601.1)), (15, isv (q601.2))]) (fun q601 g601 => []) h () (za (j := 11) rfl hI (za (j := 15) rfl hI zd)) .nil (fun L602 q601 g601 Q663 h hL602 eL602 rL602 => zn (wsr (oM rfl (oM rfl (oV (za6 (l := q354.1) rfl zJ sl51) (oV (zal rfl rfl) (rnf ?_))))))))
 refine zf h rfl (fun _ h => ?_) (fun _ h => ?_)
 ·refine wkf (zn (zu (wsr (oA rfl (rnf (zu (zbg (ι := Bool × Int) (γ := Unit) (fun q633 g633 => [(11, isv (q633.1)), (16, isv (q633.2))]) (fun q633 g633 => []) h () (za (j := 11) rfl hI (za (j := 16) rfl hI zd)) .nil (fun L634 q633 g633 Q659 h hL634 eL634 rL634 => zn ?_))))))))
  refine wsr (oM rfl (oM rfl (oV (zal rfl rfl) (rnf (zf h rfl (fun _ h => ?_) (fun _ h => ?_))))))
  ·refine wkf (zn (zu (zU (.v 0 (.v 1 (.v 2 (.v 3 (.v 4 (.v 5 (.v 6 (.v 7 (.v 8 (.v 9 (.v 10 (.v 11 (.v 12 (.v 13 (.v 14 (.v 15 (.v 16 (.v 17 (.v 18 (.v 19 (.v 20 (.v 21 (.v 22 (.v 23 (.v 24 (.v 25 (.v 26 (.v 27 .nil)))))))))))))))))))))))))))) moOrd (by kernel_rfl) ?_)))
   refine rvm rfl rfl (rvm rfl rfl (zc9 (jb 141) je .nil h 12 rfl (fun q647 g647 h => ?_) (fun J648 h hJ648 => ?_)))
   ·refine rvm rfl rfl (zc9 (jb 154) je .nil h 12 rfl (fun q652 g652 h => ?_) (fun J653 h hJ653 => ?_))
    ·refine zt rfl (za8 rfl) (zae (zk (zA (zj (oM rfl (zE h fun q657 h => oV (zaf rfl rfl q657) (oA rfl ?_)))))))
     exact zx (hL634 _ () h _ (ze 14 rfl rfl (za (j := 11) rfl hI (za (j := 16) rfl hI zd)) k3))
    refine zaF (j := 142) h rfl (fun g654 h => ?_) (fun g654 h => ?_)
    ·refine rpv 142 rfl rfl rfl g654 (rpv 142 rfl rfl rfl g654 (rpv 142 rfl rfl rfl g654 (rpv 142 rfl rfl rfl g654 (rpv 142 rfl rfl rfl g654 (rpv 142 rfl rfl rfl g654 (rpv 142 rfl rfl rfl g654 (rpv 142 rfl rfl rfl g654 (rpv 142 rfl rfl rfl g654 ?_))))))))
     exact rpv 142 rfl rfl rfl g654 (rpv 142 rfl rfl rfl g654 (zt rfl (zr rfl g654 rfl) (hJ653 _ () h _ (ze 12 rfl rfl (za (j := 154) rfl hI zd) k3))))
    refine rvt 142 rfl rfl rfl g654 (zq rfl) (rvt 142 rfl rfl rfl g654 (zq rfl) (zb h fun y655 hy655 h => rvt 142 rfl rfl rfl g654 (zaK (l := q354.1) rfl zJ rfl sl51 hy655) (rvt 142 rfl rfl rfl g654 (zac rfl GItem.f1 zdN rfl (z := y655.number)) (rvt 142 rfl rfl rfl g654 (zg ty2 rfl) (rvt 142 rfl rfl rfl g654 (zq rfl) (rvt 142 rfl rfl rfl g654 (zq rfl) (zb h fun y656 hy656 h => ?_)))))))
    exact rvt 142 rfl rfl rfl g654 (zaK (l := q354.1) rfl zJ rfl sl51 hy656) (rvt 142 rfl rfl rfl g654 (zac rfl GItem.f1 zdN rfl (z := y656.number)) (rvt 142 rfl rfl rfl g654 (zg ty2 rfl) (rvt 142 rfl rfl rfl g654 (zam rfl rfl) (zt rfl (zs rfl g654 rfl) (hJ653 _ () h _ (ze 12 rfl rfl (za (j := 154) rfl hI zd) k3))))))
   refine zaF (j := 129) h rfl (fun g649 h => ?_) (fun g649 h => ?_)
   ·refine rpv 129 rfl rfl rfl g649 (rpv 129 rfl rfl rfl g649 (rpv 129 rfl rfl rfl g649 (rpv 129 rfl rfl rfl g649 (rpv 129 rfl rfl rfl g649 (rpv 129 rfl rfl rfl g649 (rpv 129 rfl rfl rfl g649 (rpv 129 rfl rfl rfl g649 (rpv 129 rfl rfl rfl g649 ?_))))))))
    exact rpv 129 rfl rfl rfl g649 (rpv 129 rfl rfl rfl g649 (zt rfl (zr rfl g649 rfl) (hJ648 _ () h _ (ze 12 rfl rfl (za (j := 141) rfl hI zd) k3))))
   refine rvt 129 rfl rfl rfl g649 (zq rfl) (rvt 129 rfl rfl rfl g649 (zq rfl) (zb h fun y650 hy650 h => rvt 129 rfl rfl rfl g649 (zaK (l := q354.1) rfl zJ rfl sl51 hy650) (rvt 129 rfl rfl rfl g649 (zac rfl GItem.f0 zjL rfl (z := y650.name)) (rvt 129 rfl rfl rfl g649 (zg ty9 rfl) (rvt 129 rfl rfl rfl g649 (zq rfl) (rvt 129 rfl rfl rfl g649 (zq rfl) (zb h fun y651 hy651 h => ?_)))))))
   exact rvt 129 rfl rfl rfl g649 (zaK (l := q354.1) rfl zJ rfl sl51 hy651) (rvt 129 rfl rfl rfl g649 (zac rfl GItem.f0 zjL rfl (z := y651.name)) (rvt 129 rfl rfl rfl g649 (zg ty9 rfl) (rvt 129 rfl rfl rfl g649 (zcx eq9 rfl rfl) (zt rfl (zs rfl g649 rfl) (hJ648 _ () h _ (ze 12 rfl rfl (za (j := 141) rfl hI zd) k3))))))
  refine zah (zX (eL634 _ _ (zK (zk (zA (zj (oM rfl (zE h fun q658 h => ?_))))))))
  exact oV (zaf rfl rfl q658) (oA rfl (zx (hL602 _ () h _ (ze 15 rfl rfl (za (j := 11) rfl hI (za (j := 15) rfl hI zd)) k3))))
 refine zah (zX (eL602 _ _ (zK (zA (zn (wsr (oM rfl (rnf ?_))))))))
 refine zdg (ι := GMk) (γ := Unit) (fun q660 g660 => []) (fun q660 g660 => [boxE zG ((q660.m, (Vh.mk zY q660.l.length), q660.e) : (GMod × Vh × Int)), vecE zY (q660.l : List GTyp)]) (.cons tH (.cons tH .nil)) h (fun q660 g660 h => ?_) (fun J661 h hJ661 => ?_)
 ·refine wsr (oM rfl (oA rfl (rnf (zN ?_))))
  cases h
  exact zo (.as rfl zJ .nil) k2 ⟨rfl, rfl⟩
 refine zf h rfl (fun _ h => ?_) (fun _ h => ?_)
 ·exact zj (oM rfl (zb h fun y662 hy662 h => oT (zy (zbc hy662) hT (s2 rfl rfl) (.cons tH (.cons tH .nil)) (zx (hJ661 _ () h _ (ze 2 rfl rfl zd k3))))))
 exact zW (hJ661 _ () h _ (ze 0 rfl rfl zd (.cons tH (.cons tH k1))))


theorem zg4 : ∀ {a_c : GCon} {a_v : Int} {r : Bool}, zd1 a_c a_v = some r → Ctr Tryd.prog 117 [isv (a_c), isv (a_v)] [] (fun R H => R = oneOf [isv (r)] ∧ H = []) := by
 intro a_c a_v r h
 unfold zd1 at h
 refine zw Tryd.func117 rfl fun w0 S0 hT => wsr (oT (zbI (y := a_c) rfl hI (oA rfl (rnf (wsr (oV (zac rfl GCon.f0 zlL rfl (z := a_c.has)) (oV (zg ty4 rfl) (oV (zbL rfl) ?_))))))))
 refine oM rfl (zaz (jb 29) je .nil h 21 rfl (fun q1 g1 h => ?_) (fun J2 h hJ2 => ?_))
 ·refine oA rfl (rnf (zN ?_))
  cases h
  exact zo (.tmp rfl .nil) .nil ⟨rfl, rfl⟩
 refine zC (j := 8) h rfl (fun g3 h => ?_) (fun g3 h => ?_)
 ·refine oP 8 rfl rfl g3 (oP 8 rfl rfl g3 (oP 8 rfl rfl g3 (oP 8 rfl rfl g3 (zz rfl (dj := 12) rfl (zz rfl (dj := 12) rfl (zz rfl (dj := 12) rfl (zz rfl (dj := 12) rfl (oP 8 rfl rfl g3 ?_))))))))
  refine oP 8 rfl rfl g3 (zz rfl (dj := 18) rfl (zz rfl (dj := 18) rfl (zz rfl (dj := 18) rfl (zz rfl (dj := 18) rfl (zz rfl (dj := 22) rfl (zz rfl (dj := 22) rfl (zz rfl (dj := 22) rfl (zz rfl (dj := 22) rfl ?_))))))))
  exact zz rfl (dj := 18) rfl (oP 8 rfl rfl g3 (oV (zr rfl g3 rfl) (hJ2 _ () h _ (ji 21 29 rfl rfl rfl))))
 refine oK 8 rfl rfl rfl g3 (zac rfl GCon.f1 ziq rfl (z := a_c.hasLow)) (oK 8 rfl rfl rfl g3 (zg ty4 rfl) (oK 8 rfl rfl rfl g3 (zbL rfl) (oK 8 rfl rfl rfl g3 (zq rfl) (zaz (jb 17) je .nil h 5 rfl (fun q4 g4 h => ?_) (fun J5 h hJ5 => ?_)))))
 ·refine oK 8 rfl rfl rfl g3 (zq rfl) (zaz (jb 28) je .nil h 10 rfl (fun q7 g7 h => ?_) (fun J8 h hJ8 => ?_))
  ·exact oV (zs rfl g3 rfl) (hJ2 _ () h _ (ji 8 29 rfl rfl rfl))
  refine zC (j := 18) h rfl (fun g9 h => ?_) (fun g9 h => ?_)
  ·refine oK 18 rfl rfl rfl g9 (zac rfl GCon.f2 zij rfl (z := a_c.hasHigh)) (oK 18 rfl rfl rfl g9 (zg ty4 rfl) (oK 18 rfl rfl rfl g9 (zbL rfl) (oK 18 rfl rfl rfl g9 (zq rfl) (zaz (jb 27) je .nil h 5 rfl (fun q10 g10 h => ?_) (fun J11 h hJ11 => ?_)))))
   ·exact oK 8 rfl rfl rfl g3 (zr rfl g9 rfl) (hJ8 _ () h _ (ji 6 28 rfl rfl rfl))
   refine zC (j := 22) h rfl (fun g12 h => ?_) (fun g12 h => ?_)
   ·exact oP 22 rfl rfl g12 (oP 22 rfl rfl g12 (oP 22 rfl rfl g12 (oP 22 rfl rfl g12 (oK 18 rfl rfl rfl g9 (zr rfl g12 rfl) (hJ11 _ () h _ (ji 5 27 rfl rfl rfl))))))
   exact oK 22 rfl rfl rfl g12 (zq rfl) (oK 22 rfl rfl rfl g12 (zac rfl GCon.f5 zho rfl (z := a_c.high)) (oK 22 rfl rfl rfl g12 (zg ty2 rfl) (oK 22 rfl rfl rfl g12 (zi0 rfl rfl) (oK 18 rfl rfl rfl g9 (zs rfl g12 rfl) (hJ11 _ () h _ (ji 5 27 rfl rfl rfl))))))
  refine oP 18 rfl rfl g9 (oP 18 rfl rfl g9 (oP 18 rfl rfl g9 (oP 18 rfl rfl g9 (zz rfl (dj := 22) rfl (zz rfl (dj := 22) rfl (zz rfl (dj := 22) rfl (zz rfl (dj := 22) rfl (oP 18 rfl rfl g9 ?_))))))))
  exact oK 8 rfl rfl rfl g3 (zs rfl g9 rfl) (hJ8 _ () h _ (ji 10 28 rfl rfl rfl))
 refine zC (j := 12) h rfl (fun g6 h => ?_) (fun g6 h => ?_)
 ·exact oP 12 rfl rfl g6 (oP 12 rfl rfl g6 (oP 12 rfl rfl g6 (oP 12 rfl rfl g6 (oK 8 rfl rfl rfl g3 (zr rfl g6 rfl) (hJ5 _ () h _ (ji 5 17 rfl rfl rfl))))))
 exact oK 12 rfl rfl rfl g6 (zq rfl) (oK 12 rfl rfl rfl g6 (zac rfl GCon.f4 zhv rfl (z := a_c.low)) (oK 12 rfl rfl rfl g6 (zg ty2 rfl) (oK 12 rfl rfl rfl g6 (zeN rfl rfl) (oK 8 rfl rfl rfl g3 (zs rfl g6 rfl) (hJ5 _ () h _ (ji 5 17 rfl rfl rfl))))))


theorem zbx : ∀ {a_s : (List UInt8)} {r : UInt64}, zaY a_s = some r → Ctr Tryd.prog 123 [isv (a_s)] [] (fun R H => R = oneOf [isv (r)] ∧ H = []) := by
 intro a_s r h
 unfold zaY at h
 refine zw Tryd.func123 rfl fun w0 S0 hT => wsr (oA rfl (rnf (zn (znT rfl rfl (wkf (zn (zU (.v 0 (.v 1 (.v 2 (.v 3 (.v 4 (.v 5 (.v 6 (.v 7 (.v 8 (.v 9 (.v 10 (.v 11 (.v 12 (.v 13 (.v 14 (.v 15 (.v 16 (.v 17 (.v 18 (.v 19 (.v 20 (.v 21 (.v 22 (.v 23 (.v 24 (.v 25 (.v 26 (.v 27 (.v 28 (.v 29 (.v 30 (.v 31 (.v 32 (.v 33 (.v 34 (.v 35 (.v 36 (.v 37 (.v 38 (.v 39 (.v 40 (.v 41 (.v 42 (.v 43 (.v 44 (.v 45 (.v 46 .nil))))))))))))))))))))))))))))))))))))))))))))))) moOrd (by kernel_rfl) ?_)))))))
 refine rvm rfl rfl (zb h fun y1 hy1 h => zt rfl (zaK (l := a_s) rfl hI rfl sl59 hy1) (zt rfl (zg ty5 rfl) (zt rfl (zd4 Tryd.underlying5 Tryd.underlying26 rfl) (rvm rfl rfl (zb h fun y2 hy2 h => zt rfl (zaK (l := a_s) rfl hI rfl sl59 hy2) (zt rfl (zg ty5 rfl) ?_))))))
 refine zt rfl (zd4 Tryd.underlying5 Tryd.underlying26 rfl) (zad h fun q3 h => zt rfl (zfk rfl rfl q3) (zt rfl (zeD rfl rfl) (rvm rfl rfl (zb h fun y4 hy4 h => zt rfl (zaK (l := a_s) rfl hI rfl sl59 hy4) (zt rfl (zg ty5 rfl) (zt rfl (zd4 Tryd.underlying5 Tryd.underlying26 rfl) ?_))))))
 refine zad h fun q5 h => zt rfl (zfk rfl rfl q5) (zt rfl (zeD rfl rfl) (rvm rfl rfl (zb h fun y6 hy6 h => zt rfl (zaK (l := a_s) rfl hI rfl sl59 hy6) (zt rfl (zg ty5 rfl) (zt rfl (zd4 Tryd.underlying5 Tryd.underlying26 rfl) (zad h fun q7 h => ?_))))))
 refine zt rfl (zfk rfl rfl q7) (zt rfl (zeD rfl rfl) (rvm rfl rfl (zb h fun y8 hy8 h => zt rfl (zaK (l := a_s) rfl hI rfl sl59 hy8) (zt rfl (zg ty5 rfl) (zt rfl (zd4 Tryd.underlying5 Tryd.underlying26 rfl) (zad h fun q9 h => zt rfl (zfk rfl rfl q9) ?_))))))
 refine zt rfl (zeD rfl rfl) (rvm rfl rfl (zb h fun y10 hy10 h => zt rfl (zaK (l := a_s) rfl hI rfl sl59 hy10) (zt rfl (zg ty5 rfl) (zt rfl (zd4 Tryd.underlying5 Tryd.underlying26 rfl) (zad h fun q11 h => zt rfl (zfk rfl rfl q11) (zt rfl (zeD rfl rfl) ?_))))))
 refine rvm rfl rfl (zb h fun y12 hy12 h => zt rfl (zaK (l := a_s) rfl hI rfl sl59 hy12) (zt rfl (zg ty5 rfl) (zt rfl (zd4 Tryd.underlying5 Tryd.underlying26 rfl) (zad h fun q13 h => zt rfl (zfk rfl rfl q13) (zt rfl (zeD rfl rfl) (rvm rfl rfl ?_))))))
 refine zb h fun y14 hy14 h => zt rfl (zaK (l := a_s) rfl hI rfl sl59 hy14) (zt rfl (zg ty5 rfl) (zt rfl (zd4 Tryd.underlying5 Tryd.underlying26 rfl) (zad h fun q15 h => zt rfl (zfk rfl rfl q15) (zt rfl (zeD rfl rfl) (zt rfl (za8 rfl) (zae ?_))))))
 refine zA (zN ?_)
 cases h
 exact zo (.tmp rfl .nil) .nil ⟨rfl, rfl⟩


theorem zjN : ∀ {a_p : (List UInt8)} {r : Bool}, zeF a_p = some r → Ctr Tryd.prog 118 [isv (a_p)] [] (fun R H => R = oneOf [isv (r)] ∧ H = []) := by
 intro a_p r h
 unfold zeF at h
 refine zw Tryd.func118 rfl fun w0 S0 hT => wsr (oA rfl (rnf (wsr (oM rfl (oM rfl (oV (za6 (l := a_p) rfl hI sl59) (oM rfl ?_)))))))
 refine oV (za6 (l := a_p) rfl hI sl59) (zV h fun q1 h => oV (zp0 (l := a_p) rfl hI sl59 rfl rfl q1.1 q1.2) (oA rfl (rnf (zn (zu (zbg (ι := (List UInt8)) (γ := Unit) (fun q2 g2 => [(0, isv (q2))]) (fun q2 g2 => []) h () (za (j := 0) rfl hI zd) .nil (fun L3 q2 g2 Q194 h hL3 eL3 rL3 => zn ?_)))))))
 refine wsr (oM rfl (oV (za6 (l := q2) rfl hI sl59) (oV (zbY rfl rfl) (rnf (zf h rfl (fun _ h => ?_) (fun _ h => ?_))))))
 ·refine wkf (zu (wsr (oM rfl (zb h fun y99 hy99 h => oV (zaK (l := q2) rfl hI rfl sl59 hy99) (oV (zg ty5 rfl) (oA rfl (rnf ?_)))))))
  refine zn (wsr (oM rfl (oV (zd2 rfl rfl) (rnf (zf h rfl (fun _ h => ?_) (fun _ h => ?_))))))
  ·refine wsr (oM rfl (zV h fun q100 h => oV (zfJ (l := q2) rfl hI sl59 (.inr ⟨_, rfl, rfl⟩) (.inl ⟨rfl, rfl⟩) q100.1 q100.2.1 q100.2.2) (oA rfl (rnf (zn (wsr (oM rfl ?_)))))))
   refine oV (za6 (l := ((q2.take ((q2.length : Int)).toNat).drop ((1 : Int)).toNat)) rfl hI sl59) (oV (zbY rfl rfl) (oM rfl (zaz (jb 31) je .nil h 5 rfl (fun q101 g101 h => ?_) (fun J102 h hJ102 => ?_))))
   ·refine rnf (zdg (ι := (List UInt8)) (γ := Unit) (fun q105 g105 => [(0, isv (q105))]) (fun q105 g105 => []) .nil h (fun q105 g105 h => ?_) (fun J106 h hJ106 => ?_))
    ·exact zah (zX (zK (hL3 _ () h _ (ji 19 0 rfl rfl rfl))))
    refine zf h rfl (fun _ h => ?_) (fun _ h => ?_)
    ·refine wsr (oM rfl (zV h fun q107 h => oV (zfJ (l := ((q2.take ((q2.length : Int)).toNat).drop ((1 : Int)).toNat)) rfl hI sl59 (.inr ⟨_, rfl, rfl⟩) (.inl ⟨rfl, rfl⟩) q107.1 q107.2.1 q107.2.2) (oA rfl (rnf (zn (zU (.v 0 (.v 1 (.v 2 (.v 3 (.v 4 (.v 6 (.v 7 (.t 5 (.t 8 (.v 9 (.v 10 (.v 11 (.v 12 .nil))))))))))))) moOrd (by kernel_rfl) ?_))))))
     refine rvm rfl rfl (zt rfl (za6 (l := ((((q2.take ((q2.length : Int)).toNat).drop ((1 : Int)).toNat).take ((((q2.take ((q2.length : Int)).toNat).drop ((1 : Int)).toNat).length : Int)).toNat).drop ((8 : Int)).toNat)) rfl hI sl59) (zt rfl (zbY rfl rfl) (rvm rfl rfl (zc9 (jb 46) je .nil h 9 rfl (fun q108 g108 h => ?_) (fun J109 h hJ109 => ?_)))))
     ·refine zae (zA (zf h rfl (fun _ h => ?_) (fun _ h => ?_)))
      ·refine wsr (oM rfl (zV h fun q114 h => oV (zfJ (l := ((((q2.take ((q2.length : Int)).toNat).drop ((1 : Int)).toNat).take ((((q2.take ((q2.length : Int)).toNat).drop ((1 : Int)).toNat).length : Int)).toNat).drop ((8 : Int)).toNat)) rfl hI sl59 (.inr ⟨_, rfl, rfl⟩) (.inl ⟨rfl, rfl⟩) q114.1 q114.2.1 q114.2.2) (oA rfl (rnf (zu (zbg (ι := (List UInt8)) (γ := Unit) (fun q115 g115 => [(0, isv (q115))]) (fun q115 g115 => []) h () (za (j := 0) rfl hI zd) .nil (fun L116 q115 g115 Q139 h hL116 eL116 rL116 => zn ?_)))))))
       refine zn (zU (.v 0 (.v 1 (.v 2 (.v 3 (.v 4 (.v 6 (.v 7 (.v 10 (.v 11 (.v 13 (.v 14 (.t 5 (.t 8 (.v 9 (.t 12 (.t 15 (.v 16 (.v 17 (.v 18 (.v 19 (.v 20 .nil))))))))))))))))))))) moOrd (by kernel_rfl) ?_)
       refine rvm rfl rfl (zt rfl (za6 (l := q115) rfl hI sl59) (zt rfl (zbY rfl rfl) (rvm rfl rfl (zc9 (jb 69) je .nil h 17 rfl (fun q128 g128 h => ?_) (fun J129 h hJ129 => ?_)))))
       ·refine zae (zA (zf h rfl (fun _ h => ?_) (fun _ h => ?_)))
        ·refine wkf (zu (zj (oM rfl (zV h fun q138 h => oV (zfJ (l := q115) rfl hI sl59 (.inr ⟨_, rfl, rfl⟩) (.inl ⟨rfl, rfl⟩) q138.1 q138.2.1 q138.2.2) (oA rfl (zx (zk ?_)))))))
         exact hL116 _ () h _ (ji 9 0 rfl rfl rfl)
        exact zah (zX (eL116 _ _ (zK (hJ106 _ () h _ (ji 17 0 rfl rfl rfl)))))
       refine zaF (j := 52) h rfl (fun g130 h => ?_) (fun g130 h => ?_)
       ·refine rvt 52 rfl rfl rfl g130 (zq rfl) (rvt 52 rfl rfl rfl g130 (zq rfl) (zV h fun q131 h => rvt 52 rfl rfl rfl g130 (zfJ (l := q115) rfl hI sl59 (.inr ⟨_, rfl, rfl⟩) (.inl ⟨rfl, rfl⟩) q131.1 q131.2.1 q131.2.2) (rvt 52 rfl rfl rfl g130 (zq rfl) (zV h fun q132 h => rvt 52 rfl rfl rfl g130 (zfJ (l := q115) rfl hI sl59 (.inr ⟨_, rfl, rfl⟩) (.inl ⟨rfl, rfl⟩) q132.1 q132.2.1 q132.2.2) (rvt 52 rfl rfl rfl g130 (zq rfl) (zV h fun q133 h => ?_))))))
        refine rvt 52 rfl rfl rfl g130 (zfJ (l := q115) rfl hI sl59 (.inr ⟨_, rfl, rfl⟩) (.inl ⟨rfl, rfl⟩) q133.1 q133.2.1 q133.2.2) (zb h fun y134 hy134 h => zg0 rfl rfl rfl (dj := 52) rfl g130 (zy (zbx hy134) hT (s1 rfl) .nil (zb h fun y135 hy135 h => zg0 rfl rfl rfl (dj := 52) rfl g130 (zy (zbx hy135) hT (s1 rfl) .nil (rvt 52 rfl rfl rfl g130 (zeD rfl rfl) (zb h fun y136 hy136 h => zg0 rfl rfl rfl (dj := 52) rfl g130 (zy (zbx hy136) hT (s1 rfl) .nil (zb h fun y137 hy137 h => ?_))))))))
        exact zg0 rfl rfl rfl (dj := 52) rfl g130 (zy (zbx hy137) hT (s1 rfl) .nil (rvt 52 rfl rfl rfl g130 (zeD rfl rfl) (rvt 52 rfl rfl rfl g130 (zeD rfl rfl) (rvt 52 rfl rfl rfl g130 (zkb rfl rfl) (rvt 52 rfl rfl rfl g130 (zh1 rfl rfl) (zt rfl (zr rfl g130 rfl) (hJ129 _ () h _ (ji 17 69 rfl rfl rfl))))))))
       refine rpv 52 rfl rfl rfl g130 (rpv 52 rfl rfl rfl g130 (rpv 52 rfl rfl rfl g130 (rpv 52 rfl rfl rfl g130 (rpv 52 rfl rfl rfl g130 (rpv 52 rfl rfl rfl g130 (rpv 52 rfl rfl rfl g130 (zdx rfl rfl (dj := 52) rfl g130 (zdx rfl rfl (dj := 52) rfl g130 ?_))))))))
       exact rpv 52 rfl rfl rfl g130 (zdx rfl rfl (dj := 52) rfl g130 (zdx rfl rfl (dj := 52) rfl g130 (rpv 52 rfl rfl rfl g130 (rpv 52 rfl rfl rfl g130 (rpv 52 rfl rfl rfl g130 (rpv 52 rfl rfl rfl g130 (zt rfl (zs rfl g130 rfl) (hJ129 _ () h _ (ji 17 69 rfl rfl rfl)))))))))
      exact zW (hJ106 _ () h _ (ji 8 0 rfl rfl rfl))
     refine zaF (j := 37) h rfl (fun g110 h => ?_) (fun g110 h => ?_)
     ·refine rvt 37 rfl rfl rfl g110 (zq rfl) (rvt 37 rfl rfl rfl g110 (zq rfl) (zV h fun q111 h => rvt 37 rfl rfl rfl g110 (zfJ (l := ((((q2.take ((q2.length : Int)).toNat).drop ((1 : Int)).toNat).take ((((q2.take ((q2.length : Int)).toNat).drop ((1 : Int)).toNat).length : Int)).toNat).drop ((8 : Int)).toNat)) rfl hI sl59 (.inr ⟨_, rfl, rfl⟩) (.inl ⟨rfl, rfl⟩) q111.1 q111.2.1 q111.2.2) (zb h fun y112 hy112 h => zg0 rfl rfl rfl (dj := 37) rfl g110 (zy (zbx hy112) hT (s1 rfl) .nil (zb h fun y113 hy113 h => zg0 rfl rfl rfl (dj := 37) rfl g110 (zy (zbx hy113) hT (s1 rfl) .nil (rvt 37 rfl rfl rfl g110 (zeD rfl rfl) ?_)))))))
      exact rvt 37 rfl rfl rfl g110 (zkb rfl rfl) (rvt 37 rfl rfl rfl g110 (zh1 rfl rfl) (zt rfl (zr rfl g110 rfl) (hJ109 _ () h _ (ji 9 46 rfl rfl rfl))))
     refine rpv 37 rfl rfl rfl g110 (rpv 37 rfl rfl rfl g110 (rpv 37 rfl rfl rfl g110 (zdx rfl rfl (dj := 37) rfl g110 (zdx rfl rfl (dj := 37) rfl g110 (rpv 37 rfl rfl rfl g110 (rpv 37 rfl rfl rfl g110 (rpv 37 rfl rfl rfl g110 (zt rfl (zs rfl g110 rfl) ?_))))))))
     exact hJ109 _ () h _ (ji 9 46 rfl rfl rfl)
    exact zW (hJ106 _ () h _ (ji 0 0 rfl rfl rfl))
   refine zC (j := 26) h rfl (fun g103 h => ?_) (fun g103 h => ?_)
   ·exact oK 26 rfl rfl rfl g103 (zq rfl) (zb h fun y104 hy104 h => zaA rfl rfl (dj := 26) rfl g103 (zy (zbx hy104) hT (s1 rfl) .nil (oK 26 rfl rfl rfl g103 (zkb rfl rfl) (oK 26 rfl rfl rfl g103 (zh1 rfl rfl) (oV (zr rfl g103 rfl) (hJ102 _ () h _ (ji 5 31 rfl rfl rfl)))))))
   exact oP 26 rfl rfl g103 (oP 26 rfl rfl g103 (oP 26 rfl rfl g103 (oP 26 rfl rfl g103 (oV (zs rfl g103 rfl) (hJ102 _ () h _ (ji 5 31 rfl rfl rfl))))))
  refine wkf (wsr (oM rfl (oV (zqe zkt ar164 rfl) (oV (zp2 hT ty5 rfl _ zfI) (oA rfl (rnf (wsr (oM rfl ?_))))))))
  refine oV (zpL rfl rfl) (oV (zpW Tryd.underlying5 Tryd.underlying3 rfl) (oA rfl (rnf (wsr (oM rfl (zad h fun q140 h => oV (zpu rfl rfl q140) (zad h fun q141 h => ?_)))))))
  refine oV (zqk zfI ar167 rfl q141) (oV (zpS hT ty166 rfl q141 _ zkt) (oT (zab _ ze166 fun b142 => oT (zi (y' := ((tab2 (shr8 (tab1 y99) (4 : UInt64).toNat)) : GAcc)) ty166 rfl rfl hI .here rfl (zai (zas 6 .here rfl) (rnf (wsr (oM rfl (rnf ?_)))))))))
  refine zu (wsr (oV (zam rfl rfl) (oA rfl (rnf (zf h rfl (fun _ h => ?_) (fun _ h => ?_))))))
  ·refine zn (zn (zU (.v 0 (.v 1 (.v 2 (.v 3 (.v 4 (.v 5 (.v 6 (.v 7 (.v 8 (.v 9 (.v 10 (.v 11 (.v 12 (.v 13 (.v 14 (.v 15 (.v 16 (.v 17 (.v 18 .nil))))))))))))))))))) moOrd (by kernel_rfl) ?_))
   refine rvm rfl rfl (zt rfl (za6 (l := q2) rfl hI sl59) (zt rfl (zal rfl rfl) (rvm rfl rfl (zc9 (jb 95) je .nil h 7 rfl (fun q143 g143 h => ?_) (fun J144 h hJ144 => ?_)))))
   ·refine rvm rfl rfl (zc9 (jb 103) je .nil h 7 rfl (fun q147 g147 h => ?_) (fun J148 h hJ148 => ?_))
    ·refine zae (zA (zf h rfl (fun _ h => ?_) (fun _ h => ?_)))
     ·refine wsr (oA rfl (rnf (zN (zB (zD (zD (rL3 _ (zD ?_))))))))
      refine zB ?_
      cases h
      exact zo (.tmp rfl .nil) .nil ⟨rfl, rfl⟩
     refine wkf (zj (oM rfl (zV h fun q151 h => oV (zfJ (l := q2) rfl hI sl59 (.inr ⟨_, rfl, rfl⟩) (.inl ⟨rfl, rfl⟩) q151.1 q151.2.1 q151.2.2) (oA rfl (zx (zk (zk ?_)))))))
     exact hL3 _ () h _ (ji 37 0 rfl rfl rfl)
    refine zaF (j := 96) h rfl (fun g149 h => ?_) (fun g149 h => ?_)
    ·exact rpv 96 rfl rfl rfl g149 (rpv 96 rfl rfl rfl g149 (rpv 96 rfl rfl rfl g149 (rpv 96 rfl rfl rfl g149 (rpv 96 rfl rfl rfl g149 (rpv 96 rfl rfl rfl g149 (zt rfl (zr rfl g149 rfl) (hJ148 _ () h _ (ji 7 103 rfl rfl rfl))))))))
    exact rvt 96 rfl rfl rfl g149 (zac rfl GAcc.f1 zke rfl (z := (tab2 (shr8 (tab1 y99) (4 : UInt64).toNat)).hi)) (rvt 96 rfl rfl rfl g149 (zg ty5 rfl) (rvt 96 rfl rfl rfl g149 (zq rfl) (zb h fun y150 hy150 h => rvt 96 rfl rfl rfl g149 (zaK (l := q2) rfl hI rfl sl59 hy150) (rvt 96 rfl rfl rfl g149 (zg ty5 rfl) (rvt 96 rfl rfl rfl g149 (zd2 rfl rfl) (zt rfl (zs rfl g149 rfl) (hJ148 _ () h _ (ji 7 103 rfl rfl rfl))))))))
   refine zaF (j := 88) h rfl (fun g145 h => ?_) (fun g145 h => ?_)
   ·exact rpv 88 rfl rfl rfl g145 (rpv 88 rfl rfl rfl g145 (rpv 88 rfl rfl rfl g145 (rpv 88 rfl rfl rfl g145 (rpv 88 rfl rfl rfl g145 (rpv 88 rfl rfl rfl g145 (zt rfl (zr rfl g145 rfl) (hJ144 _ () h _ (ji 7 95 rfl rfl rfl))))))))
   exact rvt 88 rfl rfl rfl g145 (zq rfl) (zb h fun y146 hy146 h => rvt 88 rfl rfl rfl g145 (zaK (l := q2) rfl hI rfl sl59 hy146) (rvt 88 rfl rfl rfl g145 (zg ty5 rfl) (rvt 88 rfl rfl rfl g145 (zac rfl GAcc.f0 zjU rfl (z := (tab2 (shr8 (tab1 y99) (4 : UInt64).toNat)).lo)) (rvt 88 rfl rfl rfl g145 (zg ty5 rfl) (rvt 88 rfl rfl rfl g145 (zd2 rfl rfl) (zt rfl (zs rfl g145 rfl) (hJ144 _ () h _ (ji 7 95 rfl rfl rfl))))))))
  refine wsr (oV (zam rfl rfl) (oA rfl (rnf (zf h rfl (fun _ h => ?_) (fun _ h => ?_)))))
  ·refine zn (zn (zU (.v 0 (.v 1 (.v 2 (.v 3 (.v 4 (.v 5 (.v 6 (.v 7 (.v 8 (.v 9 (.v 10 (.v 11 (.v 12 (.v 13 (.v 14 (.v 15 (.v 16 (.v 17 (.v 18 (.v 19 (.v 20 (.v 21 (.v 22 (.v 23 (.v 24 (.v 25 (.v 26 (.v 27 (.v 28 (.v 29 (.v 30 .nil))))))))))))))))))))))))))))))) moOrd (by kernel_rfl) ?_))
   refine rvm rfl rfl (zt rfl (za6 (l := q2) rfl hI sl59) (zt rfl (zal rfl rfl) (rvm rfl rfl (zc9 (jb 118) je .nil h 7 rfl (fun q152 g152 h => ?_) (fun J153 h hJ153 => ?_)))))
   ·refine rvm rfl rfl (zc9 (jb 126) je .nil h 7 rfl (fun q156 g156 h => ?_) (fun J157 h hJ157 => ?_))
    ·refine rvm rfl rfl (zc9 (jb 132) je .nil h 5 rfl (fun q160 g160 h => ?_) (fun J161 h hJ161 => ?_))
     ·refine rvm rfl rfl (zc9 (jb 138) je .nil h 5 rfl (fun q164 g164 h => ?_) (fun J165 h hJ165 => ?_))
      ·refine zae (zA (zf h rfl (fun _ h => ?_) (fun _ h => ?_)))
       ·refine wsr (oA rfl (rnf (zN (zB (zD (zD (rL3 _ (zD ?_))))))))
        refine zB ?_
        cases h
        exact zo (.tmp rfl .nil) .nil ⟨rfl, rfl⟩
       refine wkf (zj (oM rfl (zV h fun q168 h => oV (zfJ (l := q2) rfl hI sl59 (.inr ⟨_, rfl, rfl⟩) (.inl ⟨rfl, rfl⟩) q168.1 q168.2.1 q168.2.2) (oA rfl (zx (zk (zk ?_)))))))
       exact hL3 _ () h _ (ji 43 0 rfl rfl rfl)
      refine zaF (j := 133) h rfl (fun g166 h => ?_) (fun g166 h => ?_)
      ·exact rpv 133 rfl rfl rfl g166 (rpv 133 rfl rfl rfl g166 (rpv 133 rfl rfl rfl g166 (rpv 133 rfl rfl rfl g166 (zt rfl (zr rfl g166 rfl) (hJ165 _ () h _ (ji 5 138 rfl rfl rfl))))))
      exact rvt 133 rfl rfl rfl g166 (zq rfl) (zb h fun y167 hy167 h => rvt 133 rfl rfl rfl g166 (zaK (l := q2) rfl hI rfl sl59 hy167) (rvt 133 rfl rfl rfl g166 (zg ty5 rfl) (rvt 133 rfl rfl rfl g166 (zd2 rfl rfl) (zt rfl (zs rfl g166 rfl) (hJ165 _ () h _ (ji 5 138 rfl rfl rfl))))))
     refine zaF (j := 127) h rfl (fun g162 h => ?_) (fun g162 h => ?_)
     ·exact rpv 127 rfl rfl rfl g162 (rpv 127 rfl rfl rfl g162 (rpv 127 rfl rfl rfl g162 (rpv 127 rfl rfl rfl g162 (zt rfl (zr rfl g162 rfl) (hJ161 _ () h _ (ji 5 132 rfl rfl rfl))))))
     exact rvt 127 rfl rfl rfl g162 (zq rfl) (zb h fun y163 hy163 h => rvt 127 rfl rfl rfl g162 (zaK (l := q2) rfl hI rfl sl59 hy163) (rvt 127 rfl rfl rfl g162 (zg ty5 rfl) (rvt 127 rfl rfl rfl g162 (zd2 rfl rfl) (zt rfl (zs rfl g162 rfl) (hJ161 _ () h _ (ji 5 132 rfl rfl rfl))))))
    refine zaF (j := 119) h rfl (fun g158 h => ?_) (fun g158 h => ?_)
    ·exact rpv 119 rfl rfl rfl g158 (rpv 119 rfl rfl rfl g158 (rpv 119 rfl rfl rfl g158 (rpv 119 rfl rfl rfl g158 (rpv 119 rfl rfl rfl g158 (rpv 119 rfl rfl rfl g158 (zt rfl (zr rfl g158 rfl) (hJ157 _ () h _ (ji 7 126 rfl rfl rfl))))))))
    exact rvt 119 rfl rfl rfl g158 (zac rfl GAcc.f1 zke rfl (z := (tab2 (shr8 (tab1 y99) (4 : UInt64).toNat)).hi)) (rvt 119 rfl rfl rfl g158 (zg ty5 rfl) (rvt 119 rfl rfl rfl g158 (zq rfl) (zb h fun y159 hy159 h => rvt 119 rfl rfl rfl g158 (zaK (l := q2) rfl hI rfl sl59 hy159) (rvt 119 rfl rfl rfl g158 (zg ty5 rfl) (rvt 119 rfl rfl rfl g158 (zd2 rfl rfl) (zt rfl (zs rfl g158 rfl) (hJ157 _ () h _ (ji 7 126 rfl rfl rfl))))))))
   refine zaF (j := 111) h rfl (fun g154 h => ?_) (fun g154 h => ?_)
   ·exact rpv 111 rfl rfl rfl g154 (rpv 111 rfl rfl rfl g154 (rpv 111 rfl rfl rfl g154 (rpv 111 rfl rfl rfl g154 (rpv 111 rfl rfl rfl g154 (rpv 111 rfl rfl rfl g154 (zt rfl (zr rfl g154 rfl) (hJ153 _ () h _ (ji 7 118 rfl rfl rfl))))))))
   exact rvt 111 rfl rfl rfl g154 (zq rfl) (zb h fun y155 hy155 h => rvt 111 rfl rfl rfl g154 (zaK (l := q2) rfl hI rfl sl59 hy155) (rvt 111 rfl rfl rfl g154 (zg ty5 rfl) (rvt 111 rfl rfl rfl g154 (zac rfl GAcc.f0 zjU rfl (z := (tab2 (shr8 (tab1 y99) (4 : UInt64).toNat)).lo)) (rvt 111 rfl rfl rfl g154 (zg ty5 rfl) (rvt 111 rfl rfl rfl g154 (zd2 rfl rfl) (zt rfl (zs rfl g154 rfl) (hJ153 _ () h _ (ji 7 118 rfl rfl rfl))))))))
  refine wsr (oV (zam rfl rfl) (oA rfl (rnf (zf h rfl (fun _ h => ?_) (fun _ h => ?_)))))
  ·refine zn (zn (zU (.v 0 (.v 1 (.v 2 (.v 3 (.v 4 (.v 5 (.v 6 (.v 7 (.v 8 (.v 9 (.v 10 (.v 11 (.v 12 (.v 13 (.v 14 (.v 15 (.v 16 (.v 17 (.v 18 (.v 19 (.v 20 (.v 21 (.v 22 (.v 23 (.v 24 (.v 25 (.v 26 (.v 27 (.v 28 (.v 29 (.v 30 (.v 31 (.v 32 (.v 33 (.v 34 (.v 35 (.v 36 (.v 37 (.v 38 (.v 39 (.v 40 (.v 41 (.v 42 .nil))))))))))))))))))))))))))))))))))))))))))) moOrd (by kernel_rfl) ?_))
   refine rvm rfl rfl (zt rfl (za6 (l := q2) rfl hI sl59) (zt rfl (zal rfl rfl) (rvm rfl rfl (zc9 (jb 153) je .nil h 7 rfl (fun q169 g169 h => ?_) (fun J170 h hJ170 => ?_)))))
   ·refine rvm rfl rfl (zc9 (jb 161) je .nil h 7 rfl (fun q173 g173 h => ?_) (fun J174 h hJ174 => ?_))
    ·refine rvm rfl rfl (zc9 (jb 167) je .nil h 5 rfl (fun q177 g177 h => ?_) (fun J178 h hJ178 => ?_))
     ·refine rvm rfl rfl (zc9 (jb 173) je .nil h 5 rfl (fun q181 g181 h => ?_) (fun J182 h hJ182 => ?_))
      ·refine rvm rfl rfl (zc9 (jb 179) je .nil h 5 rfl (fun q185 g185 h => ?_) (fun J186 h hJ186 => ?_))
       ·refine rvm rfl rfl (zc9 (jb 185) je .nil h 5 rfl (fun q189 g189 h => ?_) (fun J190 h hJ190 => ?_))
        ·refine zae (zA (zf h rfl (fun _ h => ?_) (fun _ h => ?_)))
         ·refine wsr (oA rfl (rnf (zN (zB (zD (zD (rL3 _ (zD ?_))))))))
          refine zB ?_
          cases h
          exact zo (.tmp rfl .nil) .nil ⟨rfl, rfl⟩
         refine wkf (zj (oM rfl (zV h fun q193 h => oV (zfJ (l := q2) rfl hI sl59 (.inr ⟨_, rfl, rfl⟩) (.inl ⟨rfl, rfl⟩) q193.1 q193.2.1 q193.2.2) (oA rfl (zx (zk (zk ?_)))))))
         exact hL3 _ () h _ (ji 49 0 rfl rfl rfl)
        refine zaF (j := 180) h rfl (fun g191 h => ?_) (fun g191 h => ?_)
        ·exact rpv 180 rfl rfl rfl g191 (rpv 180 rfl rfl rfl g191 (rpv 180 rfl rfl rfl g191 (rpv 180 rfl rfl rfl g191 (zt rfl (zr rfl g191 rfl) (hJ190 _ () h _ (ji 5 185 rfl rfl rfl))))))
        exact rvt 180 rfl rfl rfl g191 (zq rfl) (zb h fun y192 hy192 h => rvt 180 rfl rfl rfl g191 (zaK (l := q2) rfl hI rfl sl59 hy192) (rvt 180 rfl rfl rfl g191 (zg ty5 rfl) (rvt 180 rfl rfl rfl g191 (zd2 rfl rfl) (zt rfl (zs rfl g191 rfl) (hJ190 _ () h _ (ji 5 185 rfl rfl rfl))))))
       refine zaF (j := 174) h rfl (fun g187 h => ?_) (fun g187 h => ?_)
       ·exact rpv 174 rfl rfl rfl g187 (rpv 174 rfl rfl rfl g187 (rpv 174 rfl rfl rfl g187 (rpv 174 rfl rfl rfl g187 (zt rfl (zr rfl g187 rfl) (hJ186 _ () h _ (ji 5 179 rfl rfl rfl))))))
       exact rvt 174 rfl rfl rfl g187 (zq rfl) (zb h fun y188 hy188 h => rvt 174 rfl rfl rfl g187 (zaK (l := q2) rfl hI rfl sl59 hy188) (rvt 174 rfl rfl rfl g187 (zg ty5 rfl) (rvt 174 rfl rfl rfl g187 (zd2 rfl rfl) (zt rfl (zs rfl g187 rfl) (hJ186 _ () h _ (ji 5 179 rfl rfl rfl))))))
      refine zaF (j := 168) h rfl (fun g183 h => ?_) (fun g183 h => ?_)
      ·exact rpv 168 rfl rfl rfl g183 (rpv 168 rfl rfl rfl g183 (rpv 168 rfl rfl rfl g183 (rpv 168 rfl rfl rfl g183 (zt rfl (zr rfl g183 rfl) (hJ182 _ () h _ (ji 5 173 rfl rfl rfl))))))
      exact rvt 168 rfl rfl rfl g183 (zq rfl) (zb h fun y184 hy184 h => rvt 168 rfl rfl rfl g183 (zaK (l := q2) rfl hI rfl sl59 hy184) (rvt 168 rfl rfl rfl g183 (zg ty5 rfl) (rvt 168 rfl rfl rfl g183 (zd2 rfl rfl) (zt rfl (zs rfl g183 rfl) (hJ182 _ () h _ (ji 5 173 rfl rfl rfl))))))
     refine zaF (j := 162) h rfl (fun g179 h => ?_) (fun g179 h => ?_)
     ·exact rpv 162 rfl rfl rfl g179 (rpv 162 rfl rfl rfl g179 (rpv 162 rfl rfl rfl g179 (rpv 162 rfl rfl rfl g179 (zt rfl (zr rfl g179 rfl) (hJ178 _ () h _ (ji 5 167 rfl rfl rfl))))))
     exact rvt 162 rfl rfl rfl g179 (zq rfl) (zb h fun y180 hy180 h => rvt 162 rfl rfl rfl g179 (zaK (l := q2) rfl hI rfl sl59 hy180) (rvt 162 rfl rfl rfl g179 (zg ty5 rfl) (rvt 162 rfl rfl rfl g179 (zd2 rfl rfl) (zt rfl (zs rfl g179 rfl) (hJ178 _ () h _ (ji 5 167 rfl rfl rfl))))))
    refine zaF (j := 154) h rfl (fun g175 h => ?_) (fun g175 h => ?_)
    ·exact rpv 154 rfl rfl rfl g175 (rpv 154 rfl rfl rfl g175 (rpv 154 rfl rfl rfl g175 (rpv 154 rfl rfl rfl g175 (rpv 154 rfl rfl rfl g175 (rpv 154 rfl rfl rfl g175 (zt rfl (zr rfl g175 rfl) (hJ174 _ () h _ (ji 7 161 rfl rfl rfl))))))))
    exact rvt 154 rfl rfl rfl g175 (zac rfl GAcc.f1 zke rfl (z := (tab2 (shr8 (tab1 y99) (4 : UInt64).toNat)).hi)) (rvt 154 rfl rfl rfl g175 (zg ty5 rfl) (rvt 154 rfl rfl rfl g175 (zq rfl) (zb h fun y176 hy176 h => rvt 154 rfl rfl rfl g175 (zaK (l := q2) rfl hI rfl sl59 hy176) (rvt 154 rfl rfl rfl g175 (zg ty5 rfl) (rvt 154 rfl rfl rfl g175 (zd2 rfl rfl) (zt rfl (zs rfl g175 rfl) (hJ174 _ () h _ (ji 7 161 rfl rfl rfl))))))))
   refine zaF (j := 146) h rfl (fun g171 h => ?_) (fun g171 h => ?_)
   ·exact rpv 146 rfl rfl rfl g171 (rpv 146 rfl rfl rfl g171 (rpv 146 rfl rfl rfl g171 (rpv 146 rfl rfl rfl g171 (rpv 146 rfl rfl rfl g171 (rpv 146 rfl rfl rfl g171 (zt rfl (zr rfl g171 rfl) (hJ170 _ () h _ (ji 7 153 rfl rfl rfl))))))))
   exact rvt 146 rfl rfl rfl g171 (zq rfl) (zb h fun y172 hy172 h => rvt 146 rfl rfl rfl g171 (zaK (l := q2) rfl hI rfl sl59 hy172) (rvt 146 rfl rfl rfl g171 (zg ty5 rfl) (rvt 146 rfl rfl rfl g171 (zac rfl GAcc.f0 zjU rfl (z := (tab2 (shr8 (tab1 y99) (4 : UInt64).toNat)).lo)) (rvt 146 rfl rfl rfl g171 (zg ty5 rfl) (rvt 146 rfl rfl rfl g171 (zd2 rfl rfl) (zt rfl (zs rfl g171 rfl) (hJ170 _ () h _ (ji 7 153 rfl rfl rfl))))))))
  refine wsr (oA rfl (rnf (zN (zD (zD (rL3 _ (zD (zB ?_))))))))
  cases h
  exact zo (.tmp rfl .nil) .nil ⟨rfl, rfl⟩
 refine zah (zX (eL3 _ _ (zK (zA (wsr (oA rfl (rnf (zN ?_))))))))
 cases h
 exact zo (.tmp rfl .nil) .nil ⟨rfl, rfl⟩


theorem zfY : ∀ {a_x : GMk} {a_i : Int} {a_v : Val} {zG : Nat} {zY : Vt} {r : Val × GMk}, zb9 a_x a_i a_v = some r → Ctr Tryd.prog 113 [ptrv zG (Fld.id (GMod × Vh × Int)), isv (a_i), isv (a_v)] [boxE zG ((a_x.m, (Vh.mk zY a_x.l.length), a_x.e) : (GMod × Vh × Int)), vecE zY (a_x.l : List GTyp)] (fun R H => R = oneOf [isv (r.1)] ∧ H = [boxE zG ((r.2.m, (Vh.mk zY r.2.l.length), r.2.e)), vecE zY (r.2.l)]) := by
 intro a_x a_i a_v zG zY r h
 unfold zb9 at h
 refine zw Tryd.func113 rfl fun w0 S0 hT => wsr (oT (zjK (y := a_v) rfl hI fun b2 => oT (zab _ ze63 fun b3 => rnf (wsr (oM rfl (oV (zp rfl) (oV (z8 rfl zbG zcn) ?_)))))))
 refine oT (zI (R := vecv zY (a_x.l.length)) ty38 rfl tI isvV1 (oM rfl (zV h fun q4 h => oV (zaR (α := GTyp) sl38 rfl rfl q4.1 q4.2) (zb h fun y5 hy5 h => oT (za4 ty54 rfl (.there tI) hy5 ?_)))))
 refine oT (zab _ ze54 fun b6 => oT (zi (y' := (y5 : GTyp)) ty54 rfl rfl hI .here rfl (zai (zas 7 .here rfl) (rnf (wsr (oV (z8 rfl Val.f0 zfr) (oT (zI (R := isv (a_v.kind)) ty3 rfl tH hI (oV (zac rfl GTyp.f0 zgz rfl (z := y5.kind)) (oV (zg ty3 rfl) ?_))))))))))
 refine oV (zam rfl rfl) (oA rfl (rnf (zn (wsr (oV (zac rfl GTyp.f0 zgz rfl (z := y5.kind)) (oV (zg ty3 rfl) (rnf (zdg (ι := Bool × Val) (γ := Unit) (fun q7 g7 => [(5, ptrv b2 (Fld.id Val)), (8, isv (q7.1))]) (fun q7 g7 => [boxE b2 (q7.2 : Val)]) (.cons tH .nil) h (fun q7 g7 h => ?_) (fun J8 h hJ8 => ?_)))))))))
 ·refine zn (wsr (oM rfl (oV (zbL rfl) (rnf (zdg (ι := GMk) (γ := Unit) (fun q51 g51 => []) (fun q51 g51 => [boxE zG ((q51.m, (Vh.mk zY q51.l.length), q51.e) : (GMod × Vh × Int)), vecE zY (q51.l : List GTyp)]) (.cons tI (.cons tI .nil)) h (fun q51 g51 h => ?_) (fun J52 h hJ52 => ?_))))))
  ·refine wsr (oT (zI (R := isv (q7.2)) ty63 rfl tI hI (oT (zi (y' := (q7.2 : Val)) ty63 rfl rfl hI (.there tI) rfl (rnf (zN ?_))))))
   cases h
   exact zo (.cell rfl .here ty63 .nil) (.cons tH (.cons tH .nil)) ⟨rfl, rfl⟩
  refine zf h rfl (fun _ h => ?_) (fun _ h => ?_)
  ·exact zj (oM rfl (zb h fun y53 hy53 h => oT (zy (zbc hy53) hT (s2 rfl rfl) (.cons tI (.cons tI .nil)) (zx (hJ52 _ () h _ (ze 2 rfl rfl zd k4))))))
  exact zW (hJ52 _ () h _ (ze 0 rfl rfl zd (.cons tI (.cons tI k2))))
 refine zu (zn (wsr (oV (zam rfl rfl) (oA rfl (rnf (zdg (jb 24) je .nil h (fun q9 g9 h => ?_) (fun J10 h hJ10 => ?_)))))))
 ·refine zf h rfl (fun _ h => ?_) (fun _ h => ?_)
  ·exact zW (zk (hJ8 _ () h _ (ze 3 rfl rfl (za (j := 5) rfl hI (za (j := 8) rfl hI zd)) (.cons tH k3))))
  refine wsr (oV (zam rfl rfl) (oA rfl (rnf (zf h rfl (fun _ h => ?_) (fun _ h => ?_)))))
  ·refine zj (oM rfl (oM rfl (zaz (jb 36) je .nil h 6 rfl (fun q11 g11 h => ?_) (fun J12 h hJ12 => ?_))))
   ·exact oA rfl (zx (zk (hJ8 _ () h _ (ze 9 rfl rfl (za (j := 5) rfl hI (za (j := 8) rfl hI zd)) (.cons tH k3)))))
   refine zC (j := 30) h rfl (fun g13 h => ?_) (fun g13 h => ?_)
   ·exact oK 30 rfl rfl rfl g13 (zac rfl GTyp.f2 zlp rfl (z := y5.con)) (oK 30 rfl rfl rfl g13 (zg ty50 rfl) (oK 30 rfl rfl rfl g13 (z8 rfl Val.f1 zj6) (zaA rfl rfl (dj := 30) rfl g13 (zI (R := isv (a_v.n)) ty2 rfl tH hI (zb h fun y14 hy14 h => zaA rfl rfl (dj := 30) rfl g13 (zy (zg4 hy14) hT (s2 rfl rfl) .nil (oV (zr rfl g13 rfl) (hJ12 _ () h _ (ze 6 rfl rfl (za (j := 36) rfl hI zd) k4)))))))))
   exact oP 30 rfl rfl g13 (oP 30 rfl rfl g13 (oP 30 rfl rfl g13 (oP 30 rfl rfl g13 (oP 30 rfl rfl g13 (oV (zs rfl g13 rfl) (hJ12 _ () h _ (ze 6 rfl rfl (za (j := 36) rfl hI zd) k4)))))))
  refine zn (wsr (oV (zam rfl rfl) (oA rfl (rnf (zdg (jb 37) je .nil h (fun q15 g15 h => ?_) (fun J16 h hJ16 => ?_))))))
  ·refine zf h rfl (fun _ h => ?_) (fun _ h => ?_)
   ·refine zj (oM rfl (oM rfl (zaz (jb 48) je .nil h 7 rfl (fun q17 g17 h => ?_) (fun J18 h hJ18 => ?_))))
    ·refine oM rfl (zaz (jb 58) je .nil h 9 rfl (fun q21 g21 h => ?_) (fun J22 h hJ22 => ?_))
     ·exact oA rfl (zx (zk (hJ8 _ () h _ (ze 14 rfl rfl (za (j := 5) rfl hI (za (j := 8) rfl hI zd)) (.cons tH k3)))))
     refine zC (j := 49) h rfl (fun g23 h => ?_) (fun g23 h => ?_)
     ·refine oK 49 rfl rfl rfl g23 (zac rfl GTyp.f0 zgz rfl (z := y5.kind)) (oK 49 rfl rfl rfl g23 (zg ty3 rfl) (oK 49 rfl rfl rfl g23 (zam rfl rfl) (oK 49 rfl rfl rfl g23 (zq rfl) (zaz (jb 57) je .nil h 4 rfl (fun q24 g24 h => ?_) (fun J25 h hJ25 => ?_)))))
      ·exact oV (zr rfl g23 rfl) (hJ22 _ () h _ (ze 6 rfl rfl (za (j := 58) rfl hI zd) k4))
      refine zC (j := 53) h rfl (fun g26 h => ?_) (fun g26 h => ?_)
      ·exact oP 53 rfl rfl g26 (oP 53 rfl rfl g26 (oP 53 rfl rfl g26 (oK 49 rfl rfl rfl g23 (zr rfl g26 rfl) (hJ25 _ () h _ (ze 4 rfl rfl (za (j := 57) rfl hI zd) k4)))))
      exact oK 53 rfl rfl rfl g26 (z8 rfl Val.f2 zhk) (zaA rfl rfl (dj := 53) rfl g26 (zI (R := isv (a_v.b)) ty59 rfl tH hI (zb h fun y27 hy27 h => zaA rfl rfl (dj := 53) rfl g26 (zy (zjN hy27) hT (s1 rfl) .nil (oK 49 rfl rfl rfl g23 (zs rfl g26 rfl) (hJ25 _ () h _ (ze 4 rfl rfl (za (j := 57) rfl hI zd) k4)))))))
     refine oP 49 rfl rfl g23 (oP 49 rfl rfl g23 (oP 49 rfl rfl g23 (oP 49 rfl rfl g23 (zz rfl (dj := 53) rfl (zz rfl (dj := 53) rfl (zz rfl (dj := 53) rfl (oP 49 rfl rfl g23 (oV (zs rfl g23 rfl) ?_))))))))
     exact hJ22 _ () h _ (ze 9 rfl rfl (za (j := 58) rfl hI zd) k4)
    refine zC (j := 41) h rfl (fun g19 h => ?_) (fun g19 h => ?_)
    ·exact oK 41 rfl rfl rfl g19 (zac rfl GTyp.f2 zlp rfl (z := y5.con)) (oK 41 rfl rfl rfl g19 (zg ty50 rfl) (oK 41 rfl rfl rfl g19 (z8 rfl Val.f2 zhk) (zaA rfl rfl (dj := 41) rfl g19 (zI (R := isv (a_v.b)) ty59 rfl tH hI (oK 41 rfl rfl rfl g19 (za6 (l := a_v.b) rfl hI sl59) (zb h fun y20 hy20 h => zaA rfl rfl (dj := 41) rfl g19 (zy (zg4 hy20) hT (s2 rfl rfl) .nil (oV (zr rfl g19 rfl) (hJ18 _ () h _ (ze 7 rfl rfl (za (j := 48) rfl hI zd) k4))))))))))
    exact oP 41 rfl rfl g19 (oP 41 rfl rfl g19 (oP 41 rfl rfl g19 (oP 41 rfl rfl g19 (oP 41 rfl rfl g19 (oP 41 rfl rfl g19 (oV (zs rfl g19 rfl) (hJ18 _ () h _ (ze 7 rfl rfl (za (j := 48) rfl hI zd) k4))))))))
   refine wsr (oV (zam rfl rfl) (oA rfl (rnf (zf h rfl (fun _ h => ?_) (fun _ h => ?_)))))
   ·refine wsr (oM rfl (rnf (zf h rfl (fun _ h => ?_) (fun _ h => ?_))))
    ·refine wsr (oA rfl (rnf (wsr (oA rfl (rnf (zu (zbg (ι := Bool × Int × Val) (γ := Unit) (fun q28 g28 => [(5, ptrv b2 (Fld.id Val)), (8, isv (q28.1)), (9, isv (q28.2.1))]) (fun q28 g28 => [boxE b2 (q28.2.2 : Val)]) h () (za (j := 5) rfl hI (za (j := 8) rfl hI (za (j := 9) rfl hI zd))) (.cons tH .nil) (fun L29 q28 g28 Q50 h hL29 eL29 rL29 => zn ?_))))))))
     refine wsr (oM rfl (oV (zac rfl GTyp.f5 zil rfl (z := y5.root)) (oV (zg ty3 rfl) (oV (zal rfl rfl) (oM rfl (zaz (jb 69) je .nil h 3 rfl (fun q40 g40 h => ?_) (fun J41 h hJ41 => ?_)))))))
     ·refine rnf (zf h rfl (fun _ h => ?_) (fun _ h => ?_))
      ·refine wkf (zn (zdg (ι := Bool × Val) (γ := Unit) (fun q43 g43 => [(5, ptrv b2 (Fld.id Val)), (8, isv (q43.1))]) (fun q43 g43 => [boxE b2 (q43.2 : Val)]) k1 h (fun q43 g43 h => ?_) (fun J44 h hJ44 => ?_)))
       ·exact zj (oM rfl (zE h fun q49 h => oV (zaf rfl rfl q49) (oA rfl (zx (hL29 _ () h _ (ze 14 rfl rfl (za (j := 5) rfl hI (za (j := 8) rfl hI (za (j := 9) rfl hI zd))) k4))))))
       refine zu (zn (zcR 5 .here rfl (fun o45 hn46 => zU (.v 0 (.v 1 (.v 2 (.v 3 (.v 4 (.v 5 (.v 6 (.v 7 (.v 8 (.v 9 .nil)))))))))) moOrd (by kernel_rfl) ?_)))
       refine zt rfl (zac rfl GTyp.f3 zjR rfl (z := y5.items)) (zt rfl (zg ty51 rfl) (rvm rfl rfl (zb h fun y47 hy47 h => zt rfl (zaK (l := y5.items) rfl hI rfl sl51 hy47) (zt rfl (zac rfl GItem.f0 zjL rfl (z := y47.name)) (zt rfl (zg ty9 rfl) (zt rfl (zfe rfl Val.f2 zhk) (zt rfl (zc1 (R := isv (q28.2.2.b)) ty59 rfl (List.Mem.head _) hI) ?_)))))))
       refine zt rfl (zor (l := q28.2.2.b) Tryd.underlying59 Tryd.underlying5 Tryd.underlying9 rfl hI) (zt rfl (zcx eq9 rfl rfl) (zae (zaU 5 hn46 rfl (zA (zf h rfl (fun _ h => ?_) (fun _ h => ?_))))))
       ·refine zj (oV (zac rfl GTyp.f3 zjR rfl (z := y5.items)) (oV (zg ty51 rfl) (oM rfl (zb h fun y48 hy48 h => oV (zaK (l := y5.items) rfl hI rfl sl51 hy48) (oV (zac rfl GItem.f1 zdN rfl (z := y48.number)) (oV (zg ty2 rfl) (oV (zax (z := (Val.mk (3 : Int) y48.number ([] : (List UInt8)) ([] : (List Val)) (0 : Int) ([] : (List Raw)))) rfl bu63 ze63 (.cons Val.f0 zfr rfl hI (.cons Val.f1 zj6 rfl hI .nil))) ?_)))))))
        exact oT (zi (y' := ((Val.mk (3 : Int) y48.number ([] : (List UInt8)) ([] : (List Val)) (0 : Int) ([] : (List Raw))) : Val)) ty63 rfl rfl hI .here rfl (oA rfl (zx (zk (hJ44 _ () h _ (ze 20 rfl rfl (za (j := 5) rfl hI (za (j := 8) rfl hI zd)) k4))))))
       exact zW (zk (hJ44 _ () h _ (ze 12 rfl rfl (za (j := 5) rfl hI (za (j := 8) rfl hI zd)) k4)))
      exact zah (zX (eL29 _ _ (zK (zk (hJ8 _ () h _ (ze 22 rfl rfl (za (j := 5) rfl hI (za (j := 8) rfl hI zd)) k4))))))
     refine zC (j := 66) h rfl (fun g42 h => ?_) (fun g42 h => ?_)
     ·exact oK 66 rfl rfl rfl g42 (zq rfl) (oK 66 rfl rfl rfl g42 (zbL rfl) (oV (zr rfl g42 rfl) (hJ41 _ () h _ (ze 3 rfl rfl (za (j := 69) rfl hI zd) k4))))
     exact oP 66 rfl rfl g42 (oP 66 rfl rfl g42 (oV (zs rfl g42 rfl) (hJ41 _ () h _ (ze 3 rfl rfl (za (j := 69) rfl hI zd) k4))))
    exact zW (zk (hJ8 _ () h _ (ze 11 rfl rfl (za (j := 5) rfl hI (za (j := 8) rfl hI zd)) (.cons tH k3))))
   exact zj (oA rfl (zx (zk (hJ8 _ () h _ (ze 11 rfl rfl (za (j := 5) rfl hI (za (j := 8) rfl hI zd)) (.cons tH k3))))))
  refine zf h rfl (fun _ h => ?_) (fun _ h => ?_)
  ·exact zW (hJ16 _ () h _ (ze 0 rfl rfl (za (j := 37) rfl hI zd) k4))
  exact zj (oV (zam rfl rfl) (oA rfl (zx (hJ16 _ () h _ (ze 2 rfl rfl (za (j := 37) rfl hI zd) k4)))))
 refine zf h rfl (fun _ h => ?_) (fun _ h => ?_)
 ·exact zW (hJ10 _ () h _ (ze 0 rfl rfl (za (j := 24) rfl hI zd) k4))
 exact zj (oV (zam rfl rfl) (oA rfl (zx (hJ10 _ () h _ (ze 2 rfl rfl (za (j := 24) rfl hI zd) k4)))))


theorem ze8 : ∀ {a_x : GMk} {a_i : Int} {zG : Nat} {zY : Vt} {r : Int × GMk}, zbV a_x a_i = some r → Ctr Tryd.prog 91 [ptrv zG (Fld.id (GMod × Vh × Int)), isv (a_i)] [boxE zG ((a_x.m, (Vh.mk zY a_x.l.length), a_x.e) : (GMod × Vh × Int)), vecE zY (a_x.l : List GTyp)] (fun R H => R = oneOf [isv (r.1)] ∧ H = [boxE zG ((r.2.m, (Vh.mk zY r.2.l.length), r.2.e)), vecE zY (r.2.l)]) := by
 intro a_x a_i zG zY r h
 unfold zbV at h
 refine zw Tryd.func91 rfl fun w0 S0 hT => wsr (oA rfl (rnf (zn (wsr (oM rfl (oV (zp rfl) (oV (z8 rfl zbG zcn) ?_)))))))
 refine oT (zI (R := vecv zY (a_x.l.length)) ty38 rfl .here isvV1 (oM rfl (zV h fun q2 h => oV (zaR (α := GTyp) sl38 rfl rfl q2.1 q2.2) (oV (zgp rfl GTyp.f1 zeV) (zb h fun y3 hy3 h => oT (za4 ty48 rfl tH hy3 ?_))))))
 refine oV (za6 (l := y3.tags) rfl hI sl48) (oV (zbY rfl rfl) (rnf (zf h rfl (fun _ h => ?_) (fun _ h => ?_))))
 ·refine wsr (oA rfl (rnf (zN (zB ?_))))
  cases h
  exact zo (.tmp rfl .nil) k2 ⟨rfl, rfl⟩
 refine wkf (wsr (oA rfl (rnf (zN ?_))))
 cases h
 exact zo (.tmp rfl .nil) k2 ⟨rfl, rfl⟩


theorem zld : ∀ {zcE : (List Tag)} {zbw : Int} {zed : Int} {r : (List Tag) × Int}, zeI zcE zbw zed = some r → Ctr Tryd.prog 105 [isv (zcE), isv (zbw), isv (zed)] [] (fun R H => R = oneOf [isv (r.1), isv (r.2)] ∧ H = []) := by
 intro zcE zbw zed r h
 unfold zeI at h
 refine zw Tryd.func105 rfl fun w0 S0 hT => wsr (oA rfl (oA rfl (rnf (zn (wsr (oM rfl (oV (zal rfl rfl) ?_)))))))
 refine oM rfl (zaz (jb 14) je .nil h 3 rfl (fun q1 g1 h => ?_) (fun J2 h hJ2 => ?_))
 ·refine oM rfl (zaz (jb 23) je .nil h 8 rfl (fun q4 g4 h => ?_) (fun J5 h hJ5 => ?_))
  ·refine rnf (zf h rfl (fun _ h => ?_) (fun _ h => ?_))
   ·refine wsr (oA rfl (oA rfl (rnf (zN (zB ?_)))))
    cases h
    exact zo (.as rfl (zdB (α := Tag)) (.tmp rfl .nil)) .nil ⟨rfl, rfl⟩
   refine wkf (wsr (oM rfl (oV (zax (z := (Tag.mk (2 : Int) zbw)) rfl bu57 ze57 (.cons Tag.f0 zh8 rfl hI (.cons Tag.f1 zeE rfl hI .nil))) (oT (zS (l := ([(Tag.mk (2 : Int) zbw)] : (List Tag))) el48 (.cons rfl hI .nil) rfl rfl (oA rfl (rnf (zn (wsr ?_)))))))))
   refine oM rfl (oV (zam rfl rfl) (rnf (zf h rfl (fun _ h => ?_) (fun _ h => ?_))))
   ·refine wsr (oM rfl (oM rfl (zV h fun q11 h => oV (zfJ (l := zcE) rfl hI sl48 (.inr ⟨_, rfl, rfl⟩) (.inl ⟨rfl, rfl⟩) q11.1 q11.2.1 q11.2.2) (zai (zbf) (zad h fun q13 h => oT (zbA (l := ([(Tag.mk (2 : Int) zbw)] : (List Tag))) (m := ((zcE.take ((zcE.length : Int)).toNat).drop ((1 : Int)).toNat)) zgi rfl hI rfl hI .here q13 fun t12 => oA rfl ?_))))))
    refine oA rfl (rnf (zN (zB ?_)))
    cases h
    exact zo (.as rfl zJ (.tmp rfl .nil)) .nil ⟨rfl, rfl⟩
   refine wkf (wsr (oM rfl (oM rfl (zai (zbf) (zad h fun q15 h => oT (zbA (l := ([(Tag.mk (2 : Int) zbw)] : (List Tag))) (m := zcE) zgi rfl hI rfl hI .here q15 fun t14 => oA rfl (oA rfl ?_)))))))
   refine rnf (zN ?_)
   cases h
   exact zo (.as rfl zJ (.tmp rfl .nil)) .nil ⟨rfl, rfl⟩
  refine zC (j := 15) h rfl (fun g6 h => ?_) (fun g6 h => ?_)
  ·exact oP 15 rfl rfl g6 (oP 15 rfl rfl g6 (oP 15 rfl rfl g6 (zz rfl (dj := 18) rfl (zz rfl (dj := 18) rfl (zz rfl (dj := 18) rfl (oP 15 rfl rfl g6 (oV (zr rfl g6 rfl) (hJ5 _ () h _ (ji 8 23 rfl rfl rfl)))))))))
  refine oK 15 rfl rfl rfl g6 (zq rfl) (oK 15 rfl rfl rfl g6 (zam rfl rfl) (oK 15 rfl rfl rfl g6 (zq rfl) (zaz (jb 22) je .nil h 4 rfl (fun q7 g7 h => ?_) (fun J8 h hJ8 => ?_))))
  ·exact oV (zs rfl g6 rfl) (hJ5 _ () h _ (ji 5 23 rfl rfl rfl))
  refine zC (j := 18) h rfl (fun g9 h => ?_) (fun g9 h => ?_)
  ·exact oK 18 rfl rfl rfl g9 (zq rfl) (oK 18 rfl rfl rfl g9 (za6 (l := zcE) rfl hI sl48) (oK 18 rfl rfl rfl g9 (zam rfl rfl) (oK 15 rfl rfl rfl g6 (zr rfl g9 rfl) (hJ8 _ () h _ (ji 4 22 rfl rfl rfl)))))
  exact oP 18 rfl rfl g9 (oP 18 rfl rfl g9 (oP 18 rfl rfl g9 (oK 15 rfl rfl rfl g6 (zs rfl g9 rfl) (hJ8 _ () h _ (ji 4 22 rfl rfl rfl)))))
 refine zC (j := 11) h rfl (fun g3 h => ?_) (fun g3 h => ?_)
 ·exact oP 11 rfl rfl g3 (oP 11 rfl rfl g3 (oV (zr rfl g3 rfl) (hJ2 _ () h _ (ji 3 14 rfl rfl rfl))))
 exact oK 11 rfl rfl rfl g3 (zq rfl) (oK 11 rfl rfl rfl g3 (zbY rfl rfl) (oV (zs rfl g3 rfl) (hJ2 _ () h _ (ji 3 14 rfl rfl rfl))))


theorem ze2 : ∀ {a_x : GMk} {a_i : Int} {zbw : Int} {zed : Int} {zG : Nat} {zY : Vt} {r : GMk}, zbS a_x a_i zbw zed = some r → Ctr Tryd.prog 92 [ptrv zG (Fld.id (GMod × Vh × Int)), isv (a_i), isv (zbw), isv (zed)] [boxE zG ((a_x.m, (Vh.mk zY a_x.l.length), a_x.e) : (GMod × Vh × Int)), vecE zY (a_x.l : List GTyp)] (fun R H => R = oneOf [] ∧ H = [boxE zG ((r.m, (Vh.mk zY r.l.length), r.e)), vecE zY (r.l)]) := by
 intro a_x a_i zbw zed zG zY r h
 unfold zbS at h
 refine zw Tryd.func92 rfl fun w0 S0 hT => zn (wsr (oM rfl (oV (zp rfl) (oV (z8 rfl zcf zdd) (oT (zI (R := isv (a_x.e)) ty31 rfl .here hI (oV (zcq rfl rfl) (rnf ?_))))))))
 refine zf h rfl (fun _ h => ?_) (fun _ h => ?_)
 ·refine zN (zB ?_)
  cases h
  exact zo .nil k2 ⟨rfl, rfl⟩
 refine wkf (wsr (oM rfl (oV (zp rfl) (oV (z8 rfl zbG zcn) (oT (zI (R := vecv zY (a_x.l.length)) ty38 rfl .here isvV1 (oM rfl (zV h fun q2 h => oV (zaR (α := GTyp) sl38 rfl rfl q2.1 q2.2) ?_))))))))
 refine oV (zgp rfl GTyp.f1 zeV) (zb h fun y3 hy3 h => oT (za4 ty48 rfl tH hy3 ?_))
 refine oM rfl (oM rfl (zb h fun y4 hy4 h => oT (zy (zld hy4) hT (s3 rfl rfl rfl) .nil (oM rfl (oV (zau rfl rfl) (oV (zau rfl rfl) (oA rfl (oA rfl ?_))))))))
 refine rnf (zn (wsr (oM rfl (oV (zcq rfl rfl) (rnf (zf h rfl (fun _ h => ?_) (fun _ h => ?_)))))))
 ·refine wsr (oM rfl (oM rfl (zb h fun y5 hy5 h => oT (zy (zbc hy5) hT (s2 rfl rfl) k2 (rnf (zN (zB ?_)))))))
  cases h
  exact zo .nil k2 ⟨rfl, rfl⟩
 refine wkf (zj (oM rfl (oV (zp rfl) (oV (z8 rfl zbG zcn) (oT (zI (R := vecv zY (a_x.l.length)) ty38 rfl .here isvV1 (oM rfl (oM rfl (zV h fun q6 h => ?_)))))))))
 refine oV (zaR (α := GTyp) sl38 rfl rfl q6.1 q6.2) (oV (zgp rfl GTyp.f1 zeV) (zb h fun y7 hy7 h => oT (zbh ty48 rfl rfl tH hy7 (zai (zgg (y := ((a_x.m, (Vh.mk zY (a_x.l.set a_i.toNat ({ y7 with tags := y4.1 })).length), a_x.e) : (GMod × Vh × Int))) tH (fun S => (Cv.pair Cv.id (Cv.pair (Cv.vhe (by first | rfl | simp)) Cv.id)))) ?_))))
 refine zx (zao .nil k2 ?_)
 cases h
 exact ⟨rfl, rfl⟩


def zgB (f' : (List GTyp) → Int → Option (Bool)) : Prop :=
 ∀ {a_l : (List GTyp)} {a_i : Int} {zc5 : Vt} {r : Bool}, f' a_l a_i = some r → Ctr Tryd.prog 124 [vecv zc5 (a_l.length), isv (a_i)] [vecE zc5 (a_l : List GTyp)] (fun R H => R = oneOf [isv (r)] ∧ H = [vecE zc5 (a_l : List GTyp)])
theorem zk3 {zge : (List GTyp) → Int → Option (Bool)} (zlD : zgB zge) : ∀ {a_l : (List GTyp)} {a_i : Int} {zc5 : Vt} {r : Bool}, zeB zge a_l a_i = some r → Ctr Tryd.prog 124 [vecv zc5 (a_l.length), isv (a_i)] [vecE zc5 (a_l : List GTyp)] (fun R H => R = oneOf [isv (r)] ∧ H = [vecE zc5 (a_l : List GTyp)]) := by
 intro a_l a_i zc5 r h
 unfold zeB at h
 refine zw Tryd.func124 rfl fun w0 S0 hT => wsr (oA rfl (rnf (zn (wsr (oM rfl (oM rfl (zV h fun q1 h => ?_)))))))
 refine oV (zaR (α := GTyp) sl38 rfl rfl q1.1 q1.2) (oV (zgp rfl GTyp.f0 zgz) (zb h fun y2 hy2 h => oT (za4 ty3 rfl .here hy2 ?_)))
 refine oV (zcq rfl rfl) (oM rfl (zaz (jb 21) je .nil h 8 rfl (fun q3 g3 h => ?_) (fun J4 h hJ4 => ?_)))
 ·refine rnf (zf h rfl (fun _ h => ?_) (fun _ h => ?_))
  ·refine wsr (oA rfl (rnf (zN (zB ?_))))
   cases h
   exact zo (.tmp rfl .nil) k1 ⟨rfl, rfl⟩
  refine wkf (wsr (oM rfl (oM rfl (zV h fun q8 h => oV (zaR (α := GTyp) sl38 rfl rfl q8.1 q8.2) (oV (zgp rfl GTyp.f6 zka) (zb h fun y9 hy9 h => oT (za4 ty4 rfl .here hy9 ?_)))))))
  refine oA rfl (rnf (zn (wsr (oA rfl (rnf (zu (zbg (ι := Bool × Int) (γ := Unit) (fun q10 g10 => [(5, isv (q10.1)), (6, isv (q10.2))]) (fun q10 g10 => []) h () (za (j := 5) rfl hI (za (j := 6) rfl hI zd)) .nil (fun L11 q10 g10 Q32 h hL11 eL11 rL11 => zn ?_))))))))
  refine wsr (oM rfl (oM rfl (oM rfl (zV h fun q22 h => oV (zaR (α := GTyp) sl38 rfl rfl q22.1 q22.2) (oV (zgp rfl GTyp.f4 zcN) (zb h fun y23 hy23 h => oT (za4 ty52 rfl .here hy23 ?_)))))))
  refine oV (za6 (l := y23.fields) rfl hI sl52) (oV (zal rfl rfl) (rnf (zf h rfl (fun _ h => ?_) (fun _ h => ?_))))
  ·refine wkf (zn (zu (zj (oM rfl (oM rfl (zaz (jb 50) je .nil h 12 rfl (fun q24 g24 h => ?_) (fun J25 h hJ25 => ?_)))))))
   ·refine oA rfl (zx (zk (zA (zj (oM rfl (zE h fun q31 h => oV (zaf rfl rfl q31) (oA rfl ?_)))))))
    exact zx (hL11 _ () h _ (ze 17 rfl rfl (za (j := 5) rfl hI (za (j := 6) rfl hI zd)) k1))
   refine zC (j := 38) h rfl (fun g26 h => ?_) (fun g26 h => ?_)
   ·refine oP 38 rfl rfl g26 (oP 38 rfl rfl g26 (oP 38 rfl rfl g26 (oP 38 rfl rfl g26 (oP 38 rfl rfl g26 (oP 38 rfl rfl g26 (oP 38 rfl rfl g26 (oP 38 rfl rfl g26 (oP 38 rfl rfl g26 ?_))))))))
    exact oP 38 rfl rfl g26 (oP 38 rfl rfl g26 (oV (zr rfl g26 rfl) (hJ25 _ () h _ (jk 12 50 rfl rfl rfl))))
   refine oK 38 rfl rfl rfl g26 (zq rfl) (oK 38 rfl rfl rfl g26 (zq rfl) (oK 38 rfl rfl rfl g26 (zq rfl) (zV h fun q27 h => oK 38 rfl rfl rfl g26 (zaR (α := GTyp) sl38 rfl rfl q27.1 q27.2) (oK 38 rfl rfl rfl g26 (zgp rfl GTyp.f4 zcN) (zb h fun y28 hy28 h => zaA rfl rfl (dj := 38) rfl g26 (za4 ty52 rfl .here hy28 ?_))))))
   refine oK 38 rfl rfl rfl g26 (zq rfl) (zb h fun y29 hy29 h => oK 38 rfl rfl rfl g26 (zaK (l := y28.fields) rfl hI rfl sl52 hy29) (oK 38 rfl rfl rfl g26 (zac rfl GFld.f1 zdn rfl (z := y29.ty)) (oK 38 rfl rfl rfl g26 (zg ty3 rfl) (zb h fun y30 hy30 h => zaA rfl rfl (dj := 38) rfl g26 (zy (zlD hy30) hT (.cons rfl (fun _ _ h => vecvE (by first | rfl | simp) _ _ h) (s1 rfl)) k1 ?_)))))
   exact oV (zs rfl g26 rfl) (hJ25 _ () h _ (jk 12 50 rfl rfl rfl))
  refine zah (zX (eL11 _ _ (zK (zA (wsr (oM rfl (oA rfl (rnf ?_))))))))
  refine zN ?_
  cases h
  exact zo (.tmp rfl .nil) k1 ⟨rfl, rfl⟩
 refine zC (j := 13) h rfl (fun g5 h => ?_) (fun g5 h => ?_)
 ·exact oP 13 rfl rfl g5 (oP 13 rfl rfl g5 (oP 13 rfl rfl g5 (oP 13 rfl rfl g5 (oP 13 rfl rfl g5 (oP 13 rfl rfl g5 (oP 13 rfl rfl g5 (oV (zr rfl g5 rfl) (hJ4 _ () h _ (jk 8 21 rfl rfl rfl)))))))))
 refine oK 13 rfl rfl rfl g5 (zq rfl) (oK 13 rfl rfl rfl g5 (zq rfl) (zV h fun q6 h => oK 13 rfl rfl rfl g5 (zaR (α := GTyp) sl38 rfl rfl q6.1 q6.2) (oK 13 rfl rfl rfl g5 (zgp rfl GTyp.f1 zeV) (zb h fun y7 hy7 h => zaA rfl rfl (dj := 13) rfl g5 (za4 ty48 rfl .here hy7 ?_)))))
 exact oK 13 rfl rfl rfl g5 (za6 (l := y7.tags) rfl hI sl48) (oK 13 rfl rfl rfl g5 (zbY rfl rfl) (oV (zs rfl g5 rfl) (hJ4 _ () h _ (jk 8 21 rfl rfl rfl))))

theorem zf1 : ∀ n, zgB (zfK n)
 | 0 => fun h => (by cases h)
 | n + 1 => zk3 (zf1 n)
theorem zlE (n : Nat) : zgB (zfK n) := (zf1 n)

def zfl (f' : (List GTyp) → Int → Option ((List Tag))) : Prop :=
 ∀ {a_l : (List GTyp)} {a_i : Int} {zc5 : Vt} {r : (List Tag)}, f' a_l a_i = some r → Ctr Tryd.prog 66 [vecv zc5 (a_l.length), isv (a_i)] [vecE zc5 (a_l : List GTyp)] (fun R H => R = oneOf [isv (r)] ∧ H = [vecE zc5 (a_l : List GTyp)])
theorem ziX {zeP : (List GTyp) → Int → Option ((List Tag))} (zjr : zfl zeP) : ∀ {a_l : (List GTyp)} {a_i : Int} {zc5 : Vt} {r : (List Tag)}, zdz zeP a_l a_i = some r → Ctr Tryd.prog 66 [vecv zc5 (a_l.length), isv (a_i)] [vecE zc5 (a_l : List GTyp)] (fun R H => R = oneOf [isv (r)] ∧ H = [vecE zc5 (a_l : List GTyp)]) := by
 intro a_l a_i zc5 r h
 unfold zdz at h
 refine zw Tryd.func66 rfl fun w0 S0 hT => wsr (oA rfl (rnf (zn (wsr (oM rfl (oM rfl (zV h fun q1 h => ?_)))))))
 refine oV (zaR (α := GTyp) sl38 rfl rfl q1.1 q1.2) (oV (zgp rfl GTyp.f1 zeV) (zb h fun y2 hy2 h => oT (za4 ty48 rfl .here hy2 ?_)))
 refine oV (za6 (l := y2.tags) rfl hI sl48) (oV (zbY rfl rfl) (rnf (zf h rfl (fun _ h => ?_) (fun _ h => ?_))))
 ·refine wsr (oM rfl (oM rfl (zV h fun q3 h => oV (zaR (α := GTyp) sl38 rfl rfl q3.1 q3.2) (oV (zgp rfl GTyp.f1 zeV) (zb h fun y4 hy4 h => oT (za4 ty48 rfl .here hy4 ?_))))))
  refine zV h fun q5 h => oV (zfJ (l := y4.tags) rfl hI sl48 (.inl ⟨rfl, rfl⟩) (.inr ⟨_, rfl, rfl⟩) q5.1 q5.2.1 q5.2.2) (oA rfl (rnf (zN (zB ?_))))
  cases h
  exact zo (.tmp rfl .nil) k1 ⟨rfl, rfl⟩
 refine wkf (wsr (oA rfl (rnf (zn (wsr (oA rfl (rnf (zu ?_))))))))
 refine zfF (zbf) (zbg (ι := (List Tag) × Int) (γ := Tok) (fun q6 g6 => [(5, appv g6 (q6.1)), (6, isv (q6.2))]) (fun q6 g6 => [tokE g6]) h (none) (za (j := 5) rfl zbF (za (j := 6) rfl hI zd)) k1 (fun L7 q6 g6 Q27 h hL7 eL7 rL7 => zn (wsr (oM rfl (oM rfl (oM rfl (zV h fun q17 h => oV (zaR (α := GTyp) sl38 rfl rfl q17.1 q17.2) ?_)))))))
 refine oV (zgp rfl GTyp.f4 zcN) (zb h fun y18 hy18 h => oT (za4 ty52 rfl tH hy18 ?_))
 refine oV (za6 (l := y18.fields) rfl hI sl52) (oV (zal rfl rfl) (rnf (zf h rfl (fun _ h => ?_) (fun _ h => ?_))))
 ·refine wkf (zn (zu (zj (oM rfl (oM rfl (oM rfl (oM rfl (zV h fun q19 h => ?_))))))))
  refine oV (zaR (α := GTyp) sl38 rfl rfl q19.1 q19.2) (oV (zgp rfl GTyp.f4 zcN) (zb h fun y20 hy20 h => oT (za4 ty52 rfl tH hy20 ?_)))
  refine oM rfl (zb h fun y21 hy21 h => oV (zaK (l := y20.fields) rfl hI rfl sl52 hy21) (oV (zac rfl GFld.f1 zdn rfl (z := y21.ty)) (oV (zg ty3 rfl) (zb h fun y22 hy22 h => oT (zy (zjr hy22) hT (.cons rfl (fun _ _ h => vecvE (by first | rfl | simp) _ _ h) (s1 rfl)) (.cons tH .nil) ?_)))))
  refine zad h fun q24 h => oT (zbA (l := q6.1) (m := y22) zgi rfl hI rfl hI tH q24 fun t23 => oA rfl (zx (zk (zA (zj (oM rfl (zE h fun q25 h => ?_)))))))
  exact oV (zaf rfl rfl q25) (oA rfl (zx (hL7 _ (t23) h _ (ze 27 rfl rfl (za (j := 5) rfl hI (za (j := 6) rfl hI zd)) k2))))
 refine zah (zX (eL7 _ _ (zK (zA (wsr (oM rfl (oA rfl (rnf ?_))))))))
 refine zN ?_
 cases h
 exact zo (.as rfl zJ .nil) (.cons tH .nil) ⟨rfl, rfl⟩

theorem zfh : ∀ n, zfl (zet n)
 | 0 => fun h => (by cases h)
 | n + 1 => ziX (zfh n)
theorem zjO (n : Nat) : zfl (zet n) := (zfh n)

theorem ziJ : ∀ {a_l : (List Tag)} {a_x : Tag} {r : Bool}, zdM a_l a_x = some r → Ctr Tryd.prog 126 [isv (a_l), isv (a_x)] [] (fun R H => R = oneOf [isv (r)] ∧ H = []) := by
 intro a_l a_x r h
 unfold zdM at h
 refine zw Tryd.func126 rfl fun w0 S0 hT => wsr (oT (zbI (y := a_x) rfl hI (oA rfl (rnf (zn (wsr (oA rfl (rnf ?_))))))))
 refine zu (zbg (ι := Int) (γ := Unit) (fun q1 g1 => [(5, isv (q1))]) (fun q1 g1 => []) h () (za (j := 5) rfl hI zd) .nil (fun L2 q1 g1 Q7 h hL2 eL2 rL2 => zn (wsr (oM rfl (oM rfl (oV (za6 (l := a_l) rfl hI sl48) (oV (zal rfl rfl) (rnf ?_))))))))
 refine zf h rfl (fun _ h => ?_) (fun _ h => ?_)
 ·refine wkf (zn (zu (zn (zU (.v 0 (.v 1 (.v 2 (.v 3 (.v 4 (.v 5 .nil)))))) moOrd (by kernel_rfl) ?_))))
  refine rvm rfl rfl (rvm rfl rfl (zb h fun y5 hy5 h => zt rfl (zaK (l := a_l) rfl hI rfl sl48 hy5) (zt rfl (zg ty57 rfl) (zt rfl (zg ty57 rfl) (zt rfl (zcx eq57 rfl rfl) (zae (zA ?_)))))))
  refine zf h rfl (fun _ h => ?_) (fun _ h => ?_)
  ·refine wsr (oA rfl (rnf (zN (zD (zB (rL2 _ (zD (zB ?_))))))))
   cases h
   exact zo (.tmp rfl .nil) .nil ⟨rfl, rfl⟩
  refine zW (zk (zA (zj (oM rfl (zE h fun q6 h => oV (zaf rfl rfl q6) (oA rfl (zx ?_)))))))
  exact hL2 _ () h _ (ji 14 5 rfl rfl rfl)
 refine zah (zX (eL2 _ _ (zK (zA (wsr (oA rfl (rnf (zN ?_))))))))
 cases h
 exact zo (.tmp rfl .nil) .nil ⟨rfl, rfl⟩

end Go.Proofs.Q


namespace Go.Proofs.Q
open Go.Sy
set_option maxRecDepth 4000
theorem ziS : ∀ {zee : (List (List Tag))} {r : Bool}, zdE zee = some r → Ctr Tryd.prog 125 [isv (zee)] [] (fun R H => R = oneOf [isv (r)] ∧ H = []) := by
 intro zee r h
 unfold zdE at h
 refine zw Tryd.func125 rfl fun w0 S0 hT => wsr (oA rfl (rnf (wsr (oA rfl (rnf (zn (wsr ?_)))))))
 refine oA rfl (rnf (zu (zfF (zbf) (zbg (ι := (List Tag) × Int) (γ := Tok) (fun q1 g1 => [(3, appv g1 (q1.1)), (4, isv (q1.2))]) (fun q1 g1 => [tokE g1]) h (none) (za (j := 3) rfl zbF (za (j := 4) rfl hI zd)) k1 (fun L2 q1 g1 Q55 h hL2 eL2 rL2 => zn (wsr (oM rfl (oM rfl ?_))))))))
 refine oV (za6 (l := zee) rfl hI sl179) (oV (zal rfl rfl) (rnf (zf h rfl (fun _ h => ?_) (fun _ h => ?_))))
 ·refine wkf (zn (zu (wsr (oA rfl (rnf (zu (zbg (ι := (List Tag) × Int) (γ := Tok) (fun q29 g29 => [(3, appv g29 (q29.1)), (5, isv (q29.2))]) (fun q29 g29 => [tokE g29]) h (g1) (za (j := 3) rfl hI (za (j := 5) rfl hI zd)) k1 (fun L30 q29 g29 Q53 h hL30 eL30 rL30 => zn ?_))))))))
  refine wsr (oM rfl (oM rfl (oM rfl (zb h fun y42 hy42 h => oV (zaK (l := zee) rfl hI rfl sl179 hy42) (oV (zg ty48 rfl) (oV (za6 (l := y42) rfl hI sl48) (oV (zal rfl rfl) ?_)))))))
  refine rnf (zf h rfl (fun _ h => ?_) (fun _ h => ?_))
  ·refine wkf (zn (zu (zn (wsr (oM rfl (oM rfl (oM rfl (zb h fun y43 hy43 h => ?_))))))))
   refine oV (zaK (l := zee) rfl hI rfl sl179 hy43) (oV (zg ty48 rfl) (oM rfl (zb h fun y44 hy44 h => oV (zaK (l := y43) rfl hI rfl sl48 hy44) (oV (zg ty57 rfl) (zb h fun y45 hy45 h => oT (zy (ziJ hy45) hT (.cons rfl zJ (s1 rfl)) .nil (rnf ?_)))))))
   refine zf h rfl (fun _ h => ?_) (fun _ h => ?_)
   ·refine wsr (oA rfl (rnf (zN (zB (zD (zB (rL30 _ (zD ?_))))))))
    refine zD (zB (rL2 _ (zD (zB ?_))))
    cases h
    exact zo (.tmp rfl .nil) .nil ⟨rfl, rfl⟩
   refine wkf (zj (oM rfl (oM rfl (oM rfl (zb h fun y46 hy46 h => oV (zaK (l := zee) rfl hI rfl sl179 hy46) (oV (zg ty48 rfl) (oM rfl ?_)))))))
   refine zb h fun y47 hy47 h => oV (zaK (l := y46) rfl hI rfl sl48 hy47) (oV (zg ty57 rfl) (oT (zS (l := ([y47] : (List Tag))) el48 (.cons rfl hI .nil) rfl rfl (zad h fun q50 h => oT (zbA (l := q29.1) (m := ([y47] : (List Tag))) zgi rfl hI rfl zJ .here q50 fun t49 => oA rfl (zx (zk ?_)))))))
   exact zA (zj (oM rfl (zE h fun q51 h => oV (zaf rfl rfl q51) (oA rfl (zx (hL30 _ (t49) h _ (ze 32 rfl rfl (za (j := 3) rfl hI (za (j := 5) rfl hI zd)) k1)))))))
  refine zah (zX (eL30 _ _ (zK (zk (zA (zj (oM rfl (zE h fun q52 h => ?_))))))))
  exact oV (zaf rfl rfl q52) (oA rfl (zx (hL2 _ (g29) h _ (ze 19 rfl rfl (za (j := 3) rfl hI (za (j := 4) rfl hI zd)) k1))))
 refine zah (zX (eL2 _ _ (zK (zA (wsr (oA rfl (rnf (zN ?_))))))))
 cases h
 exact zo (.tmp rfl .nil) .nil ⟨rfl, rfl⟩


theorem zdV : ∀ {a_x : GMk} {a_l : (List GFld)} {zhg : Bool} {zG : Nat} {zY : Vt} {r : Bool × GMk}, zbB a_x a_l zhg = some r → Ctr Tryd.prog 119 [ptrv zG (Fld.id (GMod × Vh × Int)), isv (a_l), isv (zhg)] [boxE zG ((a_x.m, (Vh.mk zY a_x.l.length), a_x.e) : (GMod × Vh × Int)), vecE zY (a_x.l : List GTyp)] (fun R H => R = oneOf [isv (r.1)] ∧ H = [boxE zG ((r.2.m, (Vh.mk zY r.2.l.length), r.2.e)), vecE zY (r.2.l)]) := by
 intro a_x a_l zhg zG zY r h
 unfold zbB at h
 refine zw Tryd.func119 rfl fun w0 S0 hT => wsr (oA rfl (rnf (wsr (oA rfl (rnf (zn (wsr ?_)))))))
 refine oA rfl (rnf (zu (zfF (zbf) (zbg (ι := (List (List Tag)) × Int) (γ := Tok) (fun q2 g2 => [(0, ptrv zG (Fld.id (GMod × Vh × Int))), (7, appv g2 (q2.1)), (8, isv (q2.2))]) (fun q2 g2 => [tokE g2]) h (none) (za (j := 0) rfl hI (za (j := 7) rfl zbF (za (j := 8) rfl hI zd))) k1 (fun L3 q2 g2 Q43 h hL3 eL3 rL3 => zn (wsr (oM rfl (oM rfl ?_))))))))
 refine oV (za6 (l := a_l) rfl hI sl52) (oV (zal rfl rfl) (rnf (zf h rfl (fun _ h => ?_) (fun _ h => ?_))))
 ·refine wkf (zn (zu (zn (zn (zcR 0 tH rfl (fun o23 hn24 => zU (.v 0 (.v 1 (.v 2 (.v 3 (.v 4 (.v 5 (.v 6 (.v 7 (.v 8 (.t 9 (.v 10 (.v 11 (.v 12 (.v 13 (.v 14 (.v 15 (.v 16 (.v 17 .nil)))))))))))))))))) moOrd (by kernel_rfl) ?_))))))
  refine rvm rfl rfl (zt rfl (zbs rfl) (zt rfl (zfe rfl zbG zcn) (zt rfl (zc1 (R := vecv zY (a_x.l.length)) ty38 rfl (List.Mem.head _) isvV1) (rvm rfl rfl (rvm rfl rfl (zb h fun y25 hy25 h => zt rfl (zaK (l := a_l) rfl hI rfl sl52 hy25) (zt rfl (zac rfl GFld.f1 zdn rfl (z := y25.ty)) ?_)))))))
  refine zt rfl (zg ty3 rfl) (zb h fun y26 hy26 h => zT rfl rfl (zy (zlE fuel hy26) hT (.cons rfl (fun _ _ h => vecvE (by first | rfl | simp) _ _ h) (s1 rfl)) (.cons tH .nil) ?_))
  refine rvm rfl rfl (zc9 (jb 32) je .nil h 7 rfl (fun q27 g27 h => ?_) (fun J28 h hJ28 => ?_))
  ·refine zae (zaU 0 hn24 rfl (zA (zf h rfl (fun _ h => ?_) (fun _ h => ?_))))
   ·refine wsr (oA rfl (rnf (zN (zB (zD (zB (rL3 _ (zD ?_))))))))
    refine zB ?_
    cases h
    exact zo (.tmp rfl .nil) k2 ⟨rfl, rfl⟩
   refine wkf (zcR 0 .here rfl (fun o33 hn34 => zU (.v 0 (.v 1 (.v 2 (.v 3 (.v 4 (.v 5 (.v 6 (.v 7 (.v 8 (.v 9 (.t 10 (.t 11 (.t 12 (.v 13 .nil)))))))))))))) moOrd (by kernel_rfl) ?_))
   refine rvm rfl rfl (rvm rfl rfl (zt rfl (zbs rfl) (zt rfl (zfe rfl zbG zcn) (zt rfl (zc1 (R := vecv zY (a_x.l.length)) ty38 rfl (List.Mem.head _) isvV1) (rvm rfl rfl (rvm rfl rfl (zb h fun y35 hy35 h => zt rfl (zaK (l := a_l) rfl hI rfl sl52 hy35) ?_)))))))
   refine zt rfl (zac rfl GFld.f1 zdn rfl (z := y35.ty)) (zt rfl (zg ty3 rfl) (zb h fun y36 hy36 h => zT rfl rfl (zy (zjO fuel hy36) hT (.cons rfl (fun _ _ h => vecvE (by first | rfl | simp) _ _ h) (s1 rfl)) k1 ?_)))
   refine zT rfl rfl (zS (l := ([y36] : (List (List Tag)))) el179 (.cons rfl hI .nil) rfl rfl (zad h fun q39 h => zT rfl rfl (zbA (l := q2.1) (m := ([y36] : (List (List Tag)))) zmH rfl hI rfl zJ tH q39 fun t38 => zt rfl (za8 rfl) (zae (zaU 0 hn34 rfl (zk (zA (zj ?_))))))))
   exact oM rfl (zE h fun q40 h => oV (zaf rfl rfl q40) (oA rfl (zx (hL3 _ (t38) h _ (ze 40 rfl rfl (za (j := 0) rfl hI (za (j := 7) rfl hI (za (j := 8) rfl hI zd))) (.cons tH k2))))))
  refine zaF (j := 25) h rfl (fun g29 h => ?_) (fun g29 h => ?_)
  ·refine rvt 25 rfl rfl rfl g29 (zq rfl) (rvt 25 rfl rfl rfl g29 (zq rfl) (zc9 (jb 31) je .nil h 4 rfl (fun q30 g30 h => ?_) (fun J31 h hJ31 => ?_)))
   ·exact zt rfl (zr rfl g29 rfl) (hJ28 _ () h _ (ze 4 rfl rfl (za (j := 32) rfl hI zd) k2))
   refine zaF (j := 27) h rfl (fun g32 h => ?_) (fun g32 h => ?_)
   ·exact rpv 27 rfl rfl rfl g32 (rpv 27 rfl rfl rfl g32 (rpv 27 rfl rfl rfl g32 (rvt 25 rfl rfl rfl g29 (zr rfl g32 rfl) (hJ31 _ () h _ (ze 4 rfl rfl (za (j := 31) rfl hI zd) k2)))))
   exact rvt 27 rfl rfl rfl g32 (zq rfl) (rvt 27 rfl rfl rfl g32 (za6 (l := a_l) rfl hI sl52) (rvt 27 rfl rfl rfl g32 (zbY rfl rfl) (rvt 25 rfl rfl rfl g29 (zs rfl g32 rfl) (hJ31 _ () h _ (ze 4 rfl rfl (za (j := 31) rfl hI zd) k2)))))
  exact rpv 25 rfl rfl rfl g29 (rpv 25 rfl rfl rfl g29 (zav rfl rfl (dj := 27) rfl (zav rfl rfl (dj := 27) rfl (zav rfl rfl (dj := 27) rfl (rpv 25 rfl rfl rfl g29 (zt rfl (zs rfl g29 rfl) (hJ28 _ () h _ (ze 7 rfl rfl (za (j := 32) rfl hI zd) k2))))))))
 refine zah (zX (eL3 _ _ (zK (zA (wsr (oM rfl (zb h fun y41 hy41 h => oT (zy (ziS hy41) hT (.cons rfl zJ .nil) .nil ?_))))))))
 refine oA rfl (rnf (zN ?_))
 cases h
 exact zo (.tmp rfl .nil) (.cons tH (.cons tH .nil)) ⟨rfl, rfl⟩


theorem zhQ : ∀ {a_t : GTyp} {r : (List Bool)}, zek a_t = some r → Ctr Tryd.prog 120 [isv (a_t)] [] (fun R H => R = oneOf [isv (r)] ∧ H = []) := by
 intro a_t r h
 unfold zek at h
 refine zw Tryd.func120 rfl fun w0 S0 hT => wsr (oT (zbI (y := a_t) rfl hI (oA rfl (rnf (wsr (oA rfl (rnf (zn ?_))))))))
 refine wsr (oA rfl (rnf (zu (zfF (zbf) (zbg (ι := (List Bool) × Int) (γ := Tok) (fun q1 g1 => [(3, appv g1 (q1.1)), (4, isv (q1.2))]) (fun q1 g1 => [tokE g1]) h (none) (za (j := 3) rfl zbF (za (j := 4) rfl hI zd)) k1 (fun L2 q1 g1 Q28 h hL2 eL2 rL2 => zn (wsr (oM rfl ?_))))))))
 refine oV (zac rfl GTyp.f4 zcN rfl (z := a_t.fields)) (oV (zg ty52 rfl) (oV (za6 (l := a_t.fields) rfl hI sl52) (oV (zal rfl rfl) (rnf (zf h rfl (fun _ h => ?_) (fun _ h => ?_))))))
 ·refine wkf (zn (zu (zj (oM rfl (oV (zac rfl GTyp.f4 zcN rfl (z := a_t.fields)) (oV (zg ty52 rfl) (oM rfl (zb h fun y15 hy15 h => ?_))))))))
  refine oV (zaK (l := a_t.fields) rfl hI rfl sl52 hy15) (oV (zac rfl GFld.f2 zoj rfl (z := y15.optional)) (oV (zg ty4 rfl) (oM rfl (zaz (jb 26) je .nil h 7 rfl (fun q16 g16 h => ?_) (fun J17 h hJ17 => ?_)))))
  ·refine oM rfl (zaz (jb 32) je .nil h 5 rfl (fun q20 g20 h => ?_) (fun J21 h hJ21 => ?_))
   ·refine oT (zS (l := ([q20] : (List Bool))) el114 (.cons rfl hI .nil) rfl rfl (zad h fun q25 h => oT (zbA (l := q1.1) (m := ([q20] : (List Bool))) zmZ rfl hI rfl zJ .here q25 fun t24 => oA rfl (zx (zk (zA (zj (oM rfl ?_))))))))
    exact zE h fun q26 h => oV (zaf rfl rfl q26) (oA rfl (zx (hL2 _ (t24) h _ (ze 24 rfl rfl (za (j := 3) rfl hI (za (j := 4) rfl hI zd)) k1))))
   refine zC (j := 27) h rfl (fun g22 h => ?_) (fun g22 h => ?_)
   ·exact oP 27 rfl rfl g22 (oP 27 rfl rfl g22 (oP 27 rfl rfl g22 (oP 27 rfl rfl g22 (oV (zr rfl g22 rfl) (hJ21 _ () h _ (jk 5 32 rfl rfl rfl))))))
   exact oK 27 rfl rfl rfl g22 (zq rfl) (oK 27 rfl rfl rfl g22 (zac rfl GTyp.f5 zil rfl (z := a_t.root)) (oK 27 rfl rfl rfl g22 (zg ty3 rfl) (oK 27 rfl rfl rfl g22 (zeN rfl rfl) (oV (zs rfl g22 rfl) (hJ21 _ () h _ (jk 5 32 rfl rfl rfl))))))
  refine zC (j := 19) h rfl (fun g18 h => ?_) (fun g18 h => ?_)
  ·exact oP 19 rfl rfl g18 (oP 19 rfl rfl g18 (oP 19 rfl rfl g18 (oP 19 rfl rfl g18 (oP 19 rfl rfl g18 (oP 19 rfl rfl g18 (oV (zr rfl g18 rfl) (hJ17 _ () h _ (jk 7 26 rfl rfl rfl))))))))
  exact oK 19 rfl rfl rfl g18 (zac rfl GTyp.f4 zcN rfl (z := a_t.fields)) (oK 19 rfl rfl rfl g18 (zg ty52 rfl) (oK 19 rfl rfl rfl g18 (zq rfl) (zb h fun y19 hy19 h => oK 19 rfl rfl rfl g18 (zaK (l := a_t.fields) rfl hI rfl sl52 hy19) (oK 19 rfl rfl rfl g18 (zac rfl GFld.f3 zla rfl (z := y19.has)) (oK 19 rfl rfl rfl g18 (zg ty4 rfl) (oV (zs rfl g18 rfl) (hJ17 _ () h _ (jk 7 26 rfl rfl rfl))))))))
 refine zah (zX (eL2 _ _ (zK (zA (wsr (oM rfl (oA rfl (rnf ?_))))))))
 refine zN ?_
 cases h
 exact zo (.as rfl zJ .nil) .nil ⟨rfl, rfl⟩


theorem zln : ∀ {a_t : GTyp} {r : Int}, zfU a_t = some r → Ctr Tryd.prog 121 [isv (a_t)] [] (fun R H => R = oneOf [isv (r)] ∧ H = []) := by
 intro a_t r h
 unfold zfU at h
 refine zw Tryd.func121 rfl fun w0 S0 hT => wsr (oT (zbI (y := a_t) rfl hI (oA rfl (rnf (wsr (oV (zg ty54 rfl) (zb h fun y1 hy1 h => oT (zy (zhQ hy1) hT (s1 rfl) .nil ?_))))))))
 refine oA rfl (rnf (wsr (oV (zac rfl GTyp.f5 zil rfl (z := a_t.root)) (oV (zg ty3 rfl) (oA rfl (rnf (zn (zu ?_))))))))
 refine zbg (ι := Int) (γ := Unit) (fun q2 g2 => [(4, isv (q2))]) (fun q2 g2 => []) h () (za (j := 4) rfl hI zd) .nil (fun L3 q2 g2 Q16 h hL3 eL3 rL3 => zn (wsr (oM rfl (oV (zbY rfl rfl) (oM rfl (zaz (jb 17) je .nil h 6 rfl (fun q10 g10 h => ?_) (fun J11 h hJ11 => ?_)))))))
 ·refine rnf (zf h rfl (fun _ h => ?_) (fun _ h => ?_))
  ·refine wkf (zu (zj (oM rfl (zE h fun q15 h => oV (zbZ rfl rfl q15) (oA rfl (zx (zk ?_)))))))
   exact hL3 _ () h _ (ji 8 4 rfl rfl rfl)
  refine zah (zX (eL3 _ _ (zK (zA (wsr (oM rfl (oA rfl (rnf ?_))))))))
  refine zN ?_
  cases h
  exact zo (.tmp rfl .nil) .nil ⟨rfl, rfl⟩
 refine zC (j := 11) h rfl (fun g12 h => ?_) (fun g12 h => ?_)
 ·exact oK 11 rfl rfl rfl g12 (zq rfl) (oK 11 rfl rfl rfl g12 (zq rfl) (zE h fun q13 h => oK 11 rfl rfl rfl g12 (zbZ rfl rfl q13) (zb h fun y14 hy14 h => oK 11 rfl rfl rfl g12 (zaK (l := y1) rfl hI rfl sl114 hy14) (oK 11 rfl rfl rfl g12 (zg ty4 rfl) (oV (zr rfl g12 rfl) (hJ11 _ () h _ (ji 6 17 rfl rfl rfl)))))))
 exact oP 11 rfl rfl g12 (oP 11 rfl rfl g12 (oP 11 rfl rfl g12 (oP 11 rfl rfl g12 (oP 11 rfl rfl g12 (oV (zs rfl g12 rfl) (hJ11 _ () h _ (ji 6 17 rfl rfl rfl)))))))


theorem zgR : ∀ {a_x : GMk} {a_t : GTyp} {zG : Nat} {zY : Vt} {r : Bool × GMk}, zbp a_x a_t = some r → Ctr Tryd.prog 114 [ptrv zG (Fld.id (GMod × Vh × Int)), isv (a_t)] [boxE zG ((a_x.m, (Vh.mk zY a_x.l.length), a_x.e) : (GMod × Vh × Int)), vecE zY (a_x.l : List GTyp)] (fun R H => R = oneOf [isv (r.1)] ∧ H = [boxE zG ((r.2.m, (Vh.mk zY r.2.l.length), r.2.e)), vecE zY (r.2.l)]) := by
 intro a_x a_t zG zY r h
 unfold zbp at h
 refine zw Tryd.func114 rfl fun w0 S0 hT => wsr (oT (zbI (y := a_t) rfl hI (oA rfl (rnf (zn (wsr (oV (zac rfl GTyp.f0 zgz rfl (z := a_t.kind)) (oV (zg ty3 rfl) ?_))))))))
 refine oV (zcq rfl rfl) (rnf (zf h rfl (fun _ h => ?_) (fun _ h => ?_)))
 ·refine wsr (oM rfl (oV (zac rfl GTyp.f4 zcN rfl (z := a_t.fields)) (oV (zg ty52 rfl) (oV (zac rfl GTyp.f6 zka rfl (z := a_t.more)) (oV (zg ty4 rfl) (zb h fun y2 hy2 h => oT (zy (zdV hy2) hT (s3 rfl rfl rfl) k2 (oA rfl ?_))))))))
  refine rnf (zN (zB ?_))
  cases h
  exact zo (.tmp rfl .nil) k2 ⟨rfl, rfl⟩
 refine wkf (wsr (oV (zg ty54 rfl) (zb h fun y3 hy3 h => oT (zy (zhQ hy3) hT (s1 rfl) .nil (oA rfl (rnf (zn (wsr ?_))))))))
 refine oA rfl (rnf (zu (zbg (ι := Int × GMk) (γ := Unit) (fun q4 g4 => [(6, isv (q4.1))]) (fun q4 g4 => [boxE zG ((q4.2.m, (Vh.mk zY q4.2.l.length), q4.2.e) : (GMod × Vh × Int)), vecE zY (q4.2.l : List GTyp)]) h () (za (j := 6) rfl hI zd) k2 (fun L5 q4 g4 Q66 h hL5 eL5 rL5 => zn (wsr (oM rfl (oV (zac rfl GTyp.f4 zcN rfl (z := a_t.fields)) (oV (zg ty52 rfl) ?_))))))))
 refine oV (za6 (l := a_t.fields) rfl hI sl52) (oV (zal rfl rfl) (rnf (zf h rfl (fun _ h => ?_) (fun _ h => ?_))))
 ·refine wkf (zn (zdg (ι := GMk) (γ := Unit) (fun q36 g36 => []) (fun q36 g36 => [boxE zG ((q36.m, (Vh.mk zY q36.l.length), q36.e) : (GMod × Vh × Int)), vecE zY (q36.l : List GTyp)]) k2 h (fun q36 g36 h => ?_) (fun J37 h hJ37 => ?_)))
  ·exact zj (oM rfl (zE h fun q59 h => oV (zaf rfl rfl q59) (oA rfl (zx (hL5 _ () h _ (ze 9 rfl rfl (za (j := 6) rfl hI zd) k2))))))
  refine zu (zn (wsr (oM rfl (oM rfl (zb h fun y38 hy38 h => oV (zaK (l := y3) rfl hI rfl sl114 hy38) (oV (zg ty4 rfl) (oV (zbL rfl) ?_)))))))
  refine rnf (zf h rfl (fun _ h => ?_) (fun _ h => ?_))
  ·exact zah (zX (zK (hJ37 _ () h _ (ze 5 rfl rfl zd k2))))
  refine wkf (wsr (oM rfl (zE h fun q39 h => oV (zaf rfl rfl q39) (oA rfl (rnf (zn (zu ?_)))))))
  refine zbg (ι := Int) (γ := Unit) (fun q40 g40 => [(7, isv (q40))]) (fun q40 g40 => []) h () (za (j := 7) rfl hI zd) .nil (fun L41 q40 g40 Q58 h hL41 eL41 rL41 => zn (wsr (oM rfl (oV (zac rfl GTyp.f4 zcN rfl (z := a_t.fields)) (oV (zg ty52 rfl) (oV (za6 (l := a_t.fields) rfl hI sl52) (oV (zal rfl rfl) (oM rfl ?_))))))))
  refine zaz (jb 43) je .nil h 5 rfl (fun q50 g50 h => ?_) (fun J51 h hJ51 => ?_)
  ·refine rnf (zf h rfl (fun _ h => ?_) (fun _ h => ?_))
   ·refine wkf (zu (zj (oM rfl (zE h fun q54 h => oV (zaf rfl rfl q54) (oA rfl (zx (zk ?_)))))))
    exact hL41 _ () h _ (ze 11 rfl rfl (za (j := 7) rfl hI zd) k2)
   refine zah (zX (eL41 _ _ (zK (zA (wsr (oM rfl (oV (zac rfl GTyp.f4 zcN rfl (z := a_t.fields)) (oV (zg ty52 rfl) ?_))))))))
   refine oM rfl (oM rfl (zE h fun q55 h => oV (zaf rfl rfl q55) (oV (zac rfl GTyp.f4 zcN rfl (z := a_t.fields)) (oV (zg ty52 rfl) (oV (za6 (l := a_t.fields) rfl hI sl52) (oV (zpk rfl rfl) (zV h fun q56 h => ?_)))))))
   refine oV (zfJ (l := a_t.fields) rfl hI sl52 (.inr ⟨_, rfl, rfl⟩) (.inr ⟨_, rfl, rfl⟩) q56.1 q56.2.1 q56.2.2) (zb h fun y57 hy57 h => oT (zy (zdV hy57) hT (s3 rfl rfl rfl) k2 (oV (zbL rfl) (rnf (zf h rfl (fun _ h => ?_) (fun _ h => ?_))))))
   ·refine wsr (oA rfl (rnf (zN (zD (zB (rL5 _ (zD (zB ?_))))))))
    cases h
    exact zo (.tmp rfl .nil) k2 ⟨rfl, rfl⟩
   exact zW (zk (hJ37 _ () h _ (ze 29 rfl rfl zd k2)))
  refine zC (j := 38) h rfl (fun g52 h => ?_) (fun g52 h => ?_)
  ·exact oK 38 rfl rfl rfl g52 (zq rfl) (oK 38 rfl rfl rfl g52 (zq rfl) (zb h fun y53 hy53 h => oK 38 rfl rfl rfl g52 (zaK (l := y3) rfl hI rfl sl114 hy53) (oK 38 rfl rfl rfl g52 (zg ty4 rfl) (oV (zr rfl g52 rfl) (hJ51 _ () h _ (ze 5 rfl rfl (za (j := 43) rfl hI zd) k2))))))
  exact oP 38 rfl rfl g52 (oP 38 rfl rfl g52 (oP 38 rfl rfl g52 (oP 38 rfl rfl g52 (oV (zs rfl g52 rfl) (hJ51 _ () h _ (ze 5 rfl rfl (za (j := 43) rfl hI zd) k2))))))
 refine zah (zX (eL5 _ _ (zK (zA (zn (zU (.v 0 (.v 1 (.v 2 (.v 3 (.v 4 (.v 5 (.v 6 (.v 7 (.t 8 (.v 9 (.t 10 (.v 11 (.v 12 .nil))))))))))))) moOrd (by kernel_rfl) ?_))))))
 refine zt rfl (zac rfl GTyp.f6 zka rfl (z := a_t.more)) (zt rfl (zg ty4 rfl) (zt rfl (zbL rfl) (rvm rfl rfl (zc9 (ι := Bool × GMk) (γ := Unit) (fun q60 g60 => [(70, isv (q60.1))]) (fun q60 g60 => [boxE zG ((q60.2.m, (Vh.mk zY q60.2.l.length), q60.2.e) : (GMod × Vh × Int)), vecE zY (q60.2.l : List GTyp)]) k2 h 8 rfl (fun q60 g60 h => ?_) (fun J61 h hJ61 => ?_)))))
 ·refine zt rfl (za8 rfl) (zae (zA (zN ?_)))
  cases h
  exact zo (.tmp rfl .nil) k2 ⟨rfl, rfl⟩
 refine zaF (j := 62) h rfl (fun g62 h => ?_) (fun g62 h => ?_)
 ·exact rpv 62 rfl rfl rfl g62 (rpv 62 rfl rfl rfl g62 (rpv 62 rfl rfl rfl g62 (rpv 62 rfl rfl rfl g62 (zdx rfl rfl (dj := 62) rfl g62 (rpv 62 rfl rfl rfl g62 (zdx rfl rfl (dj := 62) rfl g62 (zt rfl (zr rfl g62 rfl) (hJ61 _ () h _ (ze 8 rfl rfl (za (j := 70) rfl hI zd) k2)))))))))
 refine rvt 62 rfl rfl rfl g62 (zq rfl) (rvt 62 rfl rfl rfl g62 (zac rfl GTyp.f4 zcN rfl (z := a_t.fields)) (rvt 62 rfl rfl rfl g62 (zg ty52 rfl) (rvt 62 rfl rfl rfl g62 (zg ty54 rfl) (zb h fun y63 hy63 h => zg0 rfl rfl rfl (dj := 62) rfl g62 (zy (zln hy63) hT (s1 rfl) .nil (zV h fun q64 h => rvt 62 rfl rfl rfl g62 (zfJ (l := a_t.fields) rfl hI sl52 (.inr ⟨_, rfl, rfl⟩) (.inl ⟨rfl, rfl⟩) q64.1 q64.2.1 q64.2.2) (zb h fun y65 hy65 h => ?_)))))))
 exact zg0 rfl rfl rfl (dj := 62) rfl g62 (zy (zdV hy65) hT (s3 rfl rfl rfl) k2 (zt rfl (zs rfl g62 rfl) (hJ61 _ () h _ (ze 8 rfl rfl (za (j := 70) rfl hI zd) k2))))


def zcB (f' : GMk → Int → GNode → Int → Option (GMk)) : Prop :=
 ∀ {a_x : GMk} {a_i : Int} {a_n_ : GNode} {zQ : Int} {zG : Nat} {zY : Vt} {r : GMk}, f' a_x a_i a_n_ zQ = some r → Ctr Tryd.prog 104 [ptrv zG (Fld.id (GMod × Vh × Int)), isv (a_i), isv (a_n_), isv (zQ)] [boxE zG ((a_x.m, (Vh.mk zY a_x.l.length), a_x.e) : (GMod × Vh × Int)), vecE zY (a_x.l : List GTyp)] (fun R H => ∃ u1 : Vt, R = oneOf [] ∧ H = [boxE zG ((r.m, (Vh.mk u1 r.l.length), r.e)), vecE u1 (r.l)])
def zcw (f' : GMk → Int → Int → Option (Int × GMk)) : Prop :=
 ∀ {a_x : GMk} {a_k : Int} {zQ : Int} {zG : Nat} {zY : Vt} {r : Int × GMk}, f' a_x a_k zQ = some r → Ctr Tryd.prog 60 [ptrv zG (Fld.id (GMod × Vh × Int)), isv (a_k), isv (zQ)] [boxE zG ((a_x.m, (Vh.mk zY a_x.l.length), a_x.e) : (GMod × Vh × Int)), vecE zY (a_x.l : List GTyp)] (fun R H => ∃ u1 : Vt, R = oneOf [isv (r.1)] ∧ H = [boxE zG ((r.2.m, (Vh.mk u1 r.2.l.length), r.2.e)), vecE u1 (r.2.l)])
def zc0 (f' : GMk → GNode → Int → Option (Int × GMk)) : Prop :=
 ∀ {a_x : GMk} {a_n_ : GNode} {zQ : Int} {zG : Nat} {zY : Vt} {r : Int × GMk}, f' a_x a_n_ zQ = some r → Ctr Tryd.prog 90 [ptrv zG (Fld.id (GMod × Vh × Int)), isv (a_n_), isv (zQ)] [boxE zG ((a_x.m, (Vh.mk zY a_x.l.length), a_x.e) : (GMod × Vh × Int)), vecE zY (a_x.l : List GTyp)] (fun R H => ∃ u1 : Vt, R = oneOf [isv (r.1)] ∧ H = [boxE zG ((r.2.m, (Vh.mk u1 r.2.l.length), r.2.e)), vecE u1 (r.2.l)])
theorem zgq {zaH : GMk → Int → GNode → Int → Option (GMk)} {zaI : GMk → Int → Int → Option (Int × GMk)} {zaS : GMk → GNode → Int → Option (Int × GMk)} (zdh : zcB zaH) (zbO : zcw zaI) (zdW : zc0 zaS) : ∀ {a_x : GMk} {a_i : Int} {a_n_ : GNode} {zQ : Int} {zG : Nat} {zY : Vt} {r : GMk}, zbr zaH zaI zaS a_x a_i a_n_ zQ = some r → Ctr Tryd.prog 104 [ptrv zG (Fld.id (GMod × Vh × Int)), isv (a_i), isv (a_n_), isv (zQ)] [boxE zG ((a_x.m, (Vh.mk zY a_x.l.length), a_x.e) : (GMod × Vh × Int)), vecE zY (a_x.l : List GTyp)] (fun R H => ∃ u1 : Vt, R = oneOf [] ∧ H = [boxE zG ((r.m, (Vh.mk u1 r.l.length), r.e)), vecE u1 (r.l)]) := by
 intro a_x a_i a_n_ zQ zG zY r h
 unfold zbr at h
 refine zw Tryd.func104 rfl fun w0 S0 hT => wsr (oT (zbI (y := a_n_) rfl hI (rnf (wsr (oM rfl (oV (zp rfl) (oV (z8 rfl zdZ zfn) (oV (z8 rfl GMod.f1 zjt) ?_))))))))
 refine oT (zI (R := isv (a_x.m.tagging)) ty3 rfl .here hI (oV (zcq rfl rfl) (oA rfl (rnf (zn (wsr (oA rfl (rnf (zu ?_)))))))))
 refine zbg (ι := Bool × Int) (γ := Unit) (fun q2 g2 => [(0, ptrv zG (Fld.id (GMod × Vh × Int))), (8, isv (q2.1)), (9, isv (q2.2))]) (fun q2 g2 => []) h () (za (j := 0) rfl hI (za (j := 8) rfl hI (za (j := 9) rfl hI zd))) .nil (fun L3 q2 g2 Q336 h hL3 eL3 rL3 => zn (wsr (oM rfl (oV (zac rfl GNode.f5 zcT rfl (z := a_n_.fields)) (oV (zg ty52 rfl) (oV (za6 (l := a_n_.fields) rfl hI sl52) (oV (zal rfl rfl) (rnf ?_))))))))
 refine zf h rfl (fun _ h => ?_) (fun _ h => ?_)
 ·refine wkf (zn (zu (wsr (oV (zac rfl GNode.f5 zcT rfl (z := a_n_.fields)) (oV (zg ty52 rfl) (oM rfl (zb h fun y170 hy170 h => oV (zaK (l := a_n_.fields) rfl hI rfl sl52 hy170) ?_)))))))
  refine oV (zg ty65 rfl) (oT (zab _ ze65 fun b171 => oT (zi (y' := (y170 : GFld)) ty65 rfl rfl hI .here rfl (zai (zas 10 .here rfl) (rnf (zcR 0 .here rfl (fun o172 hn173 => zU (.v 0 (.v 1 (.v 2 (.v 3 (.v 4 (.v 5 (.v 6 (.v 7 (.v 8 (.v 9 (.v 10 (.v 11 (.v 12 (.v 13 (.v 14 .nil))))))))))))))) moOrd (by kernel_rfl) ?_)))))))
  refine rvm rfl rfl (rvm rfl rfl (zc9 (jb 46) je .nil h 12 rfl (fun q174 g174 h => ?_) (fun J175 h hJ175 => ?_)))
  ·refine zt rfl (za8 rfl) (zae (zaU 0 hn173 rfl (zk (zA (zj (oM rfl (zE h fun q178 h => oV (zaf rfl rfl q178) ?_)))))))
   exact oA rfl (zx (hL3 _ () h _ (ze 24 rfl rfl (za (j := 0) rfl hI (za (j := 8) rfl hI (za (j := 9) rfl hI zd))) k2)))
  refine zaF (j := 34) h rfl (fun g176 h => ?_) (fun g176 h => ?_)
  ·refine rpv 34 rfl rfl rfl g176 (rpv 34 rfl rfl rfl g176 (rpv 34 rfl rfl rfl g176 (rpv 34 rfl rfl rfl g176 (rpv 34 rfl rfl rfl g176 (rpv 34 rfl rfl rfl g176 (rpv 34 rfl rfl rfl g176 (rpv 34 rfl rfl rfl g176 (rpv 34 rfl rfl rfl g176 ?_))))))))
   exact rpv 34 rfl rfl rfl g176 (rpv 34 rfl rfl rfl g176 (zt rfl (zr rfl g176 rfl) (hJ175 _ () h _ (jk 12 46 rfl rfl rfl))))
  refine rvt 34 rfl rfl rfl g176 (zq rfl) (rvt 34 rfl rfl rfl g176 (zbs rfl) (rvt 34 rfl rfl rfl g176 (zfe rfl zdZ zfn) (rvt 34 rfl rfl rfl g176 (zfe rfl GMod.f4 zfv) (rvt 34 rfl rfl rfl g176 (zc1 (R := isv (a_x.m.nodes)) ty28 rfl (List.Mem.head _) hI) (rvt 34 rfl rfl rfl g176 (zac rfl GFld.f1 zdn rfl (z := y170.ty)) (rvt 34 rfl rfl rfl g176 (zg ty3 rfl) (zb h fun y177 hy177 h => rvt 34 rfl rfl rfl g176 (zaK (l := a_x.m.nodes) rfl hI rfl sl28 hy177) ?_)))))))
  exact rvt 34 rfl rfl rfl g176 (zac rfl GNode.f2 zeL rfl (z := y177.mark)) (rvt 34 rfl rfl rfl g176 (zac rfl GMark.f0 zjs rfl (z := y177.mark.has)) (rvt 34 rfl rfl rfl g176 (zg ty4 rfl) (zt rfl (zs rfl g176 rfl) (hJ175 _ () h _ (jk 12 46 rfl rfl rfl)))))
 refine zah (zX (eL3 _ _ (zK (zA (zn (wsr (oV (zac rfl GNode.f0 zbH rfl (z := a_n_.kind)) (oV (zg ty3 rfl) ?_))))))))
 refine oV (zam rfl rfl) (oM rfl (zaz (jb 55) je .nil h 5 rfl (fun q179 g179 h => ?_) (fun J180 h hJ180 => ?_)))
 ·refine oM rfl (zaz (jb 60) je .nil h 4 rfl (fun q182 g182 h => ?_) (fun J183 h hJ183 => ?_))
  ·refine rnf (zdg (ι := GMk) (γ := Unit) (fun q185 g185 => []) (fun q185 g185 => [boxE zG ((q185.m, (Vh.mk zY q185.l.length), q185.e) : (GMod × Vh × Int)), vecE zY (q185.l : List GTyp)]) k2 h (fun q185 g185 h => ?_) (fun J186 h hJ186 => ?_))
   ·refine wsr (oA rfl (rnf (zn (wsr (oA rfl (rnf (zu (zfF (zbf) ?_))))))))
    refine zbg (ι := (List GFld) × Int × GMk) (γ := Tok × Vt) (fun q188 g188 => [(11, appv g188.1 (q188.1)), (12, isv (q188.2.1))]) (fun q188 g188 => [tokE g188.1, boxE zG ((q188.2.2.m, (Vh.mk g188.2 q188.2.2.l.length), q188.2.2.e) : (GMod × Vh × Int)), vecE g188.2 (q188.2.2.l : List GTyp)]) h (none, zY) (za (j := 11) rfl zbF (za (j := 12) rfl hI zd)) k3 (fun L189 q188 g188 Q335 h hL189 eL189 rL189 => zn (wsr (oM rfl (oV (zac rfl GNode.f5 zcT rfl (z := a_n_.fields)) (oV (zg ty52 rfl) (oV (za6 (l := a_n_.fields) rfl hI sl52) (oV (zal rfl rfl) (oM rfl ?_))))))))
    refine zaz (jb 74) je .nil h 6 rfl (fun q262 g262 h => ?_) (fun J263 h hJ263 => ?_)
    ·refine rnf (zf h rfl (fun _ h => ?_) (fun _ h => ?_))
     ·refine wkf (zn (zu (wsr (oV (zac rfl GNode.f5 zcT rfl (z := a_n_.fields)) (oV (zg ty52 rfl) (oM rfl (zb h fun y265 hy265 h => oV (zaK (l := a_n_.fields) rfl hI rfl sl52 hy265) ?_)))))))
      refine oV (zg ty65 rfl) (oT (zab _ ze65 fun b266 => oT (zi (y' := (y265 : GFld)) ty65 rfl rfl hI .here rfl (rnf (zn (wsr (oA rfl (rnf (zu ?_)))))))))
      refine zbg (ι := Int × GMk) (γ := Unit) (fun q267 g267 => [(13, ptrv b266 (Fld.id GFld)), (14, isv (q267.1))]) (fun q267 g267 => [boxE zG ((q267.2.m, (Vh.mk g188.2 q267.2.l.length), q267.2.e) : (GMod × Vh × Int)), vecE g188.2 (q267.2.l : List GTyp)]) h () (za (j := 13) rfl hI (za (j := 14) rfl hI zd)) (.cons tI (.cons tI .nil)) (fun L268 q267 g267 Q327 h hL268 eL268 rL268 => zn (wsr (oM rfl (oM rfl (oV (zal rfl rfl) (rnf (zf h rfl (fun _ h => ?_) (fun _ h => ?_))))))))
      ·refine wkf (zn (zdg (ι := GMk) (γ := Unit) (fun q298 g298 => [(13, ptrv b266 (Fld.id GFld))]) (fun q298 g298 => [boxE zG ((q298.m, (Vh.mk g188.2 q298.l.length), q298.e) : (GMod × Vh × Int)), vecE g188.2 (q298.l : List GTyp)]) k2 h (fun q298 g298 h => ?_) (fun J299 h hJ299 => ?_)))
       ·exact zj (oM rfl (zE h fun q304 h => oV (zaf rfl rfl q304) (oA rfl (zx (hL268 _ () h _ (ze 9 rfl rfl (za (j := 13) rfl hI (za (j := 14) rfl hI zd)) k4))))))
       refine zu (zn (zcR 13 tI rfl (fun o300 hn301 => zU (.v 0 (.v 1 (.v 2 (.v 3 (.v 4 (.v 5 (.v 6 (.v 7 (.v 8 .nil))))))))) moOrd (by kernel_rfl) ?_)))
       refine zt rfl (zac rfl GNode.f5 zcT rfl (z := a_n_.fields)) (zt rfl (zg ty52 rfl) (rvm rfl rfl (zb h fun y302 hy302 h => zt rfl (zaK (l := a_n_.fields) rfl hI rfl sl52 hy302) (zt rfl (zac rfl GFld.f0 zli rfl (z := y302.name)) (zt rfl (zg ty9 rfl) (zt rfl (zfe rfl GFld.f0 zli) (zt rfl (zc1 (R := isv (y265.name)) ty9 rfl (List.Mem.head _) hI) ?_)))))))
       refine zt rfl (zcx eq9 rfl rfl) (zae (zaU 13 hn301 rfl (zA (zf h rfl (fun _ h => ?_) (fun _ h => ?_)))))
       ·exact zj (oM rfl (zb h fun y303 hy303 h => oT (zy (zbc hy303) hT (s2 rfl rfl) (.cons tH (.cons tH .nil)) (zx (zk (hJ299 _ () h _ (ze 13 rfl rfl (za (j := 13) rfl hI zd) k4)))))))
       exact zW (zk (hJ299 _ () h _ (ze 11 rfl rfl (za (j := 13) rfl hI zd) (.cons tH (.cons tH k2)))))
      refine zah (zX (eL268 _ _ (zK (zA (wsr (oM rfl (oV (z8 rfl GFld.f1 zdn) (oT (zI (R := isv (y265.ty)) ty3 rfl tI hI ?_)))))))))
      refine oM rfl (zE h fun q305 h => oV (zaf rfl rfl q305) (zb h fun y306 hy306 h => oT (zL (zbO hy306) hT (s3 rfl rfl rfl) k2 (fun R H' hR => ?_))))
      obtain ⟨v307, rfl, rfl⟩ := hR
      refine oV (z8 rfl GFld.f1 zdn) (oT (zi (y' := ({ y265 with ty := y306.1 } : GFld)) ty3 rfl rfl hI tI rfl (rnf (zn (wsr (oM rfl (oV (zp rfl) (oV (z8 rfl zcf zdd) (oT (zI (R := isv (y306.2.e)) ty31 rfl tH hI ?_))))))))))
      refine oV (zam rfl rfl) (oM rfl (zaz (jb 113) je .nil h 3 rfl (fun q308 g308 h => ?_) (fun J309 h hJ309 => ?_)))
      ·refine rnf (zdg (ι := GFld × GMk) (γ := Unit) (fun q311 g311 => []) (fun q311 g311 => [boxE b266 (q311.1 : GFld), boxE zG ((q311.2.m, (Vh.mk v307 q311.2.l.length), q311.2.e) : (GMod × Vh × Int)), vecE v307 (q311.2.l : List GTyp)]) k3 h (fun q311 g311 h => ?_) (fun J312 h hJ312 => ?_))
       ·refine zn (wsr (oM rfl (oV (zp rfl) (oV (z8 rfl zcf zdd) (oT (zI (R := isv (q311.2.e)) ty31 rfl tH hI (oV (zam rfl rfl) (oM rfl (zaz (jb 129) je .nil h 3 rfl (fun q314 g314 h => ?_) (fun J315 h hJ315 => ?_))))))))))
        ·refine rnf (zdg (ι := GMk) (γ := Unit) (fun q317 g317 => [(13, ptrv b266 (Fld.id GFld))]) (fun q317 g317 => [boxE zG ((q317.m, (Vh.mk v307 q317.l.length), q317.e) : (GMod × Vh × Int)), vecE v307 (q317.l : List GTyp)]) (.cons tH (.cons tH .nil)) h (fun q317 g317 h => ?_) (fun J318 h hJ318 => ?_))
         ·refine zj (oM rfl (oT (zI (R := isv (q311.1)) ty65 rfl tI hI (oT (zS (l := ([q311.1] : (List GFld))) el52 (.cons rfl hI .nil) rfl rfl (zad h fun q325 h => oT (zbA (l := q188.1) (m := ([q311.1] : (List GFld))) zjy rfl hI rfl zJ (.there tI) q325 fun t324 => oA rfl (zx (zk ?_)))))))))
          exact zA (zj (oM rfl (zE h fun q326 h => oV (zaf rfl rfl q326) (oA rfl (zx (hL189 _ (t324, v307) h _ (ze 51 rfl rfl (za (j := 11) rfl hI (za (j := 12) rfl hI zd)) k3)))))))
         refine zf h rfl (fun _ h => ?_) (fun _ h => ?_)
         ·refine zcR 13 .here rfl (fun o319 hn320 => zU (.v 0 (.v 1 (.v 2 (.v 3 (.v 4 (.v 5 (.v 6 (.t 7 (.t 8 .nil))))))))) moOrd (by kernel_rfl) ?_)
          refine rvm rfl rfl (zt rfl (zfe rfl GFld.f1 zdn) (zt rfl (zc1 (R := isv (q311.1.ty)) ty3 rfl (List.Mem.head _) hI) (rvm rfl rfl (rvm rfl rfl (zt rfl (zfe rfl GFld.f1 zdn) (zt rfl (zc1 (R := isv (q311.1.ty)) ty3 rfl (List.Mem.head _) hI) (zb h fun y321 hy321 h => zT rfl rfl (zy (ze8 hy321) hT (s2 rfl rfl) k2 ?_))))))))
          exact zb h fun y322 hy322 h => zT rfl rfl (zy (ze2 hy322) hT (s4 rfl rfl rfl rfl) k2 (zae (zaU 13 hn320 rfl (hJ318 _ () h _ (ze 11 rfl rfl (za (j := 13) rfl hI zd) (.cons tH (.cons tH k2)))))))
         exact zW (hJ318 _ () h _ (ze 0 rfl rfl (za (j := 13) rfl hI zd) (.cons tH (.cons tH k2))))
        refine zC (j := 126) h rfl (fun g316 h => ?_) (fun g316 h => ?_)
        ·exact oK 126 rfl rfl rfl g316 (zq rfl) (oK 126 rfl rfl rfl g316 (zbL rfl) (oV (zr rfl g316 rfl) (hJ315 _ () h _ (ze 3 rfl rfl (za (j := 129) rfl hI zd) k4))))
        exact oP 126 rfl rfl g316 (oP 126 rfl rfl g316 (oV (zs rfl g316 rfl) (hJ315 _ () h _ (ze 3 rfl rfl (za (j := 129) rfl hI zd) k4))))
       refine zf h rfl (fun _ h => ?_) (fun _ h => ?_)
       ·refine zj (oM rfl (oV (z8 rfl GFld.f1 zdn) (oT (zI (R := isv (y306.1)) ty3 rfl .here hI (oV (z8 rfl GFld.f4 zlB) (oT (zI (R := isv (y265.dflt)) ty63 rfl .here hI (zb h fun y313 hy313 h => oT (zy (zfY hy313) hT (s3 rfl rfl rfl) (.cons tH (.cons tH .nil)) (oV (z8 rfl GFld.f4 zlB) ?_))))))))))
        exact oT (zi (y' := ({ { y265 with ty := y306.1 } with dflt := y313.1 } : GFld)) ty63 rfl rfl hI tI rfl (zx (hJ312 _ () h _ (ze 7 rfl rfl zd k4))))
       exact zW (hJ312 _ () h _ (ze 0 rfl rfl zd k4))
      refine zC (j := 110) h rfl (fun g310 h => ?_) (fun g310 h => ?_)
      ·exact oK 110 rfl rfl rfl g310 (z8 rfl GFld.f3 zla) (zaA rfl rfl (dj := 110) rfl g310 (zI (R := isv (y265.has)) ty4 rfl .here hI (oV (zr rfl g310 rfl) (hJ309 _ () h _ (ze 3 rfl rfl (za (j := 113) rfl hI zd) k4)))))
      exact oP 110 rfl rfl g310 (oP 110 rfl rfl g310 (oV (zs rfl g310 rfl) (hJ309 _ () h _ (ze 3 rfl rfl (za (j := 113) rfl hI zd) k4))))
     refine zah (zX (eL189 _ _ (zK (zA (wsr (oM rfl (oV (zp rfl) (oV (z8 rfl zcf zdd) ?_))))))))
     refine oT (zI (R := isv (q188.2.2.e)) ty31 rfl tH hI (oV (zam rfl rfl) (rnf (zf h rfl (fun _ h => ?_) (fun _ h => ?_)))))
     ·refine wsr (oM rfl (oV (zp rfl) (oV (z8 rfl zbG zcn) (oT (zI (R := vecv g188.2 (q188.2.2.l.length)) ty38 rfl tH isvV1 (oM rfl (oM rfl (zV h fun q328 h => oV (zaR (α := GTyp) sl38 rfl rfl q328.1 q328.2) ?_))))))))
      refine oV (zgp rfl GTyp.f4 zcN) (zb h fun y329 hy329 h => zai (zaC 153 rfl (zJ)) (oT (zbh ty52 rfl rfl tI hy329 (zai (zgg (y := ((q188.2.2.m, (Vh.mk g188.2 (q188.2.2.l.set a_i.toNat ({ y329 with fields := q188.1 })).length), q188.2.2.e) : (GMod × Vh × Int))) tI (fun S => (Cv.pair Cv.id (Cv.pair (Cv.vhe (by first | rfl | simp)) Cv.id)))) ?_))))
      refine rnf (wsr (oM rfl (oM rfl (oV (zp rfl) (oV (z8 rfl zbG zcn) (oT (zI (R := vecv g188.2 ((q188.2.2.l.set a_i.toNat ({ y329 with fields := q188.1 })).length)) ty38 rfl .here isvV1 (oM rfl (zV h fun q330 h => ?_)))))))))
      refine oV (zaR (α := GTyp) sl38 rfl rfl q330.1 q330.2) (zb h fun y331 hy331 h => oT (za4 ty54 rfl tH hy331 ?_))
      refine zb h fun y332 hy332 h => oT (zy (zgR hy332) hT (s2 rfl rfl) k2 (oV (zbL rfl) (rnf (zf h rfl (fun _ h => ?_) (fun _ h => ?_)))))
      ·refine zj (oM rfl (zb h fun y333 hy333 h => oT (zy (zbc hy333) hT (s2 rfl rfl) k2 (zx (zao .nil k2 ?_)))))
       cases h
       exact ⟨g188.2, rfl, rfl⟩
      refine zW (zao .nil k2 ?_)
      cases h
      exact ⟨g188.2, rfl, rfl⟩
     refine zW (zao .nil (.cons tH (.cons tH .nil)) ?_)
     cases h
     exact ⟨g188.2, rfl, rfl⟩
    refine zC (j := 68) h rfl (fun g264 h => ?_) (fun g264 h => ?_)
    ·exact oK 68 rfl rfl rfl g264 (zq rfl) (oK 68 rfl rfl rfl g264 (zp rfl) (oK 68 rfl rfl rfl g264 (z8 rfl zcf zdd) (zaA rfl rfl (dj := 68) rfl g264 (zI (R := isv (q188.2.2.e)) ty31 rfl tH hI (oK 68 rfl rfl rfl g264 (zam rfl rfl) (oV (zr rfl g264 rfl) (hJ263 _ () h _ (ze 6 rfl rfl (za (j := 74) rfl hI zd) k3))))))))
    exact oP 68 rfl rfl g264 (oP 68 rfl rfl g264 (oP 68 rfl rfl g264 (oP 68 rfl rfl g264 (oP 68 rfl rfl g264 (oV (zs rfl g264 rfl) (hJ263 _ () h _ (ze 6 rfl rfl (za (j := 74) rfl hI zd) k3)))))))
   refine zf h rfl (fun _ h => ?_) (fun _ h => ?_)
   ·exact zj (oM rfl (zb h fun y187 hy187 h => oT (zy (zbc hy187) hT (s2 rfl rfl) k2 (zx (hJ186 _ () h _ (ze 2 rfl rfl zd k2))))))
   exact zW (hJ186 _ () h _ (ze 0 rfl rfl zd k2))
  refine zC (j := 56) h rfl (fun g184 h => ?_) (fun g184 h => ?_)
  ·exact oK 56 rfl rfl rfl g184 (zac rfl GNode.f7 zei rfl (z := a_n_.more)) (oK 56 rfl rfl rfl g184 (zg ty4 rfl) (oK 56 rfl rfl rfl g184 (zbL rfl) (oV (zr rfl g184 rfl) (hJ183 _ () h _ (ze 4 rfl rfl (za (j := 60) rfl hI zd) k2)))))
  exact oP 56 rfl rfl g184 (oP 56 rfl rfl g184 (oP 56 rfl rfl g184 (oV (zs rfl g184 rfl) (hJ183 _ () h _ (ze 4 rfl rfl (za (j := 60) rfl hI zd) k2)))))
 refine zC (j := 50) h rfl (fun g181 h => ?_) (fun g181 h => ?_)
 ·exact oK 50 rfl rfl rfl g181 (zac rfl GNode.f5 zcT rfl (z := a_n_.fields)) (oK 50 rfl rfl rfl g181 (zg ty52 rfl) (oK 50 rfl rfl rfl g181 (za6 (l := a_n_.fields) rfl hI sl52) (oK 50 rfl rfl rfl g181 (zam rfl rfl) (oV (zr rfl g181 rfl) (hJ180 _ () h _ (ze 5 rfl rfl (za (j := 55) rfl hI zd) k2))))))
 exact oP 50 rfl rfl g181 (oP 50 rfl rfl g181 (oP 50 rfl rfl g181 (oP 50 rfl rfl g181 (oV (zs rfl g181 rfl) (hJ180 _ () h _ (ze 5 rfl rfl (za (j := 55) rfl hI zd) k2))))))

theorem zg6 {zaH : GMk → Int → GNode → Int → Option (GMk)} {zaI : GMk → Int → Int → Option (Int × GMk)} {zaS : GMk → GNode → Int → Option (Int × GMk)} (zdh : zcB zaH) (zbO : zcw zaI) (zdW : zc0 zaS) : ∀ {a_x : GMk} {a_k : Int} {zQ : Int} {zG : Nat} {zY : Vt} {r : Int × GMk}, zbv zaH zaI zaS a_x a_k zQ = some r → Ctr Tryd.prog 60 [ptrv zG (Fld.id (GMod × Vh × Int)), isv (a_k), isv (zQ)] [boxE zG ((a_x.m, (Vh.mk zY a_x.l.length), a_x.e) : (GMod × Vh × Int)), vecE zY (a_x.l : List GTyp)] (fun R H => ∃ u1 : Vt, R = oneOf [isv (r.1)] ∧ H = [boxE zG ((r.2.m, (Vh.mk u1 r.2.l.length), r.2.e)), vecE u1 (r.2.l)]) := by
 intro a_x a_k zQ zG zY r h
 unfold zbv at h
 refine zw Tryd.func60 rfl fun w0 S0 hT => wsr (oA rfl (rnf (zn (wsr (oM rfl (oV (zp rfl) (oV (z8 rfl zcf zdd) ?_)))))))
 refine oT (zI (R := isv (a_x.e)) ty31 rfl .here hI (oV (zcq rfl rfl) (rnf (zf h rfl (fun _ h => ?_) (fun _ h => ?_)))))
 ·refine wsr (oA rfl (rnf (zN (zB (zo (.tmp rfl .nil) k2 ?_)))))
  cases h
  exact ⟨zY, rfl, rfl⟩
 refine wkf (wsr (oM rfl (oV (zp rfl) (oV (z8 rfl zdZ zfn) (oV (z8 rfl GMod.f4 zfv) (oT (zI (R := isv (a_x.m.nodes)) ty28 rfl .here hI (oM rfl (zb h fun y2 hy2 h => ?_)))))))))
 refine oV (zaK (l := a_x.m.nodes) rfl hI rfl sl28 hy2) (oV (zg ty108 rfl) (oT (zab _ ze108 fun b3 => oT (zi (y' := (y2 : GNode)) ty108 rfl rfl hI .here rfl (zai (zas 7 .here rfl) (rnf (wsr (oA rfl (rnf ?_)))))))))
 refine zn (wsr (oV (zac rfl GNode.f0 zbH rfl (z := y2.kind)) (oV (zg ty3 rfl) (oV (zam rfl rfl) (rnf (zdg (ι := Int × GMk) (γ := Vt) (fun q4 g4 => [(8, isv (q4.1))]) (fun q4 g4 => [boxE zG ((q4.2.m, (Vh.mk g4 q4.2.l.length), q4.2.e) : (GMod × Vh × Int)), vecE g4 (q4.2.l : List GTyp)]) k2 h (fun q4 g4 h => ?_) (fun J5 h hJ5 => ?_)))))))
 ·refine zn (wsr (oM rfl (oV (zp rfl) (oV (z8 rfl zcf zdd) (oT (zI (R := isv (q4.2.e)) ty31 rfl .here hI (oV (zam rfl rfl) (oM rfl (zaz (jb 56) je .nil h 4 rfl (fun q14 g14 h => ?_) (fun J15 h hJ15 => ?_))))))))))
  ·refine rnf (zdg (ι := GMk) (γ := Unit) (fun q17 g17 => []) (fun q17 g17 => [boxE zG ((q17.m, (Vh.mk g4 q17.l.length), q17.e) : (GMod × Vh × Int)), vecE g4 (q17.l : List GTyp)]) k2 h (fun q17 g17 h => ?_) (fun J18 h hJ18 => ?_))
   ·refine wsr (oM rfl (oA rfl (rnf (zN (zo (.tmp rfl .nil) k2 ?_)))))
    cases h
    exact ⟨g4, rfl, rfl⟩
   refine zf h rfl (fun _ h => ?_) (fun _ h => ?_)
   ·refine wsr (oA rfl (rnf (zn (zdg (ι := Int × GMk) (γ := Unit) (fun q19 g19 => [(9, isv (q19.1))]) (fun q19 g19 => [boxE zG ((q19.2.m, (Vh.mk g4 q19.2.l.length), q19.2.e) : (GMod × Vh × Int)), vecE g4 (q19.2.l : List GTyp)]) k2 h (fun q19 g19 h => ?_) (fun J20 h hJ20 => ?_)))))
    ·refine zj (oM rfl (oM rfl (oV (zac rfl GNode.f2 zeL rfl (z := y2.mark)) (oV (zac rfl GMark.f1 zlU rfl (z := y2.mark.number)) (oV (zg ty3 rfl) (oM rfl (zb h fun y25 hy25 h => oT (zy (ze2 hy25) hT (s4 rfl rfl rfl rfl) k2 ?_))))))))
     exact zx (hJ18 _ () h _ (ze 9 rfl rfl zd k2))
    refine zu (wsr (oV (zac rfl GNode.f2 zeL rfl (z := y2.mark)) (oV (zac rfl GMark.f2 zh3 rfl (z := y2.mark.mode)) (oV (zg ty3 rfl) (oV (zam rfl rfl) (oA rfl (rnf (zf h rfl (fun _ h => ?_) (fun _ h => ?_)))))))))
    ·exact zj (oA rfl (zx (zk (hJ20 _ () h _ (ze 6 rfl rfl (za (j := 9) rfl hI zd) k2)))))
    refine wsr (oV (zac rfl GNode.f2 zeL rfl (z := y2.mark)) (oV (zac rfl GMark.f2 zh3 rfl (z := y2.mark.mode)) (oV (zg ty3 rfl) (oV (zam rfl rfl) (oM rfl (zaz (jb 74) je .nil h 7 rfl (fun q21 g21 h => ?_) (fun J22 h hJ22 => ?_)))))))
    ·refine oA rfl (rnf (zf h rfl (fun _ h => ?_) (fun _ h => ?_)))
     ·exact zj (oM rfl (oM rfl (zb h fun y24 hy24 h => oT (zy (ze8 hy24) hT (s2 rfl rfl) k2 (oA rfl (zx (zk (hJ20 _ () h _ (ze 16 rfl rfl (za (j := 9) rfl hI zd) k2)))))))))
     exact zW (zk (hJ20 _ () h _ (ze 12 rfl rfl (za (j := 9) rfl hI zd) k2)))
    refine zC (j := 67) h rfl (fun g23 h => ?_) (fun g23 h => ?_)
    ·exact oK 67 rfl rfl rfl g23 (zq rfl) (oK 67 rfl rfl rfl g23 (zp rfl) (oK 67 rfl rfl rfl g23 (z8 rfl zdZ zfn) (oK 67 rfl rfl rfl g23 (z8 rfl GMod.f1 zjt) (zaA rfl rfl (dj := 67) rfl g23 (zI (R := isv (q4.2.m.tagging)) ty3 rfl .here hI (oK 67 rfl rfl rfl g23 (zcq rfl rfl) (oV (zr rfl g23 rfl) (hJ22 _ () h _ (ze 7 rfl rfl (za (j := 74) rfl hI zd) k2)))))))))
    exact oP 67 rfl rfl g23 (oP 67 rfl rfl g23 (oP 67 rfl rfl g23 (oP 67 rfl rfl g23 (oP 67 rfl rfl g23 (oP 67 rfl rfl g23 (oV (zs rfl g23 rfl) (hJ22 _ () h _ (ze 7 rfl rfl (za (j := 74) rfl hI zd) k2))))))))
   exact zW (hJ18 _ () h _ (ze 0 rfl rfl zd k2))
  refine zC (j := 52) h rfl (fun g16 h => ?_) (fun g16 h => ?_)
  ·exact oK 52 rfl rfl rfl g16 (zac rfl GNode.f2 zeL rfl (z := y2.mark)) (oK 52 rfl rfl rfl g16 (zac rfl GMark.f0 zjs rfl (z := y2.mark.has)) (oK 52 rfl rfl rfl g16 (zg ty4 rfl) (oV (zr rfl g16 rfl) (hJ15 _ () h _ (ze 4 rfl rfl (za (j := 56) rfl hI zd) k2)))))
  exact oP 52 rfl rfl g16 (oP 52 rfl rfl g16 (oP 52 rfl rfl g16 (oV (zs rfl g16 rfl) (hJ15 _ () h _ (ze 4 rfl rfl (za (j := 56) rfl hI zd) k2)))))
 refine zf h rfl (fun _ h => ?_) (fun _ h => ?_)
 ·refine zU (.v 0 (.v 1 (.v 2 (.v 3 (.v 4 (.v 6 (.v 7 (.v 8 (.v 10 (.v 11 (.v 15 (.alt 5 (.t 9 (.t 12 (.v 13 (.v 14 (.t 16 (.v 17 .nil)))))) (.t 9 (.alt 5 (.t 12 (.v 13 (.v 14 (.t 16 (.v 17 .nil))))) (.t 12 (.t 5 (.v 13 (.v 14 (.t 16 (.v 17 .nil)))))))))))))))))))) moOrd (by kernel_rfl) ?_
  refine rvm rfl rfl (rvm rfl rfl (zt rfl (zp rfl) (zt rfl (z8 rfl zdZ zfn) (zt rfl (z8 rfl GMod.f3 ziB) (rvm rfl rfl (zt rfl (zp rfl) (zt rfl (z8 rfl zdZ zfn) (zt rfl (zac rfl GNode.f1 zj7 rfl (z := y2.name)) ?_))))))))
  refine zt rfl (zg ty9 rfl) (rvm rfl rfl (zb h fun y6 hy6 h => zb h fun y7 hy7 h => zb h fun y8 hy8 h => zbU ?_ ?_))
  ·refine zT rfl rfl (zI (R := isv (a_x.m.types)) ty22 rfl .here hI (zT rfl rfl (zI (R := isv (a_x.m)) ty30 rfl .here hI (zT rfl rfl (zy (zfy hy6) hT (s2 rfl rfl) .nil (zt rfl (zaK (l := a_x.m.types) rfl hI rfl sl22 hy7) (zt rfl (zg ty3 rfl) (zT rfl rfl (zL (zbO hy8) hT (s3 rfl rfl rfl) k2 (fun R H' hR => ?_))))))))))
   obtain ⟨v9, rfl, rfl⟩ := hR
   exact zt rfl (za8 rfl) (zae (hJ5 _ (v9) h _ (ze 18 rfl rfl (za (j := 8) rfl hI zd) k2)))
  refine zT rfl rfl (zI (R := isv (a_x.m)) ty30 rfl .here hI (zbU ?_ ?_))
  ·refine zT rfl rfl (zI (R := isv (a_x.m.types)) ty22 rfl .here hI (zT rfl rfl (zy (zfy hy6) hT (s2 rfl rfl) .nil (zt rfl (zaK (l := a_x.m.types) rfl hI rfl sl22 hy7) (zt rfl (zg ty3 rfl) (zT rfl rfl (zL (zbO hy8) hT (s3 rfl rfl rfl) k2 (fun R H' hR => ?_))))))))
   obtain ⟨v10, rfl, rfl⟩ := hR
   exact zt rfl (za8 rfl) (zae (hJ5 _ (v10) h _ (ze 18 rfl rfl (za (j := 8) rfl hI zd) k2)))
  refine zT rfl rfl (zy (zfy hy6) hT (s2 rfl rfl) .nil (zT rfl rfl (zI (R := isv (a_x.m.types)) ty22 rfl .here hI (zt rfl (zaK (l := a_x.m.types) rfl hI rfl sl22 hy7) (zt rfl (zg ty3 rfl) (zT rfl rfl (zL (zbO hy8) hT (s3 rfl rfl rfl) k2 (fun R H' hR => ?_))))))))
  obtain ⟨v11, rfl, rfl⟩ := hR
  exact zt rfl (za8 rfl) (zae (hJ5 _ (v11) h _ (ze 18 rfl rfl (za (j := 8) rfl hI zd) k2)))
 refine zj (oM rfl (oV (zg ty108 rfl) (oM rfl (zb h fun y12 hy12 h => oT (zL (zdW hy12) hT (s3 rfl rfl rfl) k2 (fun R H' hR => ?_))))))
 obtain ⟨v13, rfl, rfl⟩ := hR
 exact oA rfl (zx (hJ5 _ (v13) h _ (ze 5 rfl rfl (za (j := 8) rfl hI zd) k2)))

theorem zhd {zaH : GMk → Int → GNode → Int → Option (GMk)} {zaI : GMk → Int → Int → Option (Int × GMk)} {zaS : GMk → GNode → Int → Option (Int × GMk)} (zdh : zcB zaH) (zbO : zcw zaI) (zdW : zc0 zaS) : ∀ {a_x : GMk} {a_n_ : GNode} {zQ : Int} {zG : Nat} {zY : Vt} {r : Int × GMk}, zbu zaH zaI zaS a_x a_n_ zQ = some r → Ctr Tryd.prog 90 [ptrv zG (Fld.id (GMod × Vh × Int)), isv (a_n_), isv (zQ)] [boxE zG ((a_x.m, (Vh.mk zY a_x.l.length), a_x.e) : (GMod × Vh × Int)), vecE zY (a_x.l : List GTyp)] (fun R H => ∃ u1 : Vt, R = oneOf [isv (r.1)] ∧ H = [boxE zG ((r.2.m, (Vh.mk u1 r.2.l.length), r.2.e)), vecE u1 (r.2.l)]) := by
 intro a_x a_n_ zQ zG zY r h
 unfold zbu at h
 refine zw Tryd.func90 rfl fun w0 S0 hT => wsr (oT (zbI (y := a_n_) rfl hI (oA rfl (rnf (zn (wsr (oM rfl (oV (zbY rfl rfl) ?_))))))))
 refine oM rfl (zaz (jb 20) je .nil h 7 rfl (fun q2 g2 h => ?_) (fun J3 h hJ3 => ?_))
 ·refine rnf (zf h rfl (fun _ h => ?_) (fun _ h => ?_))
  ·refine wsr (oM rfl (zb h fun y5 hy5 h => oT (zy (zbc hy5) hT (s2 rfl rfl) k2 (rnf (wsr (oA rfl (rnf (zN ?_))))))))
   refine zB (zo (.tmp rfl .nil) k2 ?_)
   cases h
   exact ⟨zY, rfl, rfl⟩
  refine wkf (wsr (oM rfl (oV (zp rfl) (oV (z8 rfl zbG zcn) (oT (zI (R := vecv zY (a_x.l.length)) ty38 rfl .here isvV1 (oV (zif sl38 rfl) (oA rfl (rnf ?_)))))))))
  refine wsr (oV (zac rfl GNode.f0 zbH rfl (z := a_n_.kind)) (oV (zg ty3 rfl) (oV (zac rfl GNode.f3 zgo rfl (z := a_n_.con)) (oV (zg ty50 rfl) (oV (zac rfl GNode.f6 zeM rfl (z := a_n_.root)) (oV (zg ty3 rfl) (oV (zac rfl GNode.f7 zei rfl (z := a_n_.more)) (oV (zg ty4 rfl) ?_))))))))
  refine oV (zax (z := (GTyp.mk a_n_.kind ([] : (List Tag)) a_n_.con ([] : (List GItem)) ([] : (List GFld)) a_n_.root a_n_.more (0 : Int))) rfl bu54 ze54 (.cons GTyp.f0 zgz rfl hI (.cons GTyp.f2 zlp rfl hI (.cons GTyp.f5 zil rfl hI (.cons GTyp.f6 zka rfl hI .nil))))) (oT (zab _ ze54 fun b6 => oT (zi (y' := ((GTyp.mk a_n_.kind ([] : (List Tag)) a_n_.con ([] : (List GItem)) ([] : (List GFld)) a_n_.root a_n_.more (0 : Int)) : GTyp)) ty54 rfl rfl hI .here rfl (rnf (zn (wsr (oV (zac rfl GNode.f0 zbH rfl (z := a_n_.kind)) (oV (zg ty3 rfl) (oV (zcq rfl rfl) ?_)))))))))
  refine rnf (zdg (ι := GTyp) (γ := Unit) (fun q7 g7 => []) (fun q7 g7 => [boxE b6 (q7 : GTyp)]) k1 h (fun q7 g7 h => ?_) (fun J8 h hJ8 => ?_))
  ·refine zn (zdg (ι := GMk) (γ := Vt) (fun q11 g11 => [(8, anyv)]) (fun q11 g11 => [boxE zG ((q11.m, (Vh.mk g11 q11.l.length), q11.e) : (GMod × Vh × Int)), vecE g11 (q11.l : List GTyp)]) (.cons tH (.cons tH .nil)) h (fun q11 g11 h => ?_) (fun J12 h hJ12 => ?_))
   ·refine zn (wsr (oV (zac rfl GNode.f0 zbH rfl (z := a_n_.kind)) (oV (zg ty3 rfl) (rnf (zdg (ι := GMk) (γ := Vt) (fun q20 g20 => []) (fun q20 g20 => [boxE zG ((q20.m, (Vh.mk g20 q20.l.length), q20.e) : (GMod × Vh × Int)), vecE g20 (q20.l : List GTyp)]) k2 h (fun q20 g20 h => ?_) (fun J21 h hJ21 => ?_))))))
    ·refine wsr (oM rfl (oA rfl (rnf (zN (zo (.tmp rfl .nil) k2 ?_)))))
     cases h
     exact ⟨g20, rfl, rfl⟩
    refine zu (zn (wsr (oV (zam rfl rfl) (oA rfl (rnf (zdg (jb 57) je .nil h (fun q22 g22 h => ?_) (fun J23 h hJ23 => ?_)))))))
    ·refine zf h rfl (fun _ h => ?_) (fun _ h => ?_)
     ·refine wsr (oV (zac rfl GNode.f3 zgo rfl (z := a_n_.con)) (oV (zg ty50 rfl) (oV (zac rfl GNode.f0 zbH rfl (z := a_n_.kind)) (oV (zg ty3 rfl) (oV (zcq rfl rfl) (zb h fun y24 hy24 h => oT (zy (zkY hy24) hT (s2 rfl rfl) .nil (oA rfl ?_))))))))
      refine rnf (zn (wsr (oM rfl (oV (zcq rfl rfl) (rnf (zdg (ι := GMk) (γ := Unit) (fun q25 g25 => []) (fun q25 g25 => [boxE zG ((q25.m, (Vh.mk g11 q25.l.length), q25.e) : (GMod × Vh × Int)), vecE g11 (q25.l : List GTyp)]) k2 h (fun q25 g25 h => ?_) (fun J26 h hJ26 => ?_)))))))
      ·refine wsr (oV (zac rfl GNode.f0 zbH rfl (z := a_n_.kind)) (oV (zg ty3 rfl) (oV (zam rfl rfl) (rnf (zf h rfl (fun _ h => ?_) (fun _ h => ?_))))))
       ·refine wsr (oM rfl (oV (zac rfl GNode.f8 zjo rfl (z := a_n_.of)) (oV (zg ty3 rfl) (oM rfl (zE h fun q28 h => oV (zaf rfl rfl q28) (zb h fun y29 hy29 h => oT (zL (zbO hy29) hT (s3 rfl rfl rfl) k2 (fun R H' hR => ?_))))))))
        obtain ⟨v30, rfl, rfl⟩ := hR
        refine oA rfl (rnf (wsr (oM rfl (oV (zp rfl) (oV (z8 rfl zcf zdd) (oT (zI (R := isv (y29.2.e)) ty31 rfl .here hI (oV (zam rfl rfl) (rnf ?_)))))))))
        refine zf h rfl (fun _ h => ?_) (fun _ h => ?_)
        ·refine zj (oM rfl (oV (zp rfl) (oV (z8 rfl zbG zcn) (oT (zI (R := vecv v30 (y29.2.l.length)) ty38 rfl .here isvV1 (oM rfl (oM rfl (zV h fun q31 h => oV (zaR (α := GTyp) sl38 rfl rfl q31.1 q31.2) ?_))))))))
         refine oV (zgp rfl GTyp.f7 zpO) (zb h fun y32 hy32 h => oT (zbh ty3 rfl rfl tH hy32 (zai (zgg (y := ((y29.2.m, (Vh.mk v30 (y29.2.l.set (((a_x.l.length : Nat) : Int).toNat) ({ y32 with of := y29.1 })).length), y29.2.e) : (GMod × Vh × Int))) tH (fun S => (Cv.pair Cv.id (Cv.pair (Cv.vhe (by first | rfl | simp)) Cv.id)))) ?_)))
         exact zx (zk (hJ21 _ (v30) h _ (ze 35 rfl rfl zd k3)))
        exact zW (zk (hJ21 _ (v30) h _ (ze 27 rfl rfl zd k3)))
       exact zW (zk (hJ21 _ (g11) h _ (ze 15 rfl rfl zd k3)))
      refine zf h rfl (fun _ h => ?_) (fun _ h => ?_)
      ·exact zj (oM rfl (oM rfl (zb h fun y27 hy27 h => oT (zy (zbc hy27) hT (s2 rfl rfl) k2 (zx (hJ26 _ () h _ (ze 3 rfl rfl zd k3)))))))
      exact zW (hJ26 _ () h _ (ze 0 rfl rfl zd k3))
     refine wsr (oV (zam rfl rfl) (oA rfl (rnf (zf h rfl (fun _ h => ?_) (fun _ h => ?_)))))
     ·refine zU (.v 0 (.v 1 (.v 2 (.v 4 (.v 5 (.v 6 (.alt 3 (.t 7 (.v 8 (.v 9 (.t 10 .nil)))) (.t 7 (.t 3 (.v 8 (.v 9 (.t 10 .nil)))))))))))) moOrd (by kernel_rfl) ?_
      refine rvm rfl rfl (zt rfl (zp rfl) (zt rfl (z8 rfl zbG zcn) (rvm rfl rfl (rvm rfl rfl (zt rfl (zg ty108 rfl) (zb h fun y33 hy33 h => zV h fun q34 h => zV h fun q35 h => ?_))))))
      refine zb h fun y36 hy36 h => zbU ?_ ?_
      ·refine zT rfl rfl (zI (R := vecv g11 (q11.l.length)) ty38 rfl .here isvV1 (zT rfl rfl (zy (zeO hy33) hT (s2 rfl rfl) k2 (zt rfl (zaR (α := GTyp) sl38 rfl rfl q35.1 q35.2) (zt rfl (zgp rfl GTyp.f3 zjR) (zT rfl rfl (zbh ty51 rfl rfl tH hy36 (zbi (zgg (y := ((y33.2.m, (Vh.mk g11 (y33.2.l.set (((a_x.l.length : Nat) : Int).toNat) ({ y36 with items := y33.1 })).length), y33.2.e) : (GMod × Vh × Int))) tH (fun S => (Cv.pair Cv.id (Cv.pair (Cv.vhe (by first | rfl | simp)) Cv.id)))) ?_))))))))
       exact zae (zk (hJ21 _ (g11) h _ (ze 15 rfl rfl zd k3)))
      refine zT rfl rfl (zy (zeO hy33) hT (s2 rfl rfl) k2 (zT rfl rfl (zI (R := vecv g11 (y33.2.l.length)) ty38 rfl .here isvV1 (zt rfl (zaR (α := GTyp) sl38 rfl rfl (by omega) (by omega)) ?_))))
      refine zt rfl (zgp rfl GTyp.f3 zjR) (zT rfl rfl (zbh ty51 rfl rfl tH hy36 (zbi (zgg (y := ((y33.2.m, (Vh.mk g11 (y33.2.l.set (((a_x.l.length : Nat) : Int).toNat) ({ y36 with items := y33.1 })).length), y33.2.e) : (GMod × Vh × Int))) tH (fun S => (Cv.pair Cv.id (Cv.pair (Cv.vhe (by first | rfl | simp)) Cv.id)))) ?_)))
      exact zae (zk (hJ21 _ (g11) h _ (ze 15 rfl rfl zd k3)))
     refine zn (wsr (oV (zam rfl rfl) (oA rfl (rnf (zdg (jb 107) je .nil h (fun q37 g37 h => ?_) (fun J38 h hJ38 => ?_))))))
     ·refine zf h rfl (fun _ h => ?_) (fun _ h => ?_)
      ·refine zj (oM rfl (oM rfl (oV (zg ty108 rfl) (oM rfl (zb h fun y39 hy39 h => oT (zL (zdh hy39) hT (s4 rfl rfl rfl rfl) k2 (fun R H' hR => ?_)))))))
       obtain ⟨v40, rfl, rfl⟩ := hR
       exact zx (zk (hJ21 _ (v40) h _ (ze 13 rfl rfl zd k3)))
      exact zW (zk (hJ21 _ (g11) h _ (ze 8 rfl rfl zd k3)))
     refine zf h rfl (fun _ h => ?_) (fun _ h => ?_)
     ·exact zW (hJ38 _ () h _ (ze 0 rfl rfl (za (j := 107) rfl hI zd) k3))
     refine wsr (oV (zam rfl rfl) (oA rfl (rnf (zf h rfl (fun _ h => ?_) (fun _ h => ?_)))))
     ·exact zW (hJ38 _ () h _ (ze 2 rfl rfl (za (j := 107) rfl hI zd) k3))
     exact zj (oV (zam rfl rfl) (oA rfl (zx (hJ38 _ () h _ (ze 4 rfl rfl (za (j := 107) rfl hI zd) k3)))))
    refine zf h rfl (fun _ h => ?_) (fun _ h => ?_)
    ·exact zW (hJ23 _ () h _ (ze 0 rfl rfl (za (j := 57) rfl hI zd) k3))
    refine wsr (oV (zam rfl rfl) (oA rfl (rnf (zf h rfl (fun _ h => ?_) (fun _ h => ?_)))))
    ·exact zW (hJ23 _ () h _ (ze 2 rfl rfl (za (j := 57) rfl hI zd) k3))
    refine wsr (oV (zam rfl rfl) (oA rfl (rnf (zf h rfl (fun _ h => ?_) (fun _ h => ?_)))))
    ·exact zW (hJ23 _ () h _ (ze 4 rfl rfl (za (j := 57) rfl hI zd) k3))
    exact zj (oV (zam rfl rfl) (oA rfl (zx (hJ23 _ () h _ (ze 6 rfl rfl (za (j := 57) rfl hI zd) k3)))))
   refine zcR 8 .here rfl (fun o13 hn14 => zU (.v 0 (.v 1 (.v 2 (.v 3 (.v 5 (.alt 4 (.t 6 (.t 7 (.v 8 (.v 9 (.t 10 .nil))))) (.t 6 (.t 4 (.t 7 (.v 8 (.v 9 (.t 10 .nil)))))))))))) moOrd (by kernel_rfl) ?_)
   refine rvm rfl rfl (rvm rfl rfl (zt rfl (zp rfl) (zt rfl (z8 rfl zbG zcn) (zt rfl (zc1 (R := isv (q7)) ty54 rfl (List.Mem.head _) hI) (zad h fun q17 h => zbU ?_ ?_)))))
   ·refine zT rfl rfl (zI (R := vecv zY (a_x.l.length)) ty38 rfl .here isvV1 (zT rfl rfl (zS (l := ([q7] : (List GTyp))) el38 (.cons rfl hI .nil) rfl rfl (zT rfl rfl (zgP (m := ([q7] : (List GTyp))) zmj rfl rfl zJ tH (by first | rfl | simp) q17 fun v16 => ?_)))))
    exact zt rfl (zp rfl) (zt rfl (z8 rfl zbG zcn) (zT rfl rfl (zi (y' := ((a_x.m, (Vh.mk v16 (a_x.l ++ ([q7] : (List GTyp))).length), a_x.e) : (GMod × Vh × Int))) ty38 rfl rfl isvV2 tH rfl (zae (zaU 8 hn14 rfl (hJ12 _ (v16) h _ (ze 12 rfl rfl (za (j := 8) rfl (fun _ _ _ => trivial) zd) (.cons tH (.cons tH k1)))))))))
   refine zT rfl rfl (zS (l := ([q7] : (List GTyp))) el38 (.cons rfl hI .nil) rfl rfl (zT rfl rfl (zI (R := vecv zY (a_x.l.length)) ty38 rfl .here isvV1 (zT rfl rfl (zgP (m := ([q7] : (List GTyp))) zmj rfl rfl zJ tH (by first | rfl | simp) q17 fun v19 => ?_)))))
   exact zt rfl (zp rfl) (zt rfl (z8 rfl zbG zcn) (zT rfl rfl (zi (y' := ((a_x.m, (Vh.mk v19 (a_x.l ++ ([q7] : (List GTyp))).length), a_x.e) : (GMod × Vh × Int))) ty38 rfl rfl isvV2 tH rfl (zae (zaU 8 hn14 rfl (hJ12 _ (v19) h _ (ze 12 rfl rfl (za (j := 8) rfl (fun _ _ _ => trivial) zd) (.cons tH (.cons tH k1)))))))))
  refine zf h rfl (fun _ h => ?_) (fun _ h => ?_)
  ·refine zj (oV (zac rfl GNode.f0 zbH rfl (z := a_n_.kind)) (oV (zg ty3 rfl) (zb h fun y9 hy9 h => oT (zy (zhS hy9) hT (s1 rfl) .nil (oT (zS (l := ([y9] : (List Tag))) el48 (.cons rfl hI .nil) rfl rfl (oV (z8 rfl GTyp.f1 zeV) (oT (zi (y' := ((GTyp.mk a_n_.kind ([y9] : (List Tag)) a_n_.con ([] : (List GItem)) ([] : (List GFld)) a_n_.root a_n_.more (0 : Int)) : GTyp)) ty48 rfl rfl zJ .here rfl (zx ?_))))))))))
   exact hJ8 _ () h _ (ze 5 rfl rfl zd k3)
  exact zW (hJ8 _ () h _ (ze 0 rfl rfl zd k3))
 refine zC (j := 13) h rfl (fun g4 h => ?_) (fun g4 h => ?_)
 ·exact oP 13 rfl rfl g4 (oP 13 rfl rfl g4 (oP 13 rfl rfl g4 (oP 13 rfl rfl g4 (oP 13 rfl rfl g4 (oP 13 rfl rfl g4 (oV (zr rfl g4 rfl) (hJ3 _ () h _ (ze 7 rfl rfl (za (j := 20) rfl hI zd) k2))))))))
 exact oK 13 rfl rfl rfl g4 (zq rfl) (oK 13 rfl rfl rfl g4 (zp rfl) (oK 13 rfl rfl rfl g4 (z8 rfl zbG zcn) (zaA rfl rfl (dj := 13) rfl g4 (zI (R := vecv zY (a_x.l.length)) ty38 rfl .here isvV1 (oK 13 rfl rfl rfl g4 (zif sl38 rfl) (oK 13 rfl rfl rfl g4 (zeN rfl rfl) (oV (zs rfl g4 rfl) (hJ3 _ () h _ (ze 7 rfl rfl (za (j := 20) rfl hI zd) k2)))))))))

theorem zdL : ∀ n, zcB (zbe n) ∧ zcw (zbz n) ∧ zc0 (zby n)
 | 0 => ⟨fun h => (by cases h), fun h => (by cases h), fun h => (by cases h)⟩
 | n + 1 => by
  obtain ⟨h0, h1, h2⟩ := zdL n
  exact ⟨zgq h0 h1 h2, zg6 h0 h1 h2, zhd h0 h1 h2⟩
theorem zfa (n : Nat) : zcw (zbz n) := (zdL n).2.1
theorem zlq : ∀ {a_m : GMod} {r : GTab × Int × Int}, zc8 a_m = some r → Ctr Tryd.prog 35 [isv (a_m)] [] (fun R H => R = oneOf [isv (r.1), isv (r.2.1), isv (r.2.2)] ∧ H = []) := by
 intro a_m r h
 unfold zc8 at h
 refine zw Tryd.func35 rfl fun w0 S0 hT => wsr (oT (zbI (y := a_m) rfl hI (oT (zab _ ze40 fun b1 => oA rfl (oA rfl (rnf (wsr (oV (zg ty30 rfl) ?_))))))))
 refine zb h fun y2 hy2 h => oT (zy (zk9 hy2) hT (s1 rfl) .nil (oM rfl (oV (zau rfl rfl) (oV (zau rfl rfl) (oV (zau rfl rfl) (oA rfl (oA rfl (oA rfl ?_))))))))
 refine rnf (zn (wsr (oM rfl (oV (zcq rfl rfl) (rnf (zf h rfl (fun _ h => ?_) (fun _ h => ?_)))))))
 ·refine wsr (oV (zax (z := (GTab.mk (Str.mk []) ([] : (List Str)) ([] : (List Int)) ([] : (List GTyp)))) rfl bu40 ze40 .nil) (oM rfl (oM rfl (oT (zi (y' := ((GTab.mk (Str.mk []) ([] : (List Str)) ([] : (List Int)) ([] : (List GTyp))) : GTab)) ty40 rfl rfl hI .here rfl (oA rfl (oA rfl (rnf (zN ?_)))))))))
  refine zB ?_
  cases h
  exact zo (.cell rfl .here ty40 (.tmp rfl (.tmp rfl .nil))) .nil ⟨rfl, rfl⟩
 refine wkf (wsr (oV (zg ty30 rfl) (oV (zax (z := ((a_m, (Vh.mk none 0), (0 : Int)) : (GMod × Vh × Int))) rfl bu120 zo8 (.cons zdZ zfn rfl hI .nil)) (oT (zjK (y := ((a_m, (Vh.mk none 0), (0 : Int)) : (GMod × Vh × Int))) rfl hI fun b3 => zai (zgY (α := GTyp)) (oA rfl (rnf (zn ?_))))))))
 refine zdg (ι := GTab) (γ := Nat × Tok) (fun q5 g5 => [(9, ptrv g5.1 (Fld.id (Str × (List Str) × (TList Int) × (List GTyp))))]) (fun q5 g5 => [boxE g5.1 ((q5.name, q5.names, (TList.mk g5.2 q5.roots), q5.types) : (Str × (List Str) × (TList Int) × (List GTyp))), tokE g5.2]) .nil h (fun q5 g5 h => ?_) (fun J6 h hJ6 => ?_)
 ·refine zn (wsr (oA rfl (rnf (zu (zbg (ι := Int × GTab × GMk) (γ := Tok × Vt) (fun q16 g16 => [(10, isv (q16.1))]) (fun q16 g16 => [boxE g5.1 ((q16.2.1.name, q16.2.1.names, (TList.mk g16.1 q16.2.1.roots), q16.2.1.types) : (Str × (List Str) × (TList Int) × (List GTyp))), tokE g16.1, boxE b3 ((q16.2.2.m, (Vh.mk g16.2 q16.2.2.l.length), q16.2.2.e) : (GMod × Vh × Int)), vecE g16.2 (q16.2.2.l : List GTyp)]) h (g5.2, none) (za (j := 10) rfl hI zd) (.cons .here (.cons .here (.cons tH k1))) (fun L17 q16 g16 Q50 h hL17 eL17 rL17 => zn (wsr (oM rfl ?_))))))))
  refine oV (zac rfl GMod.f2 zdC rfl (z := a_m.names)) (oV (zg ty27 rfl) (oV (za6 (l := a_m.names) rfl hI sl27) (oV (zal rfl rfl) (rnf (zf h rfl (fun _ h => ?_) (fun _ h => ?_))))))
  ·refine wkf (zn (zu (zn (zdg (ι := GTab × GMk) (γ := Tok × Vt) (fun q34 g34 => []) (fun q34 g34 => [boxE g5.1 ((q34.1.name, q34.1.names, (TList.mk g34.1 q34.1.roots), q34.1.types) : (Str × (List Str) × (TList Int) × (List GTyp))), tokE g34.1, boxE b3 ((q34.2.m, (Vh.mk g34.2 q34.2.l.length), q34.2.e) : (GMod × Vh × Int)), vecE g34.2 (q34.2.l : List GTyp)]) (.cons .here (.cons tH k2)) h (fun q34 g34 h => ?_) (fun J35 h hJ35 => ?_)))))
   ·refine wsr (oM rfl (oV (zp rfl) (oV (z8 rfl zcf zdd) (oT (zI (R := isv (q34.2.e)) ty31 rfl tI hI (oV (zcq rfl rfl) (rnf (zf h rfl (fun _ h => ?_) (fun _ h => ?_)))))))))
    ·refine zn (zcR 8 tI rfl (fun o47 hn48 => zU (.v 0 (.v 1 (.v 2 (.v 3 (.v 4 (.v 5 (.t 6 (.v 7 (.v 8 .nil))))))))) moOrd (by kernel_rfl) ?_))
     refine zt rfl (zax (z := (GTab.mk (Str.mk []) ([] : (List Str)) ([] : (List Int)) ([] : (List GTyp)))) rfl bu40 ze40 .nil) (rvm rfl rfl (rvm rfl rfl (zt rfl (zbs rfl) (zt rfl (zfe rfl zcf zdd) (zt rfl (zc1 (R := isv (q34.2.e)) ty31 rfl (List.Mem.head _) hI) (zT rfl rfl (zi (y' := ((GTab.mk (Str.mk []) ([] : (List Str)) ([] : (List Int)) ([] : (List GTyp))) : GTab)) ty40 rfl rfl hI (.there tI) rfl (zt rfl (za8 rfl) (zt rfl (za8 rfl) ?_)))))))))
     refine zae (zaU 8 hn48 rfl (zA (zN (zD (zB (rL17 _ (zD (zB ?_))))))))
     cases h
     exact zo (.cell rfl tH ty40 (.tmp rfl (.tmp rfl .nil))) .nil ⟨rfl, rfl⟩
    refine zW (zk (zA (zj (oM rfl (zE h fun q49 h => oV (zaf rfl rfl q49) (oA rfl (zx ?_)))))))
    exact hL17 _ (g34.1, g34.2) h _ (ze 14 rfl rfl (za (j := 10) rfl hI zd) (.cons .here k4))
   refine zU (.v 0 (.v 2 (.v 3 (.v 4 (.v 5 (.v 6 (.v 7 (.alt 1 (.t 8 (.t 9 (.t 10 (.v 11 (.t 12 .nil))))) (.t 8 (.alt 1 (.t 9 (.t 10 (.v 11 (.t 12 .nil)))) (.t 9 (.t 1 (.t 10 (.v 11 (.t 12 .nil))))))))))))))) moOrd (by kernel_rfl) ?_
   refine zt rfl (z8 rfl zhc zjA) (rvm rfl rfl (zt rfl (zac rfl GMod.f3 ziB rfl (z := a_m.types)) (zt rfl (zg ty22 rfl) (rvm rfl rfl (zb h fun y36 hy36 h => zt rfl (zaK (l := a_m.types) rfl hI rfl sl22 hy36) (zt rfl (zg ty3 rfl) (zb h fun y37 hy37 h => ?_)))))))
   refine zad h fun q41 h => zbU ?_ ?_
   ·refine zT rfl rfl (zI (R := appv g16.1 (q16.2.1.roots)) ty22 rfl .here isvT1 (zT rfl rfl (zL (zfa fuel hy37) hT (s3 rfl rfl rfl) (.cons tI (.cons tI .nil)) (fun R H' hR => ?_))))
    obtain ⟨v38, rfl, rfl⟩ := hR
    exact zT rfl rfl (zS (l := ([y37.1] : (List Int))) el22 (.cons rfl hI .nil) rfl rfl (zT rfl rfl (zbA (l := q16.2.1.roots) (m := ([y37.1] : (List Int))) zdb rfl hI rfl zJ (.there tI) q41 fun t40 => zt rfl (z8 rfl zhc zjA) (zT rfl rfl (zi (y' := ((q16.2.1.name, q16.2.1.names, (TList.mk t40 (q16.2.1.roots ++ ([y37.1] : (List Int)))), q16.2.1.types) : (Str × (List Str) × (TList Int) × (List GTyp)))) ty22 rfl rfl isvT2 (.there tI) rfl (zae (hJ35 _ (t40, v38) h _ (ze 12 rfl rfl zd (.cons .here k4)))))))))
   refine zT rfl rfl (zL (zfa fuel hy37) hT (s3 rfl rfl rfl) (.cons tI (.cons tI .nil)) (fun R H' hR => ?_))
   obtain ⟨v42, rfl, rfl⟩ := hR
   refine zbU ?_ ?_
   ·exact zT rfl rfl (zI (R := appv g16.1 (q16.2.1.roots)) ty22 rfl tI isvT1 (zT rfl rfl (zS (l := ([y37.1] : (List Int))) el22 (.cons rfl hI .nil) rfl rfl (zT rfl rfl (zbA (l := q16.2.1.roots) (m := ([y37.1] : (List Int))) zdb rfl hI rfl zJ (.there tI) q41 fun t44 => zt rfl (z8 rfl zhc zjA) (zT rfl rfl (zi (y' := ((q16.2.1.name, q16.2.1.names, (TList.mk t44 (q16.2.1.roots ++ ([y37.1] : (List Int)))), q16.2.1.types) : (Str × (List Str) × (TList Int) × (List GTyp)))) ty22 rfl rfl isvT2 (.there tI) rfl (zae (hJ35 _ (t44, v42) h _ (ze 12 rfl rfl zd (.cons .here k4)))))))))))
   exact zT rfl rfl (zS (l := ([y37.1] : (List Int))) el22 (.cons rfl hI .nil) rfl rfl (zT rfl rfl (zI (R := appv g16.1 (q16.2.1.roots)) ty22 rfl tI isvT1 (zT rfl rfl (zbA (l := q16.2.1.roots) (m := ([y37.1] : (List Int))) zdb rfl hI rfl zJ (.there tI) q41 fun t46 => zt rfl (z8 rfl zhc zjA) (zT rfl rfl (zi (y' := ((q16.2.1.name, q16.2.1.names, (TList.mk t46 (q16.2.1.roots ++ ([y37.1] : (List Int)))), q16.2.1.types) : (Str × (List Str) × (TList Int) × (List GTyp)))) ty22 rfl rfl isvT2 (.there tI) rfl (zae (hJ35 _ (t46, v42) h _ (ze 12 rfl rfl zd (.cons .here k4)))))))))))
  refine zah (zX (eL17 _ _ (zK (zA (wsr (oM rfl (oV (zp rfl) (oV (z8 rfl zbG zcn) ?_))))))))
  refine oT (zI (R := vecv g16.2 (q16.2.2.l.length)) ty38 rfl tI isvV1 (oV (z8 rfl znD ziI) (zai (zgK 64 (.there tI) rfl (by first | rfl | simp)) ?_)))
  refine oT (zi (y' := ((q16.2.1.name, q16.2.1.names, (TList.mk g16.1 q16.2.1.roots), q16.2.2.l) : (Str × (List Str) × (TList Int) × (List GTyp)))) ty38 rfl rfl hI .here rfl (rnf (wsr (oT (zI (y := ((q16.2.1.name, q16.2.1.names, (TList.mk g16.1 q16.2.1.roots), q16.2.2.l) : (Str × (List Str) × (TList Int) × (List GTyp)))) (R := isv (((q16.2.1.name, q16.2.1.names, (TList.mk g16.1 q16.2.1.roots), q16.2.2.l)) : ((Str × (List Str) × (TList Int) × (List GTyp))))) ty40 rfl .here (by exact hI) ?_)))))
  refine zai (zaC (R' := isv ((GTab.mk q16.2.1.name q16.2.1.names q16.2.1.roots q16.2.2.l))) 66 rfl (Cv.isv rfl fun S => (fun cs h => GTab.cv (x := (GTab.mk q16.2.1.name q16.2.1.names q16.2.1.roots q16.2.2.l)) cs (((Cv.pair Cv.id (Cv.pair Cv.id (Cv.pair Cv.tl Cv.id))) : Cv S ((q16.2.1.name, q16.2.1.names, (TList.mk g16.1 q16.2.1.roots), q16.2.2.l) : (Str × (List Str) × (TList Int) × (List GTyp))) (GTab.to (GTab.mk q16.2.1.name q16.2.1.names q16.2.1.roots q16.2.2.l))) cs h)))) (oT (zi (y' := ((GTab.mk q16.2.1.name q16.2.1.names q16.2.1.roots q16.2.2.l) : GTab)) ty40 rfl rfl hI (.there tI) rfl (oA rfl (oA rfl (rnf (zN ?_))))))
  cases h
  exact zo (.cell rfl .here ty40 (.tmp rfl (.tmp rfl .nil))) .nil ⟨rfl, rfl⟩
 refine zU (.v 0 (.v 1 (.v 2 (.v 3 (.alt 4 (.v 5 (.t 6 (.t 7 .nil))) (.t 6 (.t 4 (.v 5 (.t 7 .nil))))))))) moOrd (by kernel_rfl) ?_
 refine zt rfl (zac rfl GMod.f0 zob rfl (z := a_m.name)) (zt rfl (zg ty9 rfl) (zt rfl (zac rfl GMod.f2 zdC rfl (z := a_m.names)) (zt rfl (zg ty27 rfl) (zad h fun q8 h => zbU ?_ ?_))))
 ·exact zT rfl rfl (zlt (m := a_m.names) zjv rfl rfl hI q8 fun t7 => zt rfl (zax (z := ((a_m.name, (([] : (List Str)) ++ a_m.names), (TList.mk none ([] : (List Int))), ([] : (List GTyp))) : (Str × (List Str) × (TList Int) × (List GTyp)))) rfl bu40 zjE (.cons zkm zog rfl hI (.cons zk4 znp rfl zJ .nil))) (zT rfl rfl (zab _ zjE fun b9 => zbi (zbf) (zbi (zbf) (zT rfl rfl (zi (y' := ((a_m.name, (([] : (List Str)) ++ a_m.names), (TList.mk none ([] : (List Int))), ([] : (List GTyp))) : (Str × (List Str) × (TList Int) × (List GTyp)))) ty40 rfl rfl hI tI rfl (zae (hJ6 _ (b9, none) h _ (ze 7 rfl rfl (za (j := 9) rfl hI zd) (.cons .here (.cons .here (.cons tI (.cons tI (.cons tI .nil))))))))))))))
 exact zT rfl rfl (zab _ zjE fun b12 => zbi (zbf) (zT rfl rfl (zlt (m := a_m.names) zjv rfl rfl hI q8 fun t14 => zt rfl (zax (z := ((a_m.name, (([] : (List Str)) ++ a_m.names), (TList.mk none ([] : (List Int))), ([] : (List GTyp))) : (Str × (List Str) × (TList Int) × (List GTyp)))) rfl bu40 zjE (.cons zkm zog rfl hI (.cons zk4 znp rfl zJ .nil))) (zbi (zbf) (zT rfl rfl (zi (y' := ((a_m.name, (([] : (List Str)) ++ a_m.names), (TList.mk none ([] : (List Int))), ([] : (List GTyp))) : (Str × (List Str) × (TList Int) × (List GTyp)))) ty40 rfl rfl hI (.there tI) rfl (zae (hJ6 _ (b12, none) h _ (ze 7 rfl rfl (za (j := 9) rfl hI zd) (.cons .here (.cons .here (.cons tI (.cons tI (.cons tI .nil))))))))))))))


theorem zeJ : ∀ {zbm : Str} {r : GTab × Bool}, za0 zbm = some r → Ctr Tryd.prog 13 [isv (zbm)] [] (fun R H => R = oneOf [isv (r.1), isv (r.2)] ∧ H = []) := by
 intro zbm r h
 unfold za0 at h
 refine zw Tryd.func13 rfl fun w0 S0 hT => wsr (oT (zab _ ze40 fun b1 => oA rfl (rnf (zn (wsr (oM rfl (oV (zdm st9 rfl) ?_)))))))
 refine oV (zbY rfl rfl) (rnf (zf h rfl (fun _ h => ?_) (fun _ h => ?_)))
 ·refine wsr (oV (zax (z := (GTab.mk (Str.mk []) ([] : (List Str)) ([] : (List Int)) ([] : (List GTyp)))) rfl bu40 ze40 .nil) (oT (zi (y' := ((GTab.mk (Str.mk []) ([] : (List Str)) ([] : (List Int)) ([] : (List GTyp))) : GTab)) ty40 rfl rfl hI .here rfl (oA rfl (rnf (zN (zB ?_)))))))
  cases h
  exact zo (.cell rfl .here ty40 (.tmp rfl .nil)) .nil ⟨rfl, rfl⟩
 refine wkf (wsr (oM rfl (zb h fun y2 hy2 h => oT (zy (zkF hy2) hT (s1 rfl) .nil (oM rfl (oV (zau rfl rfl) (oV (zau rfl rfl) (oV (zau rfl rfl) ?_))))))))
 refine oT (zab _ ze30 fun b3 => oT (zi (y' := (y2.1 : GMod)) ty30 rfl rfl hI .here rfl (zai (zas 4 .here rfl) (oA rfl (oA rfl (rnf (zn (wsr (oM rfl ?_)))))))))
 refine oV (zcq rfl rfl) (rnf (zf h rfl (fun _ h => ?_) (fun _ h => ?_)))
 ·refine wsr (oV (zax (z := (GTab.mk (Str.mk []) ([] : (List Str)) ([] : (List Int)) ([] : (List GTyp)))) rfl bu40 ze40 .nil) (oT (zi (y' := ((GTab.mk (Str.mk []) ([] : (List Str)) ([] : (List Int)) ([] : (List GTyp))) : GTab)) ty40 rfl rfl hI .here rfl (oA rfl (rnf (zN (zB ?_)))))))
  cases h
  exact zo (.cell rfl .here ty40 (.tmp rfl .nil)) .nil ⟨rfl, rfl⟩
 refine wkf (wsr (oV (zg ty30 rfl) (zb h fun y4 hy4 h => oT (zy (zlq hy4) hT (s1 rfl) .nil (oM rfl (oV (zau rfl rfl) (oV (zau rfl rfl) (oV (zau rfl rfl) ?_))))))))
 refine oT (zab _ ze40 fun b5 => oT (zi (y' := (y4.1 : GTab)) ty40 rfl rfl hI .here rfl (zai (zas 7 .here rfl) (oA rfl (oA rfl (rnf (zn (zU (.v 0 (.v 1 (.v 2 (.v 3 (.v 4 (.v 5 (.v 6 (.v 7 (.v 8 (.t 9 (.v 10 .nil))))))))))) moOrd (by kernel_rfl) ?_))))))))
 refine zt rfl (zg ty40 rfl) (rvm rfl rfl (zt rfl (zam rfl rfl) (rvm rfl rfl (zc9 (jb 37) je .nil h 5 rfl (fun q6 g6 h => ?_) (fun J7 h hJ7 => ?_)))))
 ·refine zT rfl rfl (zi (y' := (y4.1 : GTab)) ty40 rfl rfl hI .here rfl (zt rfl (za8 rfl) (zae (zA (zN ?_)))))
  cases h
  exact zo (.cell rfl .here ty40 (.tmp rfl .nil)) .nil ⟨rfl, rfl⟩
 refine zaF (j := 32) h rfl (fun g8 h => ?_) (fun g8 h => ?_)
 ·exact rvt 32 rfl rfl rfl g8 (zac rfl GTab.f3 ziI rfl (z := y4.1.types)) (rvt 32 rfl rfl rfl g8 (zg ty38 rfl) (rvt 32 rfl rfl rfl g8 (za6 (l := y4.1.types) rfl hI sl38) (rvt 32 rfl rfl rfl g8 (zi0 rfl rfl) (zt rfl (zr rfl g8 rfl) (hJ7 _ () h _ (jk 5 37 rfl rfl rfl))))))
 exact rpv 32 rfl rfl rfl g8 (rpv 32 rfl rfl rfl g8 (rpv 32 rfl rfl rfl g8 (rpv 32 rfl rfl rfl g8 (zt rfl (zs rfl g8 rfl) (hJ7 _ () h _ (jk 5 37 rfl rfl rfl))))))

end Go.Proofs.Q


namespace Go.Proofs.Q
open Go.Sy
set_option maxRecDepth 4000
theorem ziW : ∀ {a_t : GTab} {a_i : Int} {r : GTyp}, zd9 a_t a_i = some r → Ctr Tryd.prog 36 [isv (a_t), isv (a_i)] [] (fun R H => R = oneOf [isv (r)] ∧ H = []) := by
 intro a_t a_i r h
 unfold zd9 at h
 refine zw Tryd.func36 rfl fun w0 S0 hT => wsr (oT (zbI (y := a_t) rfl hI (oT (zab _ ze54 fun b1 => rnf (zn (wsr (oM rfl (oV (zal rfl rfl) ?_))))))))
 refine oM rfl (zaz (jb 13) je .nil h 6 rfl (fun q2 g2 h => ?_) (fun J3 h hJ3 => ?_))
 ·refine rnf (zf h rfl (fun _ h => ?_) (fun _ h => ?_))
  ·refine wsr (oV (zax (z := (GTyp.mk (0 : Int) ([] : (List Tag)) (GCon.mk false false false false (0 : Int) (0 : Int)) ([] : (List GItem)) ([] : (List GFld)) (0 : Int) false (0 : Int))) rfl bu54 ze54 .nil) (oT (zi (y' := ((GTyp.mk (0 : Int) ([] : (List Tag)) (GCon.mk false false false false (0 : Int) (0 : Int)) ([] : (List GItem)) ([] : (List GFld)) (0 : Int) false (0 : Int)) : GTyp)) ty54 rfl rfl hI .here rfl (rnf (zN (zB ?_))))))
   cases h
   exact zo (.cell rfl .here ty54 .nil) .nil ⟨rfl, rfl⟩
  refine wkf (wsr (oV (zac rfl GTab.f3 ziI rfl (z := a_t.types)) (oV (zg ty38 rfl) (oM rfl (zb h fun y5 hy5 h => oV (zaK (l := a_t.types) rfl hI rfl sl38 hy5) (oV (zg ty54 rfl) (oT (zi (y' := (y5 : GTyp)) ty54 rfl rfl hI .here rfl ?_))))))))
  refine rnf (zN ?_)
  cases h
  exact zo (.cell rfl .here ty54 .nil) .nil ⟨rfl, rfl⟩
 refine zC (j := 7) h rfl (fun g4 h => ?_) (fun g4 h => ?_)
 ·exact oP 7 rfl rfl g4 (oP 7 rfl rfl g4 (oP 7 rfl rfl g4 (oP 7 rfl rfl g4 (oP 7 rfl rfl g4 (oV (zr rfl g4 rfl) (hJ3 _ () h _ (jk 6 13 rfl rfl rfl)))))))
 exact oK 7 rfl rfl rfl g4 (zq rfl) (oK 7 rfl rfl rfl g4 (zac rfl GTab.f3 ziI rfl (z := a_t.types)) (oK 7 rfl rfl rfl g4 (zg ty38 rfl) (oK 7 rfl rfl rfl g4 (za6 (l := a_t.types) rfl hI sl38) (oK 7 rfl rfl rfl g4 (zeN rfl rfl) (oV (zs rfl g4 rfl) (hJ3 _ () h _ (jk 6 13 rfl rfl rfl)))))))


theorem zeq : ∀ {zdI : Int} {a_to : Int} {r : (List Int)}, zcD zdI a_to = some r → Ctr Tryd.prog 37 [isv (zdI), isv (a_to)] [] (fun R H => ∃ u1 : Vt, R = oneOf [vecv u1 ((r).length)] ∧ H = [vecE u1 (r)]) := by
 intro zdI a_to r h
 unfold zcD at h
 refine zw Tryd.func37 rfl fun w0 S0 hT => wsr (oA rfl (zai (zgY (α := Int)) (zai (zaC 4 rfl nilvV) (rnf (wsr (oA rfl (zai (zgY (α := Int)) ?_)))))))
 refine zai (zaC 5 rfl nilvV) (rnf (zn (wsr (oM rfl (oA rfl (rnf (zu (zbg (ι := (List Int) × Int) (γ := Vt) (fun q3 g3 => [(5, vecv g3 (q3.1.length)), (6, isv (q3.2))]) (fun q3 g3 => [vecE g3 (q3.1 : List Int)]) h (none) (za (j := 5) rfl (vecvE (by first | rfl | simp)) (za (j := 6) rfl hI zd)) k1 (fun L4 q3 g3 Q13 h hL4 eL4 rL4 => ?_)))))))))
 refine zn (wsr (oM rfl (oM rfl (oV (zal rfl rfl) (rnf (zf h rfl (fun _ h => ?_) (fun _ h => ?_)))))))
 ·refine wkf (zn (zu (zj (oM rfl (oM rfl (oT (zS (l := ([q3.2] : (List Int))) el22 (.cons rfl hI .nil) rfl rfl (zad h fun q11 h => oT (zgP (m := ([q3.2] : (List Int))) zdb rfl rfl zJ .here (by first | rfl | simp) q11 fun v10 => ?_)))))))))
  refine oA rfl (zx (zk (zA (zj (oM rfl (zE h fun q12 h => oV (zaf rfl rfl q12) (oA rfl ?_)))))))
  exact zx (hL4 _ (v10) h _ (ze 13 rfl rfl (za (j := 5) rfl (vecvE (by first | rfl | simp)) (za (j := 6) rfl hI zd)) k2))
 refine zah (zX (eL4 _ _ (zK (zA (wsr (oM rfl (oA rfl (rnf ?_))))))))
 refine zN (zo (.as rfl (vecvE (by first | rfl | simp)) .nil) k1 ?_)
 cases h
 exact ⟨g3, rfl, rfl⟩


theorem ze1 : ∀ {a_x : GTyp} {a_a1 : (List Tag)} {zj9 : Nat} {t_a_a11 : Tok} {r : (List Tag)}, zbK a_x a_a1 = some r → Ctr Tryd.prog 109 [isv (a_x), ptrv zj9 (Fld.id (TList Tag))] [boxE zj9 ((TList.mk t_a_a11 a_a1) : (TList Tag)), tokE t_a_a11] (fun R H => ∃ u1 : Tok, R = oneOf [] ∧ H = [boxE zj9 ((TList.mk u1 r)), tokE u1]) := by
 intro a_x a_a1 zj9 t_a_a11 r h
 unfold zbK at h
 refine zw Tryd.func109 rfl fun w0 S0 hT => wsr (oT (zbI (y := a_x) rfl hI (rnf (wsr (oV (zac rfl GTyp.f1 zeV rfl (z := a_x.tags)) (oV (zg ty48 rfl) (oV (za6 (l := a_x.tags) rfl hI sl48) (oV (zbY rfl rfl) ?_))))))))
 refine rnf (zf h rfl (fun _ h => ?_) (fun _ h => ?_))
 ·refine zU (.v 1 (.v 2 (.v 3 (.v 4 (.alt 0 (.t 5 (.t 6 (.t 7 .nil))) (.t 5 (.t 0 (.t 6 (.t 7 .nil))))))))) moOrd (by kernel_rfl) ?_
  refine zt rfl (zac rfl GTyp.f1 zeV rfl (z := a_x.tags)) (zt rfl (zg ty48 rfl) (zb h fun y2 hy2 h => zt rfl (zaK (l := a_x.tags) rfl hI rfl sl48 hy2) (zt rfl (zg ty57 rfl) (zad h fun q5 h => zbU ?_ ?_))))
  ·refine zT rfl rfl (zI (R := appv t_a_a11 (a_a1)) ty48 rfl .here isvT1 (zT rfl rfl (zS (l := ([y2] : (List Tag))) el48 (.cons rfl hI .nil) rfl rfl (zT rfl rfl (zbA (l := a_a1) (m := ([y2] : (List Tag))) zgi rfl hI rfl zJ tH q5 fun t4 => zT rfl rfl (zi (y' := ((TList.mk t4 (a_a1 ++ ([y2] : (List Tag)))) : (TList Tag))) ty48 rfl rfl isvT2 tH rfl (zae (zao .nil k2 ?_))))))))
   cases h
   exact ⟨t4, rfl, rfl⟩
  refine zT rfl rfl (zS (l := ([y2] : (List Tag))) el48 (.cons rfl hI .nil) rfl rfl (zT rfl rfl (zI (R := appv t_a_a11 (a_a1)) ty48 rfl .here isvT1 (zT rfl rfl (zbA (l := a_a1) (m := ([y2] : (List Tag))) zgi rfl hI rfl zJ tH q5 fun t7 => zT rfl rfl (zi (y' := ((TList.mk t7 (a_a1 ++ ([y2] : (List Tag)))) : (TList Tag))) ty48 rfl rfl isvT2 tH rfl (zae (zao .nil k2 ?_))))))))
  cases h
  exact ⟨t7, rfl, rfl⟩
 refine zW (zao .nil k2 ?_)
 cases h
 exact ⟨t_a_a11, rfl, rfl⟩


def zc2 (f' : GTys → Int → Int → (List Tag) → Option (GTys × Int × (List Tag))) : Prop :=
 ∀ {a_t : GTys} {zef : Int} {zdl : Int} {zeh : (List Tag)} {zeR : Nat} {zdv : Nat} {zcU : Nat} {t_a_do__01 : Tok} {r : GTys × Int × (List Tag)}, f' a_t zef zdl zeh = some r → Ctr Tryd.prog 108 [ptrv zeR (Fld.id GTys), isv (zef), ptrv zdv (Fld.id Int), clov 109 [ptrv zcU (Fld.id (TList Tag))]] [boxE zeR (a_t : GTys), boxE zdv (zdl : Int), boxE zcU ((TList.mk t_a_do__01 zeh) : (TList Tag)), tokE t_a_do__01] (fun R H => ∃ u1 : Tok, R = oneOf [] ∧ H = [boxE zeR (r.1), boxE zdv (r.2.1), boxE zcU ((TList.mk u1 r.2.2)), tokE u1])
theorem zf4 {zcC : GTys → Int → Int → (List Tag) → Option (GTys × Int × (List Tag))} (zgr : zc2 zcC) : ∀ {a_t : GTys} {zef : Int} {zdl : Int} {zeh : (List Tag)} {zeR : Nat} {zdv : Nat} {zcU : Nat} {t_a_do__01 : Tok} {r : GTys × Int × (List Tag)}, zbk zcC a_t zef zdl zeh = some r → Ctr Tryd.prog 108 [ptrv zeR (Fld.id GTys), isv (zef), ptrv zdv (Fld.id Int), clov 109 [ptrv zcU (Fld.id (TList Tag))]] [boxE zeR (a_t : GTys), boxE zdv (zdl : Int), boxE zcU ((TList.mk t_a_do__01 zeh) : (TList Tag)), tokE t_a_do__01] (fun R H => ∃ u1 : Tok, R = oneOf [] ∧ H = [boxE zeR (r.1), boxE zdv (r.2.1), boxE zcU ((TList.mk u1 r.2.2)), tokE u1]) := by
 intro a_t zef zdl zeh zeR zdv zcU t_a_do__01 r h
 unfold zbk at h
 refine zw Tryd.func108 rfl fun w0 S0 hT => zn (wsr (oM rfl (oV (zal rfl rfl) (oM rfl (zaz (jb 21) je .nil h 8 rfl (fun q2 g2 h => ?_) (fun J3 h hJ3 => ?_))))))
 ·refine oM rfl (zaz (jb 27) je .nil h 5 rfl (fun q5 g5 h => ?_) (fun J6 h hJ6 => ?_))
  ·refine rnf (zf h rfl (fun _ h => ?_) (fun _ h => ?_))
   ·refine zN (zB (zo .nil k4 ?_))
    cases h
    exact ⟨t_a_do__01, rfl, rfl⟩
   refine wkf (wsr (oM rfl (oV (zp rfl) (oT (zI (R := isv (zdl)) ty3 rfl tH hI (zE h fun q8 h => oV (zbZ rfl rfl q8) (oV (zp rfl) (oT (zi (y' := ((zdl - (1 : Int)) : Int)) ty3 rfl rfl hI tH rfl ?_)))))))))
   refine rnf (wsr (oM rfl (oV (zp rfl) (oV (z8 rfl GTys.f0 zjw) (oT (zI (R := isv (a_t.l)) ty38 rfl tH hI (oM rfl (zb h fun y9 hy9 h => oV (zaK (l := a_t.l) rfl hI rfl sl38 hy9) ?_))))))))
   refine oV (zg ty54 rfl) (oT (zab _ ze54 fun b10 => oT (zi (y' := (y9 : GTyp)) ty54 rfl rfl hI .here rfl (zai (zas 8 .here rfl) (rnf (wsr (oM rfl (oV (zg ty54 rfl) (zb h fun y11 hy11 h => ?_)))))))))
   refine oT (zgT rfl (s1 rfl) (ze1 hy11) hT (.cons tI (.cons tI .nil)) (fun R H' hR => ?_))
   obtain ⟨t12, rfl, rfl⟩ := hR
   refine rnf (zn (wsr (oV (zac rfl GTyp.f1 zeV rfl (z := y9.tags)) (oV (zg ty48 rfl) (oV (za6 (l := y9.tags) rfl hI sl48) (oV (zbY rfl rfl) (rnf (zf h rfl (fun _ h => ?_) (fun _ h => ?_)))))))))
   ·refine zN (zB (zo .nil (.cons (.there tI) (.cons tI k2)) ?_))
    cases h
    exact ⟨t12, rfl, rfl⟩
   refine wkf (wsr (oV (zac rfl GTyp.f4 zcN rfl (z := y9.fields)) (oV (zg ty52 rfl) (oV (za6 (l := y9.fields) rfl hI sl52) (oM rfl (rnf (zu (zbg (ι := Int × (List Tag) × Int × GTys) (γ := Tok) (fun q13 g13 => [(50, isv (q13.1))]) (fun q13 g13 => [boxE zcU ((TList.mk g13 q13.2.1) : (TList Tag)), tokE g13, boxE zdv (q13.2.2.1 : Int), boxE zeR (q13.2.2.2 : GTys)]) h (t12) (za (j := 50) rfl hI zd) k4 (fun L14 q13 g13 Q25 h hL14 eL14 rL14 => ?_)))))))))
   refine wsr (oV (zal rfl rfl) (rnf (zn (zf h rfl (fun _ h => ?_) (fun _ h => ?_)))))
   ·refine wkf (zn (zu (wsr (zb h fun y20 hy20 h => oV (zaK (l := y9.fields) rfl hI rfl sl52 hy20) (oV (zg ty65 rfl) (oT (zab _ ze65 fun b21 => oT (zi (y' := (y20 : GFld)) ty65 rfl rfl hI .here rfl ?_))))))))
    refine zai (zas 10 .here rfl) (rnf (zj (oM rfl (oV (zac rfl GFld.f1 zdn rfl (z := y20.ty)) (oV (zg ty3 rfl) (oM rfl (oM rfl (zb h fun y22 hy22 h => ?_))))))))
    refine oT (zL (zgr hy22) hT (s4 rfl rfl rfl rfl) (.cons (.there tI) (.cons tI k2)) (fun R H' hR => ?_))
    obtain ⟨t23, rfl, rfl⟩ := hR
    exact zx (zk (zA (zj (zE h fun q24 h => oV (zaf rfl rfl q24) (oM rfl (zx (hL14 _ (t23) h _ (ze 14 rfl rfl (za (j := 50) rfl hI zd) (.cons tI (.cons tI (.cons tH k1)))))))))))
   refine zah (zX (eL14 _ _ (zK (zao .nil (.cons (.there tI) (.cons tI k2)) ?_))))
   cases h
   exact ⟨g13, rfl, rfl⟩
  refine zC (j := 22) h rfl (fun g7 h => ?_) (fun g7 h => ?_)
  ·exact oP 22 rfl rfl g7 (oP 22 rfl rfl g7 (oP 22 rfl rfl g7 (oP 22 rfl rfl g7 (oV (zr rfl g7 rfl) (hJ6 _ () h _ (ze 5 rfl rfl (za (j := 27) rfl hI zd) k4))))))
  exact oK 22 rfl rfl rfl g7 (zq rfl) (oK 22 rfl rfl rfl g7 (zp rfl) (zaA rfl rfl (dj := 22) rfl g7 (zI (R := isv (zdl)) ty3 rfl tH hI (oK 22 rfl rfl rfl g7 (zam rfl rfl) (oV (zs rfl g7 rfl) (hJ6 _ () h _ (ze 5 rfl rfl (za (j := 27) rfl hI zd) k4)))))))
 refine zC (j := 13) h rfl (fun g4 h => ?_) (fun g4 h => ?_)
 ·exact oP 13 rfl rfl g4 (oP 13 rfl rfl g4 (oP 13 rfl rfl g4 (oP 13 rfl rfl g4 (oP 13 rfl rfl g4 (oP 13 rfl rfl g4 (oP 13 rfl rfl g4 (oV (zr rfl g4 rfl) (hJ3 _ () h _ (ze 8 rfl rfl (za (j := 21) rfl hI zd) k4)))))))))
 exact oK 13 rfl rfl rfl g4 (zq rfl) (oK 13 rfl rfl rfl g4 (zq rfl) (oK 13 rfl rfl rfl g4 (zp rfl) (oK 13 rfl rfl rfl g4 (z8 rfl GTys.f0 zjw) (zaA rfl rfl (dj := 13) rfl g4 (zI (R := isv (a_t.l)) ty38 rfl .here hI (oK 13 rfl rfl rfl g4 (za6 (l := a_t.l) rfl hI sl38) (oK 13 rfl rfl rfl g4 (zeN rfl rfl) (oV (zs rfl g4 rfl) (hJ3 _ () h _ (ze 8 rfl rfl (za (j := 21) rfl hI zd) k4))))))))))

theorem zdq : ∀ n, zc2 (zbX n)
 | 0 => fun h => (by cases h)
 | n + 1 => zf4 (zdq n)
theorem zgt (n : Nat) : zc2 (zbX n) := (zdq n)

theorem zfL : ∀ {a_t : GTys} {zef : Int} {zeR : Nat} {r : (List Tag) × GTys}, zcA a_t zef = some r → Ctr Tryd.prog 94 [ptrv zeR (Fld.id GTys), isv (zef)] [boxE zeR (a_t : GTys)] (fun R H => R = oneOf [isv (r.1)] ∧ H = [boxE zeR (r.2)]) := by
 intro a_t zef zeR r h
 unfold zcA at h
 refine zw Tryd.func94 rfl fun w0 S0 hT => wsr (oA rfl (rnf (wsr (oT (zab _ zpM fun b1 => zai (zbf) (rnf (wsr ?_)))))))
 refine oT (zab _ ze3 fun b3 => oT (zi (y' := ((300 : Int) : Int)) ty3 rfl rfl hI .here rfl (rnf (wsr (oM rfl (oM rfl (oV (ziA (s1 rfl)) (zb h fun y4 hy4 h => oT (zL (zgt fuel hy4) hT (s4 rfl rfl rfl rfl) (.cons (.there tI) (.cons .here (.cons tH k1))) (fun R H' hR => ?_))))))))))
 obtain ⟨t5, rfl, rfl⟩ := hR
 refine rnf (wsr (oT (zI (R := appv t5 (y4.2.2)) ty48 rfl tI isvT1 (oA rfl (rnf (zN ?_))))))
 cases h
 exact zo (.as rfl zJ .nil) k1 ⟨rfl, rfl⟩


theorem zia : ∀ {a_t : GTab} {a_i : Int} {r : (List Tag)}, zdD a_t a_i = some r → Ctr Tryd.prog 62 [isv (a_t), isv (a_i)] [] (fun R H => R = oneOf [isv (r)] ∧ H = []) := by
 intro a_t a_i r h
 unfold zdD at h
 refine zw Tryd.func62 rfl fun w0 S0 hT => wsr (oT (zbI (y := a_t) rfl hI (oA rfl (rnf (wsr (oV (zac rfl GTab.f3 ziI rfl (z := a_t.types)) (oV (zg ty38 rfl) (oV (zax (z := (GTys.mk a_t.types)) rfl bu146 ze146 (.cons GTys.f0 zjw rfl hI .nil)) ?_))))))))
 refine oT (zjK (y := (GTys.mk a_t.types)) rfl hI fun b1 => oA rfl (rnf (wsr (oM rfl (oM rfl (zb h fun y2 hy2 h => oT (zy (zfL hy2) hT (s2 rfl rfl) k1 (oA rfl ?_))))))))
 refine rnf (zN ?_)
 cases h
 exact zo (.tmp rfl .nil) .nil ⟨rfl, rfl⟩


theorem zf7 : ∀ {a_a : Tag} {a_b : Tag} {r : Bool}, zdQ a_a a_b = some r → Ctr Tryd.prog 41 [isv (a_a), isv (a_b)] [] (fun R H => R = oneOf [isv (r)] ∧ H = []) := by
 intro a_a a_b r h
 unfold zdQ at h
 refine zw Tryd.func41 rfl fun w0 S0 hT => wsr (oT (zbI (y := a_a) rfl hI (oT (zbI (y := a_b) rfl hI (oA rfl (rnf (zn (wsr (oV (zac rfl Tag.f0 zh8 rfl (z := a_a.cls)) ?_)))))))))
 refine oV (zg ty3 rfl) (oV (zac rfl Tag.f0 zh8 rfl (z := a_b.cls)) (oV (zg ty3 rfl) (oV (zcq rfl rfl) (rnf (zf h rfl (fun _ h => ?_) (fun _ h => ?_))))))
 ·refine wsr (oV (zac rfl Tag.f0 zh8 rfl (z := a_a.cls)) (oV (zg ty3 rfl) (oV (zac rfl Tag.f0 zh8 rfl (z := a_b.cls)) (oV (zg ty3 rfl) (oV (zal rfl rfl) (oA rfl (rnf (zN ?_))))))))
  refine zB ?_
  cases h
  exact zo (.tmp rfl .nil) .nil ⟨rfl, rfl⟩
 refine wkf (wsr (oV (zac rfl Tag.f1 zeE rfl (z := a_a.num)) (oV (zg ty3 rfl) (oV (zac rfl Tag.f1 zeE rfl (z := a_b.num)) (oV (zg ty3 rfl) (oV (zal rfl rfl) (oA rfl (rnf ?_))))))))
 refine zN ?_
 cases h
 exact zo (.tmp rfl .nil) .nil ⟨rfl, rfl⟩


theorem zaM : ∀ {a_t : GTab} {a_i : Int} {r : Tag}, zdt a_t a_i = some r → Ctr Tryd.prog 40 [isv (a_t), isv (a_i)] [] (fun R H => R = oneOf [isv (r)] ∧ H = []) := by
 intro a_t a_i r h
 unfold zdt at h
 refine zw Tryd.func40 rfl fun w0 S0 hT => wsr (oT (zbI (y := a_t) rfl hI (oT (zab _ ze57 fun b1 => rnf (wsr (oV (zg ty40 rfl) (oM rfl (zb h fun y2 hy2 h => ?_))))))))
 refine oT (zy (zia hy2) hT (s2 rfl rfl) .nil (oA rfl (rnf (zn (wsr (oM rfl (oV (za6 (l := y2) rfl hI sl48) (oV (zam rfl rfl) (rnf ?_)))))))))
 refine zf h rfl (fun _ h => ?_) (fun _ h => ?_)
 ·refine wsr (oV (zax (z := (Tag.mk (0 : Int) (0 : Int))) rfl bu57 ze57 .nil) (oT (zi (y' := ((Tag.mk (0 : Int) (0 : Int)) : Tag)) ty57 rfl rfl hI .here rfl (rnf (zN (zB ?_))))))
  cases h
  exact zo (.cell rfl .here ty57 .nil) .nil ⟨rfl, rfl⟩
 refine wkf (wsr (oM rfl (zb h fun y3 hy3 h => oV (zaK (l := y2) rfl hI rfl sl48 hy3) (oV (zg ty57 rfl) (oT (zab _ ze57 fun b4 => oT (zi (y' := (y3 : Tag)) ty57 rfl rfl hI .here rfl (rnf ?_))))))))
 refine zn (wsr (oM rfl (oV (za6 (l := y2) rfl hI sl48) (oM rfl (rnf (zu (zbg (ι := Int × Tag) (γ := Unit) (fun q5 g5 => [(21, isv (q5.1))]) (fun q5 g5 => [boxE b4 (q5.2 : Tag)]) h () (za (j := 21) rfl hI zd) k1 (fun L6 q5 g5 Q19 h hL6 eL6 rL6 => wsr ?_))))))))
 refine oV (zal rfl rfl) (rnf (zn (zf h rfl (fun _ h => ?_) (fun _ h => ?_))))
 ·refine wkf (zn (zdg (ι := Tag) (γ := Unit) (fun q13 g13 => []) (fun q13 g13 => [boxE b4 (q13 : Tag)]) k1 h (fun q13 g13 h => ?_) (fun J14 h hJ14 => ?_)))
  ·exact zj (zE h fun q18 h => oV (zaf rfl rfl q18) (oM rfl (zx (hL6 _ () h _ (ze 4 rfl rfl (za (j := 21) rfl hI zd) k2)))))
  refine zu (wsr (zb h fun y15 hy15 h => oV (zaK (l := y2) rfl hI rfl sl48 hy15) (oV (zg ty57 rfl) (oT (zab _ ze57 fun b16 => oT (zi (y' := (y15 : Tag)) ty57 rfl rfl hI .here rfl (zai (zas 8 .here rfl) (rnf ?_))))))))
  refine wsr (oV (zg ty57 rfl) (oT (zI (R := isv (q5.2)) ty57 rfl .here hI (zb h fun y17 hy17 h => oT (zy (zf7 hy17) hT (s2 rfl rfl) .nil (rnf (zf h rfl (fun _ h => ?_) (fun _ h => ?_))))))))
  ·exact zj (oV (zg ty57 rfl) (oT (zi (y' := (y15 : Tag)) ty57 rfl rfl hI .here rfl (zx (zk (hJ14 _ () h _ (ze 8 rfl rfl zd k2)))))))
  exact zW (zk (hJ14 _ () h _ (ze 7 rfl rfl zd k2)))
 refine zah (zX (eL6 _ _ (zK (zA (wsr (oT (zI (R := isv (q5.2)) ty57 rfl .here hI (oT (zi (y' := (q5.2 : Tag)) ty57 rfl rfl hI tH rfl (rnf ?_))))))))))
 refine zN ?_
 cases h
 exact zo (.cell rfl .here ty57 .nil) .nil ⟨rfl, rfl⟩


theorem zcP : ∀ {a_a : Int} {a_b : Int} {a_a2 : GTab} {a_a3 : GTyp} {r : Int}, zbb a_a a_b a_a2 a_a3 = some r → Ctr Tryd.prog 39 [isv (a_a), isv (a_b), immv (a_a2), immv (a_a3)] [] (fun R H => R = oneOf [isv (r)] ∧ H = []) := by
 intro a_a a_b a_a2 a_a3 r h
 unfold zbb at h
 refine zw Tryd.func39 rfl fun w0 S0 hT => wsr (oA rfl (rnf (zn (zdg (ι := Tag × Tag) (γ := Unit) (fun q1 g1 => [(7, immv (q1.1)), (8, immv (q1.2))]) (fun q1 g1 => []) .nil h (fun q1 g1 h => ?_) (fun J2 h hJ2 => ?_)))))
 ·refine zn (zu (wsr (oV (zg ty57 rfl) (oV (zg ty57 rfl) (zb h fun y25 hy25 h => oT (zy (zf7 hy25) hT (s2 rfl rfl) .nil (oA rfl (rnf ?_))))))))
  refine zf h rfl (fun _ h => ?_) (fun _ h => ?_)
  ·refine wsr (oA rfl (rnf (zN (zD (zB ?_)))))
   cases h
   exact zo (.tmp rfl .nil) .nil ⟨rfl, rfl⟩
  refine wsr (oV (zg ty57 rfl) (oV (zg ty57 rfl) (zb h fun y26 hy26 h => oT (zy (zf7 hy26) hT (s2 rfl rfl) .nil (oA rfl (rnf (zf h rfl (fun _ h => ?_) (fun _ h => ?_))))))))
  ·refine wsr (oA rfl (rnf (zN (zD (zB ?_)))))
   cases h
   exact zo (.tmp rfl .nil) .nil ⟨rfl, rfl⟩
  refine zW (zk (zA (wsr (oA rfl (rnf (zN ?_))))))
  cases h
  exact zo (.tmp rfl .nil) .nil ⟨rfl, rfl⟩
 refine zU (.v 0 (.v 1 (.v 2 (.v 3 (.v 4 (.v 5 (.v 6 (.v 8 (.v 9 (.v 10 (.v 11 (.v 12 (.v 13 (.v 14 (.alt 7 (.alt 15 (.alt 16 (.t 17 (.t 18 (.t 19 .nil))) (.t 17 (.t 16 (.t 18 (.t 19 .nil))))) (.alt 16 (.alt 15 (.t 17 (.t 18 (.t 19 .nil))) (.t 17 (.t 15 (.t 18 (.t 19 .nil))))) (.t 17 (.alt 15 (.t 16 (.t 18 (.t 19 .nil))) (.t 16 (.t 15 (.t 18 (.t 19 .nil)))))))) (.alt 16 (.alt 7 (.alt 15 (.t 17 (.t 18 (.t 19 .nil))) (.t 17 (.t 15 (.t 18 (.t 19 .nil))))) (.t 17 (.t 7 (.t 15 (.t 18 (.t 19 .nil)))))) (.t 17 (.alt 7 (.alt 15 (.t 16 (.t 18 (.t 19 .nil))) (.t 16 (.t 15 (.t 18 (.t 19 .nil))))) (.t 16 (.t 7 (.t 15 (.t 18 (.t 19 .nil))))))))))))))))))))))) moOrd (by kernel_rfl) ?_
 refine zt rfl (zg ty40 rfl) (zt rfl (zac rfl GTyp.f4 zcN rfl (z := a_a3.fields)) (zt rfl (zg ty52 rfl) (rvm rfl rfl (zb h fun y3 hy3 h => zt rfl (zaK (l := a_a3.fields) rfl hI rfl sl52 hy3) (zt rfl (zac rfl GFld.f1 zdn rfl (z := y3.ty)) (zt rfl (zg ty3 rfl) (zt rfl (zg ty40 rfl) ?_)))))))
 refine zt rfl (zac rfl GTyp.f4 zcN rfl (z := a_a3.fields)) (zt rfl (zg ty52 rfl) (rvm rfl rfl (zb h fun y4 hy4 h => zt rfl (zaK (l := a_a3.fields) rfl hI rfl sl52 hy4) (zt rfl (zac rfl GFld.f1 zdn rfl (z := y4.ty)) (zt rfl (zg ty3 rfl) (zb h fun y5 hy5 h => zb h fun y6 hy6 h => ?_))))))
 refine zbU ?_ (zbU ?_ ?_)
 ·refine zT rfl rfl (zy (zaM hy5) hT (s2 rfl rfl) .nil (zbU ?_ (zbU ?_ ?_)))
  ·refine zT rfl rfl (zy (zaM hy6) hT (s2 rfl rfl) .nil (zbU ?_ ?_))
   ·exact zT rfl rfl (zab _ ze57 fun b7 => zT rfl rfl (zab _ ze57 fun b8 => zT rfl rfl (zi (y' := (y5 : Tag)) ty57 rfl rfl hI tH rfl (zbi (zas 7 .here rfl) (zT rfl rfl (zi (y' := (y6 : Tag)) ty57 rfl rfl hI .here rfl (zbi (zas 8 .here rfl) (zae (hJ2 _ () h _ (ze 20 rfl rfl (za (j := 7) rfl hI (za (j := 8) rfl hI zd)) .nil))))))))))
   exact zT rfl rfl (zab _ ze57 fun b9 => zT rfl rfl (zab _ ze57 fun b10 => zT rfl rfl (zi (y' := (y5 : Tag)) ty57 rfl rfl hI .here rfl (zbi (zas 7 .here rfl) (zT rfl rfl (zi (y' := (y6 : Tag)) ty57 rfl rfl hI .here rfl (zbi (zas 8 .here rfl) (zae (hJ2 _ () h _ (ze 20 rfl rfl (za (j := 7) rfl hI (za (j := 8) rfl hI zd)) .nil))))))))))
  ·refine zT rfl rfl (zab _ ze57 fun b11 => zbU ?_ ?_)
   ·exact zT rfl rfl (zy (zaM hy6) hT (s2 rfl rfl) .nil (zT rfl rfl (zab _ ze57 fun b12 => zT rfl rfl (zi (y' := (y5 : Tag)) ty57 rfl rfl hI tH rfl (zbi (zas 7 .here rfl) (zT rfl rfl (zi (y' := (y6 : Tag)) ty57 rfl rfl hI .here rfl (zbi (zas 8 .here rfl) (zae (hJ2 _ () h _ (ze 20 rfl rfl (za (j := 7) rfl hI (za (j := 8) rfl hI zd)) .nil)))))))))))
   exact zT rfl rfl (zab _ ze57 fun b13 => zT rfl rfl (zy (zaM hy6) hT (s2 rfl rfl) .nil (zT rfl rfl (zi (y' := (y5 : Tag)) ty57 rfl rfl hI tH rfl (zbi (zas 7 .here rfl) (zT rfl rfl (zi (y' := (y6 : Tag)) ty57 rfl rfl hI .here rfl (zbi (zas 8 .here rfl) (zae (hJ2 _ () h _ (ze 20 rfl rfl (za (j := 7) rfl hI (za (j := 8) rfl hI zd)) .nil)))))))))))
  refine zT rfl rfl (zab _ ze57 fun b14 => zbU ?_ ?_)
  ·exact zT rfl rfl (zy (zaM hy6) hT (s2 rfl rfl) .nil (zT rfl rfl (zab _ ze57 fun b15 => zT rfl rfl (zi (y' := (y5 : Tag)) ty57 rfl rfl hI .here rfl (zbi (zas 7 .here rfl) (zT rfl rfl (zi (y' := (y6 : Tag)) ty57 rfl rfl hI .here rfl (zbi (zas 8 .here rfl) (zae (hJ2 _ () h _ (ze 20 rfl rfl (za (j := 7) rfl hI (za (j := 8) rfl hI zd)) .nil)))))))))))
  exact zT rfl rfl (zab _ ze57 fun b16 => zT rfl rfl (zy (zaM hy6) hT (s2 rfl rfl) .nil (zT rfl rfl (zi (y' := (y5 : Tag)) ty57 rfl rfl hI .here rfl (zbi (zas 7 .here rfl) (zT rfl rfl (zi (y' := (y6 : Tag)) ty57 rfl rfl hI .here rfl (zbi (zas 8 .here rfl) (zae (hJ2 _ () h _ (ze 20 rfl rfl (za (j := 7) rfl hI (za (j := 8) rfl hI zd)) .nil)))))))))))
 ·refine zT rfl rfl (zab _ ze57 fun b17 => zbU ?_ ?_)
  ·refine zT rfl rfl (zy (zaM hy5) hT (s2 rfl rfl) .nil (zbU ?_ ?_))
   ·exact zT rfl rfl (zy (zaM hy6) hT (s2 rfl rfl) .nil (zT rfl rfl (zab _ ze57 fun b18 => zT rfl rfl (zi (y' := (y5 : Tag)) ty57 rfl rfl hI tH rfl (zbi (zas 7 .here rfl) (zT rfl rfl (zi (y' := (y6 : Tag)) ty57 rfl rfl hI .here rfl (zbi (zas 8 .here rfl) (zae (hJ2 _ () h _ (ze 20 rfl rfl (za (j := 7) rfl hI (za (j := 8) rfl hI zd)) .nil)))))))))))
   exact zT rfl rfl (zab _ ze57 fun b19 => zT rfl rfl (zy (zaM hy6) hT (s2 rfl rfl) .nil (zT rfl rfl (zi (y' := (y5 : Tag)) ty57 rfl rfl hI tH rfl (zbi (zas 7 .here rfl) (zT rfl rfl (zi (y' := (y6 : Tag)) ty57 rfl rfl hI .here rfl (zbi (zas 8 .here rfl) (zae (hJ2 _ () h _ (ze 20 rfl rfl (za (j := 7) rfl hI (za (j := 8) rfl hI zd)) .nil)))))))))))
  exact zT rfl rfl (zab _ ze57 fun b20 => zT rfl rfl (zy (zaM hy5) hT (s2 rfl rfl) .nil (zT rfl rfl (zy (zaM hy6) hT (s2 rfl rfl) .nil (zT rfl rfl (zi (y' := (y5 : Tag)) ty57 rfl rfl hI tH rfl (zbi (zas 7 .here rfl) (zT rfl rfl (zi (y' := (y6 : Tag)) ty57 rfl rfl hI .here rfl (zbi (zas 8 .here rfl) (zae (hJ2 _ () h _ (ze 20 rfl rfl (za (j := 7) rfl hI (za (j := 8) rfl hI zd)) .nil)))))))))))))
 refine zT rfl rfl (zab _ ze57 fun b21 => zbU ?_ ?_)
 ·refine zT rfl rfl (zy (zaM hy5) hT (s2 rfl rfl) .nil (zbU ?_ ?_))
  ·exact zT rfl rfl (zy (zaM hy6) hT (s2 rfl rfl) .nil (zT rfl rfl (zab _ ze57 fun b22 => zT rfl rfl (zi (y' := (y5 : Tag)) ty57 rfl rfl hI .here rfl (zbi (zas 7 .here rfl) (zT rfl rfl (zi (y' := (y6 : Tag)) ty57 rfl rfl hI .here rfl (zbi (zas 8 .here rfl) (zae (hJ2 _ () h _ (ze 20 rfl rfl (za (j := 7) rfl hI (za (j := 8) rfl hI zd)) .nil)))))))))))
  exact zT rfl rfl (zab _ ze57 fun b23 => zT rfl rfl (zy (zaM hy6) hT (s2 rfl rfl) .nil (zT rfl rfl (zi (y' := (y5 : Tag)) ty57 rfl rfl hI .here rfl (zbi (zas 7 .here rfl) (zT rfl rfl (zi (y' := (y6 : Tag)) ty57 rfl rfl hI .here rfl (zbi (zas 8 .here rfl) (zae (hJ2 _ () h _ (ze 20 rfl rfl (za (j := 7) rfl hI (za (j := 8) rfl hI zd)) .nil)))))))))))
 exact zT rfl rfl (zab _ ze57 fun b24 => zT rfl rfl (zy (zaM hy5) hT (s2 rfl rfl) .nil (zT rfl rfl (zy (zaM hy6) hT (s2 rfl rfl) .nil (zT rfl rfl (zi (y' := (y5 : Tag)) ty57 rfl rfl hI .here rfl (zbi (zas 7 .here rfl) (zT rfl rfl (zi (y' := (y6 : Tag)) ty57 rfl rfl hI .here rfl (zbi (zas 8 .here rfl) (zae (hJ2 _ () h _ (ze 20 rfl rfl (za (j := 7) rfl hI (za (j := 8) rfl hI zd)) .nil)))))))))))))


theorem zcb : ∀ {zay : (List Int)} {a_a : Int} {a_b : Int} {zaq : GTab} {zap : GTyp} {zaa : Vt} {r : (List Int)}, za7 zay a_a a_b zaq zap = some r → Ctr Tryd.prog 106 [vecv zaa (zay.length), isv (a_a), isv (a_b), clov 39 [immv (zaq), immv (zap)]] [vecE zaa (zay : List Int)] (fun R H => R = oneOf [] ∧ H = [vecE zaa (r)]) := by
 intro zay a_a a_b zaq zap zaa r h
 unfold za7 at h
 refine zw Tryd.func106 rfl fun w0 S0 hT => wsr (oM rfl (zE h fun q1 h => oV (zaf rfl rfl q1) (oA rfl (rnf (zu (zbg (ι := (List Int) × Int) (γ := Unit) (fun q2 g2 => [(8, isv (q2.2)), (0, vecv zaa (q2.1.length))]) (fun q2 g2 => [vecE zaa (q2.1 : List Int)]) h () (za (j := 8) rfl hI (za (j := 0) rfl (vecvE (by first | rfl | simp)) zd)) k1 (fun L3 q2 g2 Q94 h hL3 eL3 rL3 => ?_)))))))
 refine zn (wsr (oM rfl (oM rfl (oV (zal rfl rfl) (rnf (zf h rfl (fun _ h => ?_) (fun _ h => ?_)))))))
 ·refine wkf (zn (zu (wsr (oM rfl (oA rfl (rnf (zu (zbg (ι := (List Int) × Int) (γ := Unit) (fun q49 g49 => [(9, isv (q49.2)), (0, vecv zaa (q49.1.length))]) (fun q49 g49 => [vecE zaa (q49.1 : List Int)]) h () (za (j := 9) rfl hI (za (j := 0) rfl (vecvE (by first | rfl | simp)) zd)) k1 (fun L50 q49 g49 Q93 h hL50 eL50 rL50 => ?_)))))))))
  refine zn (zn (zjD 0 .here rfl (by first | rfl | simp) (fun o72 hn73 => ?_)))
  refine zU (.v 0 (.v 1 (.v 2 (.v 3 (.v 4 (.v 5 (.v 6 (.v 7 (.v 8 (.v 9 (.v 10 (.v 11 (.v 12 (.v 13 (.t 14 (.v 15 (.v 16 .nil))))))))))))))))) moOrd (by kernel_rfl) ?_
  refine rvm rfl rfl (rvm rfl rfl (zt rfl (zbY rfl rfl) (rvm rfl rfl (zc9 (jb 34) je .nil h 13 rfl (fun q74 g74 h => ?_) (fun J75 h hJ75 => ?_)))))
  ·refine zae (zfp 0 hn73 rfl (zA (zf h rfl (fun _ h => ?_) (fun _ h => ?_))))
   ·refine wkf (zn (zu (zU (.v 0 (.v 1 (.v 2 (.v 3 (.v 4 (.v 5 (.v 6 (.v 7 (.v 8 (.v 10 (.v 11 (.v 12 (.alt 9 (.t 13 (.v 14 (.t 15 (.v 16 (.t 17 .nil))))) (.t 13 (.t 9 (.v 14 (.t 15 (.v 16 (.t 17 .nil))))))))))))))))))) moOrd (by kernel_rfl) ?_)))
    refine rvm rfl rfl (rvm rfl rfl (rvm rfl rfl (rvm rfl rfl (zE h fun q81 h => zt rfl (zbZ rfl rfl q81) (rvm rfl rfl (rvm rfl rfl (zE h fun q82 h => ?_)))))))
    refine zt rfl (zbZ rfl rfl q82) (zV h fun q83 h => zt rfl (zaR (α := Int) sl22 rfl rfl q83.1 q83.2) (rvm rfl rfl (rvm rfl rfl (zV h fun q84 h => zt rfl (zaR (α := Int) sl22 rfl rfl q84.1 q84.2) (zb h fun y85 hy85 h => zb h fun y86 hy86 h => ?_)))))
    refine zV h fun q87 h => zb h fun y88 hy88 h => zV h fun q89 h => zb h fun y90 hy90 h => zE h fun q91 h => zbU ?_ ?_
    ·refine zT rfl rfl (za4 ty3 rfl .here hy85 ?_)
     refine zT rfl rfl (za4 ty3 rfl .here hy86 ?_)
     refine zt rfl (zaR (α := Int) sl22 rfl rfl q87.1 q87.2) (zT rfl rfl (zbh ty3 rfl rfl .here hy88 (zt rfl (zaR (α := Int) sl22 rfl rfl q89.1 q89.2) (zT rfl rfl (zbh ty3 rfl rfl .here hy90 (zae (zk (zA (zj (oM rfl ?_))))))))))
     exact oV (zbZ rfl rfl q91) (oA rfl (zx (hL50 _ () h _ (ze 28 rfl rfl (za (j := 9) rfl hI (za (j := 0) rfl (vecvE (by first | rfl | simp)) zd)) k1))))
    refine zT rfl rfl (za4 ty3 rfl .here hy86 ?_)
    refine zT rfl rfl (za4 ty3 rfl .here hy85 ?_)
    refine zt rfl (zaR (α := Int) sl22 rfl rfl q87.1 q87.2) (zT rfl rfl (zbh ty3 rfl rfl .here hy88 (zt rfl (zaR (α := Int) sl22 rfl rfl q89.1 q89.2) (zT rfl rfl (zbh ty3 rfl rfl .here hy90 (zae (zk (zA (zj (oM rfl ?_))))))))))
    exact oV (zbZ rfl rfl q91) (oA rfl (zx (hL50 _ () h _ (ze 28 rfl rfl (za (j := 9) rfl hI (za (j := 0) rfl (vecvE (by first | rfl | simp)) zd)) k1))))
   refine zah (zX (eL50 _ _ (zK (zk (zA (zj (oM rfl (zE h fun q92 h => ?_))))))))
   exact oV (zaf rfl rfl q92) (oA rfl (zx (hL3 _ () h _ (ze 19 rfl rfl (za (j := 8) rfl hI (za (j := 0) rfl (vecvE (by first | rfl | simp)) zd)) k1))))
  refine zaF (j := 21) h rfl (fun g76 h => ?_) (fun g76 h => ?_)
  ·refine rvt 21 rfl rfl rfl g76 (zq rfl) (rvt 21 rfl rfl rfl g76 (zq rfl) (rvt 21 rfl rfl rfl g76 (zq rfl) (zb h fun y77 hy77 h => rvt 21 rfl rfl rfl g76 (zhK (α := Int) sl22 rfl rfl hy77) (rvt 21 rfl rfl rfl g76 (zhA ty3 rfl zeT) (rvt 21 rfl rfl rfl g76 (zq rfl) (rvt 21 rfl rfl rfl g76 (zq rfl) (zE h fun q78 h => ?_)))))))
   refine rvt 21 rfl rfl rfl g76 (zbZ rfl rfl q78) (zb h fun y79 hy79 h => rvt 21 rfl rfl rfl g76 (zhK (α := Int) sl22 rfl rfl hy79) (rvt 21 rfl rfl rfl g76 (zhA ty3 rfl zeT) (zb h fun y80 hy80 h => zg0 rfl rfl rfl (dj := 21) rfl g76 (zgT rfl (s2 rfl rfl) (zcP hy80) hT .nil (fun R H' hR => ?_)))))
   obtain ⟨rfl, rfl⟩ := hR
   exact rvt 21 rfl rfl rfl g76 (zal rfl rfl) (zt rfl (zr rfl g76 rfl) (hJ75 _ () h _ (ji 13 34 rfl rfl rfl)))
  refine rpv 21 rfl rfl rfl g76 (rpv 21 rfl rfl rfl g76 (rpv 21 rfl rfl rfl g76 (rpv 21 rfl rfl rfl g76 (rpv 21 rfl rfl rfl g76 (rpv 21 rfl rfl rfl g76 (rpv 21 rfl rfl rfl g76 (rpv 21 rfl rfl rfl g76 (rpv 21 rfl rfl rfl g76 ?_))))))))
  exact rpv 21 rfl rfl rfl g76 (zdx rfl rfl (dj := 21) rfl g76 (rpv 21 rfl rfl rfl g76 (zt rfl (zs rfl g76 rfl) (hJ75 _ () h _ (ji 13 34 rfl rfl rfl)))))
 refine zah (zX (eL3 _ _ (zK (zao .nil k1 ?_))))
 cases h
 exact ⟨rfl, rfl⟩


theorem zbW : ∀ {zay : (List Int)} {a_a : Int} {a_b : Int} {a_n_ : Int} {zaq : GTab} {zap : GTyp} {zaa : Vt} {r : (List Int)}, za2 zay a_a a_b a_n_ zaq zap = some r → Ctr Tryd.prog 122 [vecv zaa (zay.length), isv (a_a), isv (a_b), isv (a_n_), clov 39 [immv (zaq), immv (zap)]] [vecE zaa (zay : List Int)] (fun R H => R = oneOf [] ∧ H = [vecE zaa (r)]) := by
 intro zay a_a a_b a_n_ zaq zap zaa r h
 unfold za2 at h
 refine zw Tryd.func122 rfl fun w0 S0 hT => wsr (oA rfl (rnf (zu (zbg (ι := (List Int) × Int) (γ := Unit) (fun q1 g1 => [(10, isv (q1.2)), (0, vecv zaa (q1.1.length))]) (fun q1 g1 => [vecE zaa (q1.1 : List Int)]) h () (za (j := 10) rfl hI (za (j := 0) rfl (vecvE (by first | rfl | simp)) zd)) k1 (fun L2 q1 g1 Q42 h hL2 eL2 rL2 => ?_)))))
 refine zn (wsr (oM rfl (oM rfl (oV (zal rfl rfl) (rnf (zf h rfl (fun _ h => ?_) (fun _ h => ?_)))))))
 ·refine wkf (zn (zu (zU (.v 0 (.v 1 (.v 2 (.v 3 (.v 4 (.v 5 (.v 6 (.v 7 (.v 8 (.v 9 (.v 10 (.v 11 (.v 12 (.v 14 (.v 15 (.v 16 (.v 17 (.v 18 (.alt 13 (.t 19 (.v 20 (.t 21 (.v 22 (.t 23 .nil))))) (.t 19 (.t 13 (.v 20 (.t 21 (.v 22 (.t 23 .nil))))))))))))))))))))))))) moOrd (by kernel_rfl) ?_)))
  refine rvm rfl rfl (rvm rfl rfl (rvm rfl rfl (zE h fun q29 h => zt rfl (zaf rfl rfl q29) (rvm rfl rfl (rvm rfl rfl (rvm rfl rfl (zE h fun q30 h => ?_)))))))
  refine zt rfl (zaf rfl rfl q30) (rvm rfl rfl (rvm rfl rfl (rvm rfl rfl (zE h fun q31 h => zt rfl (zaf rfl rfl q31) (zV h fun q32 h => zt rfl (zaR (α := Int) sl22 rfl rfl q32.1 q32.2) (rvm rfl rfl ?_))))))
  refine rvm rfl rfl (rvm rfl rfl (zE h fun q33 h => zt rfl (zaf rfl rfl q33) (zV h fun q34 h => zt rfl (zaR (α := Int) sl22 rfl rfl q34.1 q34.2) (zb h fun y35 hy35 h => zb h fun y36 hy36 h => zV h fun q37 h => ?_))))
  refine zb h fun y38 hy38 h => zV h fun q39 h => zb h fun y40 hy40 h => zE h fun q41 h => zbU ?_ ?_
  ·refine zT rfl rfl (za4 ty3 rfl .here hy35 ?_)
   refine zT rfl rfl (za4 ty3 rfl .here hy36 ?_)
   refine zt rfl (zaR (α := Int) sl22 rfl rfl q37.1 q37.2) (zT rfl rfl (zbh ty3 rfl rfl .here hy38 (zt rfl (zaR (α := Int) sl22 rfl rfl q39.1 q39.2) (zT rfl rfl (zbh ty3 rfl rfl .here hy40 (zae (zk (zA (zj (oM rfl ?_))))))))))
   exact oV (zaf rfl rfl q41) (oA rfl (zx (hL2 _ () h _ (ze 30 rfl rfl (za (j := 10) rfl hI (za (j := 0) rfl (vecvE (by first | rfl | simp)) zd)) k1))))
  refine zT rfl rfl (za4 ty3 rfl .here hy36 ?_)
  refine zT rfl rfl (za4 ty3 rfl .here hy35 ?_)
  refine zt rfl (zaR (α := Int) sl22 rfl rfl q37.1 q37.2) (zT rfl rfl (zbh ty3 rfl rfl .here hy38 (zt rfl (zaR (α := Int) sl22 rfl rfl q39.1 q39.2) (zT rfl rfl (zbh ty3 rfl rfl .here hy40 (zae (zk (zA (zj (oM rfl ?_))))))))))
  exact oV (zaf rfl rfl q41) (oA rfl (zx (hL2 _ () h _ (ze 30 rfl rfl (za (j := 10) rfl hI (za (j := 0) rfl (vecvE (by first | rfl | simp)) zd)) k1))))
 refine zah (zX (eL2 _ _ (zK (zao .nil k1 ?_))))
 cases h
 exact ⟨rfl, rfl⟩


theorem zeH : ∀ {zay : (List Int)} {a_a : Int} {a_m : Int} {a_b : Int} {zaq : GTab} {zap : GTyp} {zaa : Vt} {r : (List Int)}, zcm zay a_a a_m a_b zaq zap = some r → Ctr Tryd.prog 115 [vecv zaa (zay.length), isv (a_a), isv (a_m), isv (a_b), clov 39 [immv (zaq), immv (zap)]] [vecE zaa (zay : List Int)] (fun R H => R = oneOf [] ∧ H = [vecE zaa (r)]) := by
 intro zay a_a a_m a_b zaq zap zaa r h
 unfold zcm at h
 refine zw Tryd.func115 rfl fun w0 S0 hT => wsr (oM rfl (oM rfl (zE h fun q1 h => oV (zbZ rfl rfl q1) (oA rfl (rnf (wsr ?_))))))
 refine oM rfl (oM rfl (zE h fun q2 h => oV (zbZ rfl rfl q2) (oA rfl (rnf (zn (zu (zbg (ι := (List Int) × Int × Int) (γ := Unit) (fun q3 g3 => [(10, isv (q3.2.1)), (11, isv (q3.2.2)), (0, vecv zaa (q3.1.length))]) (fun q3 g3 => [vecE zaa (q3.1 : List Int)]) h () (za (j := 10) rfl hI (za (j := 11) rfl hI (za (j := 0) rfl (vecvE (by first | rfl | simp)) zd))) k1 (fun L4 q3 g3 Q31 h hL4 eL4 rL4 => ?_))))))))
 refine zn (wsr (oM rfl (oM rfl (oV (zcq rfl rfl) (rnf (zf h rfl (fun _ h => ?_) (fun _ h => ?_)))))))
 ·refine wkf (zu (wsr (oM rfl (oM rfl (oV (zbY rfl rfl) (rnf (zf h rfl (fun _ h => ?_) (fun _ h => ?_))))))))
  ·refine wsr (oM rfl (oM rfl (oM rfl (zE h fun q18 h => oV (zbZ rfl rfl q18) (oM rfl (oM rfl (oM rfl ?_)))))))
   refine zb h fun y19 hy19 h => oT (zy (zbW hy19) hT (.cons rfl (fun _ _ h => vecvE (by first | rfl | simp) _ _ h) (s4 rfl rfl rfl rfl)) k1 ?_)
   refine zV h fun q20 h => zai (zaC 0 rfl (vecvE q20.symm)) (zai (zaC 24 rfl (vecvE q20.symm)) (rnf (zj (oM rfl (oM rfl (zE h fun q21 h => oV (zbZ rfl rfl q21) ?_))))))
   exact oA rfl (zx (zk (hL4 _ () h _ (ze 23 rfl rfl (za (j := 10) rfl hI (za (j := 11) rfl hI (za (j := 0) rfl (vecvE (by first | rfl | simp)) zd))) k1))))
  refine wsr (oM rfl (oM rfl (oM rfl (zE h fun q22 h => oV (zbZ rfl rfl q22) (oM rfl (oM rfl (zE h fun q23 h => ?_)))))))
  refine oV (zaf rfl rfl q23) (oM rfl (zE h fun q24 h => oV (zbZ rfl rfl q24) (oM rfl (oM rfl (zb h fun y25 hy25 h => oT (zy (zbW hy25) hT (.cons rfl (fun _ _ h => vecvE (by first | rfl | simp) _ _ h) (s4 rfl rfl rfl rfl)) k1 ?_))))))
  refine zV h fun q26 h => zai (zaC 0 rfl (vecvE q26.symm)) (zai (zaC 35 rfl (vecvE q26.symm)) (rnf (zj (oM rfl (oM rfl (zE h fun q27 h => oV (zbZ rfl rfl q27) ?_))))))
  exact oA rfl (zx (zk (hL4 _ () h _ (ze 27 rfl rfl (za (j := 10) rfl hI (za (j := 11) rfl hI (za (j := 0) rfl (vecvE (by first | rfl | simp)) zd))) k1))))
 refine zah (zX (eL4 _ _ (zK (zA (zj (oM rfl (oM rfl (oM rfl ?_))))))))
 refine zE h fun q28 h => oV (zbZ rfl rfl q28) (oM rfl (oM rfl (oM rfl (zb h fun y29 hy29 h => oT (zy (zbW hy29) hT (.cons rfl (fun _ _ h => vecvE (by first | rfl | simp) _ _ h) (s4 rfl rfl rfl rfl)) k1 ?_)))))
 refine zV h fun q30 h => zai (zaC 0 rfl (vecvE q30.symm)) (zai (zaC 50 rfl (vecvE q30.symm)) (zx (zao .nil k1 ?_)))
 cases h
 exact ⟨rfl, rfl⟩


def zb1 (f' : (List Int) → Int → Int → Int → GTab → GTyp → Option ((List Int))) : Prop :=
 ∀ {zay : (List Int)} {a_a : Int} {a_m : Int} {a_b : Int} {zaq : GTab} {zap : GTyp} {zaa : Vt} {r : (List Int)}, f' zay a_a a_m a_b zaq zap = some r → Ctr Tryd.prog 107 [vecv zaa (zay.length), isv (a_a), isv (a_m), isv (a_b), clov 39 [immv (zaq), immv (zap)]] [vecE zaa (zay : List Int)] (fun R H => R = oneOf [] ∧ H = [vecE zaa (r)])
theorem zea {za3 : (List Int) → Int → Int → Int → GTab → GTyp → Option ((List Int))} (zcJ : zb1 za3) : ∀ {zay : (List Int)} {a_a : Int} {a_m : Int} {a_b : Int} {zaq : GTab} {zap : GTyp} {zaa : Vt} {r : (List Int)}, zb2 za3 zay a_a a_m a_b zaq zap = some r → Ctr Tryd.prog 107 [vecv zaa (zay.length), isv (a_a), isv (a_m), isv (a_b), clov 39 [immv (zaq), immv (zap)]] [vecE zaa (zay : List Int)] (fun R H => R = oneOf [] ∧ H = [vecE zaa (r)]) := by
 intro zay a_a a_m a_b zaq zap zaa r h
 unfold zb2 at h
 refine zw Tryd.func107 rfl fun w0 S0 hT => zn (wsr (oM rfl (oM rfl (zE h fun q1 h => oV (zbZ rfl rfl q1) (oV (zam rfl rfl) (rnf ?_))))))
 refine zf h rfl (fun _ h => ?_) (fun _ h => ?_)
 ·refine wsr (oM rfl (oA rfl (rnf (wsr (oM rfl (oA rfl (rnf (zn ?_))))))))
  refine zu (zbg (ι := (List Int) × Int × Int) (γ := Unit) (fun q2 g2 => [(10, isv (q2.2.1)), (11, isv (q2.2.2)), (0, vecv zaa (q2.1.length))]) (fun q2 g2 => [vecE zaa (q2.1 : List Int)]) h () (za (j := 10) rfl hI (za (j := 11) rfl hI (za (j := 0) rfl (vecvE (by first | rfl | simp)) zd))) k1 (fun L3 q2 g2 Q145 h hL3 eL3 rL3 => ?_))
  refine zn (wsr (oM rfl (oM rfl (oV (zal rfl rfl) (rnf (zf h rfl (fun _ h => ?_) (fun _ h => ?_)))))))
  ·refine wkf (zu (wsr (oM rfl (oM rfl (zE h fun q98 h => oV (zaf rfl rfl q98) (oV (zhN Tryd.underlying3 Tryd.underlying24 rfl) (oV (zhX (q := (1 : UInt64)) rfl rfl (by decide)) ?_)))))))
   refine zE h fun q99 h => oV (zf2 Tryd.underlying24 Tryd.underlying3 rfl q99) (oA rfl (rnf (zn (zjD 0 .here rfl (by first | rfl | simp) (fun o100 hn101 => ?_)))))
   refine zU (.v 0 (.v 1 (.v 2 (.v 3 (.v 4 (.v 5 (.v 6 (.v 7 (.v 8 (.t 9 (.v 10 .nil))))))))))) moOrd (by kernel_rfl) ?_
   refine rvm rfl rfl (rvm rfl rfl (rvm rfl rfl (zb h fun y102 hy102 h => zt rfl (zhK (α := Int) sl22 rfl rfl hy102) (zt rfl (zhA ty3 rfl zeT) (rvm rfl rfl (rvm rfl rfl (zb h fun y103 hy103 h => ?_)))))))
   refine zt rfl (zhK (α := Int) sl22 rfl rfl hy103) (zt rfl (zhA ty3 rfl zeT) (zb h fun y104 hy104 h => zT rfl rfl (zgT rfl (s2 rfl rfl) (zcP hy104) hT .nil (fun R H' hR => ?_))))
   obtain ⟨rfl, rfl⟩ := hR
   refine zt rfl (zal rfl rfl) (zae (zfp 0 hn101 rfl (zA (zf h rfl (fun _ h => ?_) (fun _ h => ?_)))))
   ·exact zj (oM rfl (zE h fun q105 h => oV (zaf rfl rfl q105) (oA rfl (zx (zk (hL3 _ () h _ (ze 29 rfl rfl (za (j := 10) rfl hI (za (j := 11) rfl hI (za (j := 0) rfl (vecvE (by first | rfl | simp)) zd))) k1)))))))
   exact zj (oM rfl (oA rfl (zx (zk (hL3 _ () h _ (ze 28 rfl rfl (za (j := 10) rfl hI (za (j := 11) rfl hI (za (j := 0) rfl (vecvE (by first | rfl | simp)) zd))) k1))))))
  refine zah (zX (eL3 _ _ (zK (zA (zn (wsr (oM rfl (oA rfl ?_))))))))
  refine rnf (zu (zbg (ι := (List Int) × Int) (γ := Unit) (fun q106 g106 => [(13, isv (q106.2)), (0, vecv zaa (q106.1.length))]) (fun q106 g106 => [vecE zaa (q106.1 : List Int)]) h () (za (j := 13) rfl hI (za (j := 0) rfl (vecvE (by first | rfl | simp)) zd)) k1 (fun L107 q106 g106 Q144 h hL107 eL107 rL107 => ?_)))
  refine zn (wsr (oM rfl (oM rfl (zE h fun q132 h => oV (zbZ rfl rfl q132) (oV (zal rfl rfl) (rnf (zf h rfl (fun _ h => ?_) (fun _ h => ?_))))))))
  ·refine wkf (zn (zu (zU (.v 0 (.v 1 (.v 2 (.v 3 (.v 4 (.v 5 (.v 6 (.v 7 (.v 8 (.v 10 (.v 11 (.v 12 (.alt 9 (.t 13 (.v 14 (.t 15 (.v 16 (.t 17 .nil))))) (.t 13 (.t 9 (.v 14 (.t 15 (.v 16 (.t 17 .nil))))))))))))))))))) moOrd (by kernel_rfl) ?_)))
   refine rvm rfl rfl (rvm rfl rfl (rvm rfl rfl (rvm rfl rfl (zE h fun q133 h => zt rfl (zaf rfl rfl q133) (rvm rfl rfl (rvm rfl rfl (zE h fun q134 h => ?_)))))))
   refine zt rfl (zaf rfl rfl q134) (zV h fun q135 h => zt rfl (zaR (α := Int) sl22 rfl rfl q135.1 q135.2) (rvm rfl rfl (rvm rfl rfl (zV h fun q136 h => zt rfl (zaR (α := Int) sl22 rfl rfl q136.1 q136.2) (zb h fun y137 hy137 h => zb h fun y138 hy138 h => ?_)))))
   refine zV h fun q139 h => zb h fun y140 hy140 h => zV h fun q141 h => zb h fun y142 hy142 h => zE h fun q143 h => zbU ?_ ?_
   ·refine zT rfl rfl (za4 ty3 rfl .here hy137 ?_)
    refine zT rfl rfl (za4 ty3 rfl .here hy138 ?_)
    refine zt rfl (zaR (α := Int) sl22 rfl rfl q139.1 q139.2) (zT rfl rfl (zbh ty3 rfl rfl .here hy140 (zt rfl (zaR (α := Int) sl22 rfl rfl q141.1 q141.2) (zT rfl rfl (zbh ty3 rfl rfl .here hy142 (zae (zk (zA (zj (oM rfl ?_))))))))))
    exact oV (zaf rfl rfl q143) (oA rfl (zx (hL107 _ () h _ (ze 25 rfl rfl (za (j := 13) rfl hI (za (j := 0) rfl (vecvE (by first | rfl | simp)) zd)) k1))))
   refine zT rfl rfl (za4 ty3 rfl .here hy138 ?_)
   refine zT rfl rfl (za4 ty3 rfl .here hy137 ?_)
   refine zt rfl (zaR (α := Int) sl22 rfl rfl q139.1 q139.2) (zT rfl rfl (zbh ty3 rfl rfl .here hy140 (zt rfl (zaR (α := Int) sl22 rfl rfl q141.1 q141.2) (zT rfl rfl (zbh ty3 rfl rfl .here hy142 (zae (zk (zA (zj (oM rfl ?_))))))))))
   exact oV (zaf rfl rfl q143) (oA rfl (zx (hL107 _ () h _ (ze 25 rfl rfl (za (j := 13) rfl hI (za (j := 0) rfl (vecvE (by first | rfl | simp)) zd)) k1))))
  refine zah (zX (eL107 _ _ (zK (zA (zN (zB ?_))))))
  cases h
  exact zo .nil k1 ⟨rfl, rfl⟩
 refine wkf (zn (wsr (oM rfl (oM rfl (zE h fun q146 h => oV (zbZ rfl rfl q146) (oV (zam rfl rfl) (rnf ?_)))))))
 refine zf h rfl (fun _ h => ?_) (fun _ h => ?_)
 ·refine wsr (oM rfl (oA rfl (rnf (wsr (oM rfl (oA rfl (rnf (zn ?_))))))))
  refine zu (zbg (ι := (List Int) × Int × Int) (γ := Unit) (fun q147 g147 => [(14, isv (q147.2.1)), (15, isv (q147.2.2)), (0, vecv zaa (q147.1.length))]) (fun q147 g147 => [vecE zaa (q147.1 : List Int)]) h () (za (j := 14) rfl hI (za (j := 15) rfl hI (za (j := 0) rfl (vecvE (by first | rfl | simp)) zd))) k1 (fun L148 q147 g147 Q281 h hL148 eL148 rL148 => ?_))
  refine zn (wsr (oM rfl (oM rfl (oV (zal rfl rfl) (rnf (zf h rfl (fun _ h => ?_) (fun _ h => ?_)))))))
  ·refine wkf (zu (wsr (oM rfl (oM rfl (zE h fun q237 h => oV (zaf rfl rfl q237) (oV (zhN Tryd.underlying3 Tryd.underlying24 rfl) (oV (zhX (q := (1 : UInt64)) rfl rfl (by decide)) ?_)))))))
   refine zE h fun q238 h => oV (zf2 Tryd.underlying24 Tryd.underlying3 rfl q238) (oA rfl (rnf (zn (zjD 0 .here rfl (by first | rfl | simp) (fun o239 hn240 => ?_)))))
   refine zU (.v 0 (.v 1 (.v 2 (.v 3 (.v 4 (.v 5 (.v 6 (.v 7 (.v 8 (.t 9 (.v 10 (.v 11 .nil)))))))))))) moOrd (by kernel_rfl) ?_
   refine rvm rfl rfl (rvm rfl rfl (rvm rfl rfl (zb h fun y241 hy241 h => zt rfl (zhK (α := Int) sl22 rfl rfl hy241) (zt rfl (zhA ty3 rfl zeT) (rvm rfl rfl (rvm rfl rfl (zb h fun y242 hy242 h => ?_)))))))
   refine zt rfl (zhK (α := Int) sl22 rfl rfl hy242) (zt rfl (zhA ty3 rfl zeT) (zb h fun y243 hy243 h => zT rfl rfl (zgT rfl (s2 rfl rfl) (zcP hy243) hT .nil (fun R H' hR => ?_))))
   obtain ⟨rfl, rfl⟩ := hR
   refine zt rfl (zal rfl rfl) (zt rfl (zbL rfl) (zae (zfp 0 hn240 rfl (zA (zf h rfl (fun _ h => ?_) (fun _ h => ?_))))))
   ·exact zj (oM rfl (zE h fun q244 h => oV (zaf rfl rfl q244) (oA rfl (zx (zk (hL148 _ () h _ (ze 30 rfl rfl (za (j := 14) rfl hI (za (j := 15) rfl hI (za (j := 0) rfl (vecvE (by first | rfl | simp)) zd))) k1)))))))
   exact zj (oM rfl (oA rfl (zx (zk (hL148 _ () h _ (ze 29 rfl rfl (za (j := 14) rfl hI (za (j := 15) rfl hI (za (j := 0) rfl (vecvE (by first | rfl | simp)) zd))) k1))))))
  refine zah (zX (eL148 _ _ (zK (zA (zn (wsr (oM rfl (oA rfl ?_))))))))
  refine rnf (zu (zbg (ι := (List Int) × Int) (γ := Unit) (fun q245 g245 => [(17, isv (q245.2)), (0, vecv zaa (q245.1.length))]) (fun q245 g245 => [vecE zaa (q245.1 : List Int)]) h () (za (j := 17) rfl hI (za (j := 0) rfl (vecvE (by first | rfl | simp)) zd)) k1 (fun L246 q245 g245 Q280 h hL246 eL246 rL246 => ?_)))
  refine zn (wsr (oM rfl (oM rfl (oV (zbY rfl rfl) (rnf (zf h rfl (fun _ h => ?_) (fun _ h => ?_)))))))
  ·refine wkf (zn (zu (zU (.v 0 (.v 1 (.v 2 (.v 3 (.v 4 (.v 5 (.v 6 (.v 7 (.v 8 (.v 10 (.v 11 (.v 12 (.alt 9 (.t 13 (.v 14 (.t 15 (.v 16 (.t 17 .nil))))) (.t 13 (.t 9 (.v 14 (.t 15 (.v 16 (.t 17 .nil))))))))))))))))))) moOrd (by kernel_rfl) ?_)))
   refine rvm rfl rfl (rvm rfl rfl (rvm rfl rfl (rvm rfl rfl (zE h fun q269 h => zt rfl (zbZ rfl rfl q269) (rvm rfl rfl (rvm rfl rfl (zE h fun q270 h => ?_)))))))
   refine zt rfl (zbZ rfl rfl q270) (zV h fun q271 h => zt rfl (zaR (α := Int) sl22 rfl rfl q271.1 q271.2) (rvm rfl rfl (rvm rfl rfl (zV h fun q272 h => zt rfl (zaR (α := Int) sl22 rfl rfl q272.1 q272.2) (zb h fun y273 hy273 h => zb h fun y274 hy274 h => ?_)))))
   refine zV h fun q275 h => zb h fun y276 hy276 h => zV h fun q277 h => zb h fun y278 hy278 h => zE h fun q279 h => zbU ?_ ?_
   ·refine zT rfl rfl (za4 ty3 rfl .here hy273 ?_)
    refine zT rfl rfl (za4 ty3 rfl .here hy274 ?_)
    refine zt rfl (zaR (α := Int) sl22 rfl rfl q275.1 q275.2) (zT rfl rfl (zbh ty3 rfl rfl .here hy276 (zt rfl (zaR (α := Int) sl22 rfl rfl q277.1 q277.2) (zT rfl rfl (zbh ty3 rfl rfl .here hy278 (zae (zk (zA (zj (oM rfl ?_))))))))))
    exact oV (zbZ rfl rfl q279) (oA rfl (zx (hL246 _ () h _ (ze 24 rfl rfl (za (j := 17) rfl hI (za (j := 0) rfl (vecvE (by first | rfl | simp)) zd)) k1))))
   refine zT rfl rfl (za4 ty3 rfl .here hy274 ?_)
   refine zT rfl rfl (za4 ty3 rfl .here hy273 ?_)
   refine zt rfl (zaR (α := Int) sl22 rfl rfl q275.1 q275.2) (zT rfl rfl (zbh ty3 rfl rfl .here hy276 (zt rfl (zaR (α := Int) sl22 rfl rfl q277.1 q277.2) (zT rfl rfl (zbh ty3 rfl rfl .here hy278 (zae (zk (zA (zj (oM rfl ?_))))))))))
   exact oV (zbZ rfl rfl q279) (oA rfl (zx (hL246 _ () h _ (ze 24 rfl rfl (za (j := 17) rfl hI (za (j := 0) rfl (vecvE (by first | rfl | simp)) zd)) k1))))
  refine zah (zX (eL246 _ _ (zK (zA (zN (zB ?_))))))
  cases h
  exact zo .nil k1 ⟨rfl, rfl⟩
 refine wkf (wsr (oM rfl (oM rfl (zE h fun q282 h => oV (zaf rfl rfl q282) (oV (zhN Tryd.underlying3 Tryd.underlying24 rfl) (oV (zhX (q := (1 : UInt64)) rfl rfl (by decide)) ?_))))))
 refine zE h fun q283 h => oV (zf2 Tryd.underlying24 Tryd.underlying3 rfl q283) (oA rfl (rnf (wsr (oM rfl (oM rfl (zE h fun q284 h => oV (zaf rfl rfl q284) ?_))))))
 refine oA rfl (rnf (wsr (oA rfl (oA rfl (rnf (zn (wsr (oM rfl ?_))))))))
 refine oM rfl (oV (zbY rfl rfl) (rnf (zdg (ι := Int × Int) (γ := Unit) (fun q285 g285 => [(20, isv (q285.1)), (21, isv (q285.2))]) (fun q285 g285 => []) .nil h (fun q285 g285 h => ?_) (fun J286 h hJ286 => ?_))))
 ·refine wsr (oM rfl (zE h fun q288 h => oV (zbZ rfl rfl q288) (oA rfl (rnf (zn (zu (zbg (ι := (List Int) × Int × Int) (γ := Unit) (fun q289 g289 => [(20, isv (q289.2.1)), (21, isv (q289.2.2)), (0, vecv zaa (q289.1.length))]) (fun q289 g289 => [vecE zaa (q289.1 : List Int)]) h () (za (j := 20) rfl hI (za (j := 21) rfl hI (za (j := 0) rfl (vecvE (by first | rfl | simp)) zd))) k1 (fun L290 q289 g289 Q378 h hL290 eL290 rL290 => ?_))))))))
  refine zn (wsr (oM rfl (oM rfl (oV (zal rfl rfl) (rnf (zf h rfl (fun _ h => ?_) (fun _ h => ?_)))))))
  ·refine wkf (zu (wsr (oM rfl (oM rfl (zE h fun q349 h => oV (zaf rfl rfl q349) (oV (zhN Tryd.underlying3 Tryd.underlying24 rfl) (oV (zhX (q := (1 : UInt64)) rfl rfl (by decide)) ?_)))))))
   refine zE h fun q350 h => oV (zf2 Tryd.underlying24 Tryd.underlying3 rfl q350) (oA rfl (rnf (zn (zjD 0 .here rfl (by first | rfl | simp) (fun o351 hn352 => ?_)))))
   refine zU (.v 0 (.v 1 (.v 2 (.v 3 (.v 4 (.v 5 (.v 6 (.v 7 (.v 8 (.v 9 (.v 10 (.t 11 (.v 12 (.v 13 .nil)))))))))))))) moOrd (by kernel_rfl) ?_
   refine rvm rfl rfl (rvm rfl rfl (rvm rfl rfl (rvm rfl rfl (zE h fun q353 h => zt rfl (zbZ rfl rfl q353) (zb h fun y354 hy354 h => zt rfl (zhK (α := Int) sl22 rfl rfl hy354) (zt rfl (zhA ty3 rfl zeT) ?_))))))
   refine rvm rfl rfl (rvm rfl rfl (zb h fun y355 hy355 h => zt rfl (zhK (α := Int) sl22 rfl rfl hy355) (zt rfl (zhA ty3 rfl zeT) (zb h fun y356 hy356 h => zT rfl rfl (zgT rfl (s2 rfl rfl) (zcP hy356) hT .nil (fun R H' hR => ?_))))))
   obtain ⟨rfl, rfl⟩ := hR
   refine zt rfl (zal rfl rfl) (zt rfl (zbL rfl) (zae (zfp 0 hn352 rfl (zA (zf h rfl (fun _ h => ?_) (fun _ h => ?_))))))
   ·exact zj (oM rfl (zE h fun q357 h => oV (zaf rfl rfl q357) (oA rfl (zx (zk (hL290 _ () h _ (ze 32 rfl rfl (za (j := 20) rfl hI (za (j := 21) rfl hI (za (j := 0) rfl (vecvE (by first | rfl | simp)) zd))) k1)))))))
   exact zj (oM rfl (oA rfl (zx (zk (hL290 _ () h _ (ze 31 rfl rfl (za (j := 20) rfl hI (za (j := 21) rfl hI (za (j := 0) rfl (vecvE (by first | rfl | simp)) zd))) k1))))))
  refine zah (zX (eL290 _ _ (zK (zA (wsr (oM rfl (oM rfl (zE h fun q358 h => ?_))))))))
  refine oV (zbZ rfl rfl q358) (oA rfl (rnf (zn (wsr (oM rfl (oM rfl (oV (zal rfl rfl) (oM rfl ?_))))))))
  refine zaz (jb 185) je .nil h 4 rfl (fun q359 g359 h => ?_) (fun J360 h hJ360 => ?_)
  ·refine rnf (zdg (ι := (List Int)) (γ := Unit) (fun q362 g362 => [(0, vecv zaa (q362.length))]) (fun q362 g362 => [vecE zaa (q362 : List Int)]) k1 h (fun q362 g362 h => ?_) (fun J363 h hJ363 => ?_))
   ·refine zn (wsr (oM rfl (oM rfl (oV (zal rfl rfl) (oM rfl (zaz (jb 199) je .nil h 4 rfl (fun q366 g366 h => ?_) (fun J367 h hJ367 => ?_)))))))
    ·refine rnf (zdg (ι := (List Int)) (γ := Unit) (fun q369 g369 => [(0, vecv zaa (q369.length))]) (fun q369 g369 => [vecE zaa (q369 : List Int)]) k1 h (fun q369 g369 h => ?_) (fun J370 h hJ370 => ?_))
     ·refine wsr (oM rfl (oM rfl (oV (zal rfl rfl) (oM rfl (zaz (jb 213) je .nil h 4 rfl (fun q373 g373 h => ?_) (fun J374 h hJ374 => ?_))))))
      ·refine rnf (zf h rfl (fun _ h => ?_) (fun _ h => ?_))
       ·refine zj (oM rfl (oM rfl (oM rfl (oM rfl (oM rfl (zb h fun y376 hy376 h => oT (zy (zcJ hy376) hT (.cons rfl (fun _ _ h => vecvE (by first | rfl | simp) _ _ h) (s4 rfl rfl rfl rfl)) k1 ?_)))))))
        refine zV h fun q377 h => zai (zaC 0 rfl (vecvE q377.symm)) (zai (zaC 214 rfl (vecvE q377.symm)) (zx (zao .nil k1 ?_)))
        cases h
        exact ⟨rfl, rfl⟩
       refine zW (zao .nil k1 ?_)
       cases h
       exact ⟨rfl, rfl⟩
      refine zC (j := 209) h rfl (fun g375 h => ?_) (fun g375 h => ?_)
      ·exact oK 209 rfl rfl rfl g375 (zq rfl) (oK 209 rfl rfl rfl g375 (zq rfl) (oK 209 rfl rfl rfl g375 (zal rfl rfl) (oV (zr rfl g375 rfl) (hJ374 _ () h _ (jk 4 213 rfl rfl rfl)))))
      exact oP 209 rfl rfl g375 (oP 209 rfl rfl g375 (oP 209 rfl rfl g375 (oV (zs rfl g375 rfl) (hJ374 _ () h _ (jk 4 213 rfl rfl rfl)))))
     refine zf h rfl (fun _ h => ?_) (fun _ h => ?_)
     ·refine zj (oM rfl (oM rfl (oM rfl (oM rfl (oM rfl (zb h fun y371 hy371 h => oT (zy (zcJ hy371) hT (.cons rfl (fun _ _ h => vecvE (by first | rfl | simp) _ _ h) (s4 rfl rfl rfl rfl)) k1 ?_)))))))
      exact zV h fun q372 h => zai (zaC 0 rfl (vecvE q372.symm)) (zai (zaC 200 rfl (vecvE q372.symm)) (zx (hJ370 _ () h _ (ze 8 rfl rfl (za (j := 0) rfl (vecvE (by first | rfl | simp)) zd) k1))))
     exact zW (hJ370 _ () h _ (ze 0 rfl rfl (za (j := 0) rfl (vecvE (by first | rfl | simp)) zd) k1))
    refine zC (j := 195) h rfl (fun g368 h => ?_) (fun g368 h => ?_)
    ·exact oK 195 rfl rfl rfl g368 (zq rfl) (oK 195 rfl rfl rfl g368 (zq rfl) (oK 195 rfl rfl rfl g368 (zal rfl rfl) (oV (zr rfl g368 rfl) (hJ367 _ () h _ (jk 4 199 rfl rfl rfl)))))
    exact oP 195 rfl rfl g368 (oP 195 rfl rfl g368 (oP 195 rfl rfl g368 (oV (zs rfl g368 rfl) (hJ367 _ () h _ (jk 4 199 rfl rfl rfl)))))
   refine zf h rfl (fun _ h => ?_) (fun _ h => ?_)
   ·refine zj (oM rfl (oM rfl (oM rfl (oM rfl (oM rfl (zb h fun y364 hy364 h => oT (zy (zeH hy364) hT (.cons rfl (fun _ _ h => vecvE (by first | rfl | simp) _ _ h) (s4 rfl rfl rfl rfl)) k1 ?_)))))))
    exact zV h fun q365 h => zai (zaC 0 rfl (vecvE q365.symm)) (zai (zaC 186 rfl (vecvE q365.symm)) (zx (hJ363 _ () h _ (ze 8 rfl rfl (za (j := 0) rfl (vecvE (by first | rfl | simp)) zd) k1))))
   exact zW (hJ363 _ () h _ (ze 0 rfl rfl (za (j := 0) rfl (vecvE (by first | rfl | simp)) zd) k1))
  refine zC (j := 181) h rfl (fun g361 h => ?_) (fun g361 h => ?_)
  ·exact oK 181 rfl rfl rfl g361 (zq rfl) (oK 181 rfl rfl rfl g361 (zq rfl) (oK 181 rfl rfl rfl g361 (zal rfl rfl) (oV (zr rfl g361 rfl) (hJ360 _ () h _ (jk 4 185 rfl rfl rfl)))))
  exact oP 181 rfl rfl g361 (oP 181 rfl rfl g361 (oP 181 rfl rfl g361 (oV (zs rfl g361 rfl) (hJ360 _ () h _ (jk 4 185 rfl rfl rfl)))))
 refine zf h rfl (fun _ h => ?_) (fun _ h => ?_)
 ·refine wsr (oM rfl (oM rfl (zE h fun q287 h => oV (zbZ rfl rfl q287) (oA rfl (rnf (zj (oM rfl ?_)))))))
  exact oA rfl (zx (hJ286 _ () h _ (ze 6 rfl rfl (za (j := 20) rfl hI (za (j := 21) rfl hI zd)) k1)))
 exact wsr (oM rfl (oA rfl (rnf (zj (oM rfl (oA rfl (zx (hJ286 _ () h _ (ze 4 rfl rfl (za (j := 20) rfl hI (za (j := 21) rfl hI zd)) k1)))))))))

theorem zcg : ∀ n, zb1 (zaT n)
 | 0 => fun h => (by cases h)
 | n + 1 => zea (zcg n)
theorem zcI (n : Nat) : zb1 (zaT n) := (zcg n)

theorem zer : ∀ {zay : (List Int)} {a_n_ : Int} {zaq : GTab} {zap : GTyp} {zaa : Vt} {r : (List Int)}, zbP zay a_n_ zaq zap = some r → Ctr Tryd.prog 93 [vecv zaa (zay.length), isv (a_n_), clov 39 [immv (zaq), immv (zap)]] [vecE zaa (zay : List Int)] (fun R H => R = oneOf [] ∧ H = [vecE zaa (r)]) := by
 intro zay a_n_ zaq zap zaa r h
 unfold zbP at h
 refine zw Tryd.func93 rfl fun w0 S0 hT => wsr (oA rfl (rnf (wsr (oM rfl (oA rfl (oA rfl (rnf ?_)))))))
 refine zn (zu (zbg (ι := (List Int) × Int × Int) (γ := Unit) (fun q1 g1 => [(7, isv (q1.2.1)), (8, isv (q1.2.2)), (0, vecv zaa (q1.1.length))]) (fun q1 g1 => [vecE zaa (q1.1 : List Int)]) h () (za (j := 7) rfl hI (za (j := 8) rfl hI (za (j := 0) rfl (vecvE (by first | rfl | simp)) zd))) k1 (fun L2 q1 g1 Q183 h hL2 eL2 rL2 => ?_)))
 refine zn (wsr (oM rfl (oM rfl (oV (zi0 rfl rfl) (rnf (zf h rfl (fun _ h => ?_) (fun _ h => ?_)))))))
 ·refine wkf (zu (wsr (oM rfl (oM rfl (oM rfl (oM rfl (zb h fun y123 hy123 h => oT (zy (zcb hy123) hT (.cons rfl (fun _ _ h => vecvE (by first | rfl | simp) _ _ h) (s3 rfl rfl rfl)) k1 ?_))))))))
  refine zV h fun q124 h => zai (zaC 0 rfl (vecvE q124.symm)) (zai (zaC 14 rfl (vecvE q124.symm)) (rnf (wsr (oM rfl (oA rfl (rnf (zj ?_)))))))
  exact oM rfl (oM rfl (zE h fun q125 h => oV (zaf rfl rfl q125) (oA rfl (zx (zk (hL2 _ () h _ (ze 19 rfl rfl (za (j := 7) rfl hI (za (j := 8) rfl hI (za (j := 0) rfl (vecvE (by first | rfl | simp)) zd))) k1)))))))
 refine zah (zX (eL2 _ _ (zK (zA (wsr (oM rfl (oM rfl (oM rfl ?_))))))))
 refine oM rfl (zb h fun y126 hy126 h => oT (zy (zcb hy126) hT (.cons rfl (fun _ _ h => vecvE (by first | rfl | simp) _ _ h) (s3 rfl rfl rfl)) k1 ?_))
 refine zV h fun q127 h => zai (zaC 0 rfl (vecvE q127.symm)) (zai (zaC 23 rfl (vecvE q127.symm)) (rnf (zu (zbg (ι := (List Int) × Int) (γ := Unit) (fun q128 g128 => [(6, isv (q128.2)), (7, anyv), (8, anyv), (23, anyv), (0, vecv zaa (q128.1.length))]) (fun q128 g128 => [vecE zaa (q128.1 : List Int)]) h () (za (j := 6) rfl hI (za (j := 7) rfl (fun _ _ _ => trivial) (za (j := 8) rfl (fun _ _ _ => trivial) (za (j := 23) rfl (fun _ _ _ => trivial) (za (j := 0) rfl (vecvE (by first | rfl | simp)) zd))))) k1 (fun L129 q128 g128 Q182 h hL129 eL129 rL129 => ?_)))))
 refine zn (wsr (oM rfl (oM rfl (oV (zal rfl rfl) (rnf (zf h rfl (fun _ h => ?_) (fun _ h => ?_)))))))
 ·refine wkf (zu (wsr (oM rfl (zE h fun q156 h => oV (znB rfl rfl q156) (oA rfl (oA rfl (rnf ?_)))))))
  refine zn (zu (zbg (ι := (List Int) × Int × Int) (γ := Unit) (fun q157 g157 => [(7, isv (q157.2.1)), (8, isv (q157.2.2)), (0, vecv zaa (q157.1.length))]) (fun q157 g157 => [vecE zaa (q157.1 : List Int)]) h () (za (j := 7) rfl hI (za (j := 8) rfl hI (za (j := 0) rfl (vecvE (by first | rfl | simp)) zd))) k1 (fun L158 q157 g157 Q181 h hL158 eL158 rL158 => ?_)))
  refine zn (wsr (oM rfl (oM rfl (oV (zi0 rfl rfl) (rnf (zf h rfl (fun _ h => ?_) (fun _ h => ?_)))))))
  ·refine wkf (zu (wsr (oM rfl (oM rfl (oM rfl (oM rfl (zE h fun q170 h => oV (zaf rfl rfl q170) ?_)))))))
   refine oM rfl (oM rfl (zb h fun y171 hy171 h => oT (zy (zcI fuel hy171) hT (.cons rfl (fun _ _ h => vecvE (by first | rfl | simp) _ _ h) (s4 rfl rfl rfl rfl)) k1 ?_)))
   refine zV h fun q172 h => zai (zaC 0 rfl (vecvE q172.symm)) (zai (zaC 36 rfl (vecvE q172.symm)) (rnf (wsr (oM rfl (oA rfl (rnf (zj ?_)))))))
   refine oM rfl (oM rfl (zE h fun q173 h => oV (znB rfl rfl q173) (zE h fun q174 h => oV (zaf rfl rfl q174) (oA rfl (zx (zk ?_))))))
   exact hL158 _ () h _ (ze 23 rfl rfl (za (j := 7) rfl hI (za (j := 8) rfl hI (za (j := 0) rfl (vecvE (by first | rfl | simp)) zd))) k1)
  refine zah (zX (eL158 _ _ (zK (zA (zn (wsr (oM rfl (oM rfl ?_))))))))
  refine zE h fun q175 h => oV (zaf rfl rfl q175) (oA rfl (rnf (wsr (oM rfl (oM rfl (oV (zal rfl rfl) (rnf ?_)))))))
  refine zdg (ι := (List Int)) (γ := Unit) (fun q176 g176 => [(0, vecv zaa (q176.length))]) (fun q176 g176 => [vecE zaa (q176 : List Int)]) k1 h (fun q176 g176 h => ?_) (fun J177 h hJ177 => ?_)
  ·exact zj (oM rfl (zE h fun q180 h => oV (znB rfl rfl q180) (oA rfl (zx (zk (hL129 _ () h _ (ze 29 rfl rfl (za (j := 6) rfl hI (za (j := 7) rfl (fun _ _ _ => trivial) (za (j := 8) rfl (fun _ _ _ => trivial) (za (j := 23) rfl (fun _ _ _ => trivial) (za (j := 0) rfl (vecvE (by first | rfl | simp)) zd))))) k1)))))))
  refine zf h rfl (fun _ h => ?_) (fun _ h => ?_)
  ·refine zj (oM rfl (oM rfl (oM rfl (oM rfl (oM rfl (zb h fun y178 hy178 h => oT (zy (zcI fuel hy178) hT (.cons rfl (fun _ _ h => vecvE (by first | rfl | simp) _ _ h) (s4 rfl rfl rfl rfl)) k1 ?_)))))))
   exact zV h fun q179 h => zai (zaC 0 rfl (vecvE q179.symm)) (zai (zaC 55 rfl (vecvE q179.symm)) (zx (hJ177 _ () h _ (ze 8 rfl rfl (za (j := 0) rfl (vecvE (by first | rfl | simp)) zd) k1))))
  exact zW (hJ177 _ () h _ (ze 0 rfl rfl (za (j := 0) rfl (vecvE (by first | rfl | simp)) zd) k1))
 refine zah (zX (eL129 _ _ (zK (zao .nil k1 ?_))))
 cases h
 exact ⟨rfl, rfl⟩


theorem zdG : ∀ {a_x : (List Int)} {zaq : GTab} {zap : GTyp} {zlW : Vt} {r : (List Int)}, zbd a_x zaq zap = some r → Ctr Tryd.prog 61 [vecv zlW (a_x.length), clov 39 [immv (zaq), immv (zap)]] [vecE zlW (a_x : List Int)] (fun R H => R = oneOf [] ∧ H = [vecE zlW (r)]) := by
 intro a_x zaq zap zlW r h
 unfold zbd at h
 refine zw Tryd.func61 rfl fun w0 S0 hT => zj (oM rfl (oM rfl (oV (zif sl22 rfl) (oM rfl (zb h fun y1 hy1 h => oT (zy (zer hy1) hT (.cons rfl (fun _ _ h => vecvE (by first | rfl | simp) _ _ h) (s2 rfl rfl)) k1 ?_))))))
 refine zV h fun q2 h => zai (zaC 0 rfl (vecvE q2.symm)) (zai (zaC 4 rfl (vecvE q2.symm)) (zai (zaC 5 rfl (vecvE q2.symm)) (zx (zao .nil k1 ?_))))
 cases h
 exact ⟨rfl, rfl⟩


theorem zic : ∀ {ze0 : GTab} {zfd : GTyp} {a_l : (List Int)} {zes : (List Int)} {zc5 : Vt} {r : (List Int)}, zdO ze0 zfd a_l zes = some r → Ctr Tryd.prog 38 [clov 39 [immv (ze0), immv (zfd)], vecv zc5 (a_l.length), isv (zes)] [vecE zc5 (a_l : List Int)] (fun R H => R = oneOf [isv (r)] ∧ H = []) := by
 intro ze0 zfd a_l zes zc5 r h
 unfold zdO at h
 refine zw Tryd.func38 rfl fun w0 S0 hT => wsr (oA rfl (zai (zgY (α := Int)) (zai (zaC 6 rfl nilvV) (rnf (wsr (oM rfl (oM rfl ?_)))))))
 refine zb h fun y2 hy2 h => oT (zy (zdG hy2) hT (.cons rfl (fun _ _ h => vecvE (by first | rfl | simp) _ _ h) (s1 rfl)) (.cons tH .nil) ?_)
 refine zV h fun q3 h => zai (zaC 1 rfl (vecvE q3.symm)) (zai (zaC 7 rfl (vecvE q3.symm)) (rnf (wsr (oM rfl (oM rfl (zad h fun q5 h => oT (zgP (m := zes) zdb rfl rfl hI .here (by first | rfl | simp) q5 fun v4 => ?_)))))))
 refine oA rfl (rnf (zN (zl6 (zgK 6 .here rfl (by first | rfl | simp)) ?_)))
 cases h
 exact zo (.tmp rfl .nil) .nil ⟨rfl, rfl⟩


theorem zfN : ∀ {a_t : GTab} {a_i : Int} {r : (List Int)}, zcG a_t a_i = some r → Ctr Tryd.prog 14 [isv (a_t), isv (a_i)] [] (fun R H => R = oneOf [isv (r)] ∧ H = []) := by
 intro a_t a_i r h
 unfold zcG at h
 refine zw Tryd.func14 rfl fun w0 S0 hT => wsr (oT (zbI (y := a_t) rfl hI (oA rfl (rnf (wsr (oV (zg ty40 rfl) (oM rfl (zb h fun y1 hy1 h => ?_))))))))
 refine oT (zy (ziW hy1) hT (s2 rfl rfl) .nil (oT (zab _ ze54 fun b2 => oT (zi (y' := (y1 : GTyp)) ty54 rfl rfl hI .here rfl (zai (zas 5 .here rfl) (rnf (wsr (oV (zac rfl GTyp.f4 zcN rfl (z := y1.fields)) (oV (zg ty52 rfl) (oV (za6 (l := y1.fields) rfl hI sl52) ?_))))))))))
 refine oA rfl (rnf (zn (wsr (oV (zac rfl GTyp.f0 zgz rfl (z := y1.kind)) (oV (zg ty3 rfl) (rnf (zu (wsr ?_))))))))
 refine oV (zam rfl rfl) (oA rfl (rnf (zf h rfl (fun _ h => ?_) (fun _ h => ?_))))
 ·refine wsr (oM rfl (zb h fun y3 hy3 h => oT (zL (zeq hy3) hT (s2 rfl rfl) .nil (fun R H' hR => ?_))))
  obtain ⟨v4, rfl, rfl⟩ := hR
  refine oA rfl (rnf (zN (zD (zB (zl6 (zgK 4 .here rfl (by first | rfl | simp)) ?_)))))
  cases h
  exact zo (.tmp rfl .nil) .nil ⟨rfl, rfl⟩
 refine zn (wsr (oV (zam rfl rfl) (oA rfl (rnf (zdg (jb 20) je .nil h (fun q5 g5 h => ?_) (fun J6 h hJ6 => ?_))))))
 ·refine zf h rfl (fun _ h => ?_) (fun _ h => ?_)
  ·refine wsr (oV (zac rfl GTyp.f5 zil rfl (z := y1.root)) (oV (zg ty3 rfl) (oV (zqa rfl rfl) (oM rfl (oV (zpk rfl rfl) (oA rfl (rnf (wsr ?_))))))))
   refine oV (ziA (s2 rfl rfl)) (oM rfl (zb h fun y7 hy7 h => oT (zL (zeq hy7) hT (s2 rfl rfl) .nil (fun R H' hR => ?_))))
   obtain ⟨v8, rfl, rfl⟩ := hR
   refine oM rfl (oM rfl (zb h fun y9 hy9 h => oT (zL (zeq hy9) hT (s2 rfl rfl) .nil (fun R H' hR => ?_))))
   obtain ⟨v10, rfl, rfl⟩ := hR
   refine zai (zgK 33 .here rfl (by first | rfl | simp)) ?_
   refine zb h fun y11 hy11 h => oT (zy (zic hy11) hT (.same rfl (.cons rfl (fun _ _ h => vecvE (by first | rfl | simp) _ _ h) (s1 rfl))) k1 ?_)
   refine oA rfl (rnf (zN (zD (zB ?_))))
   cases h
   exact zo (.tmp rfl .nil) .nil ⟨rfl, rfl⟩
  refine zW (zk (zA (wsr (oA rfl (rnf (zN ?_))))))
  cases h
  exact zo (.as rfl (zdB (α := Int)) .nil) .nil ⟨rfl, rfl⟩
 refine zf h rfl (fun _ h => ?_) (fun _ h => ?_)
 ·exact zW (hJ6 _ () h _ (ji 0 20 rfl rfl rfl))
 exact zj (oV (zam rfl rfl) (oA rfl (zx (hJ6 _ () h _ (ji 2 20 rfl rfl rfl)))))


theorem zeX : ∀  {r : Bool}, zcz  = some r → Ctr Tryd.prog 11 [] [] (fun R H => R = oneOf [isv (r)] ∧ H = []) := by
 intro  r h
 unfold zcz at h
 refine zw Tryd.func11 rfl fun w0 S0 hT => wsr (oA rfl (rnf (wsr (zb h fun y1 hy1 h => oT (zy (zeJ hy1) hT (s1 rfl) .nil (oM rfl (oV (zau rfl rfl) ?_)))))))
 refine oV (zau rfl rfl) (oT (zab _ ze40 fun b2 => oT (zi (y' := (y1.1 : GTab)) ty40 rfl rfl hI .here rfl (zai (zas 1 .here rfl) (oA rfl (rnf (wsr (oV (zg ty40 rfl) (zb h fun y3 hy3 h => ?_)))))))))
 refine oT (zy (zfN hy3) hT (s2 rfl rfl) .nil (oA rfl (rnf (wsr (oM rfl (oM rfl (zaz (jb 15) je .nil h 4 rfl (fun q4 g4 h => ?_) (fun J5 h hJ5 => ?_))))))))
 ·refine oM rfl (zaz (jb 21) je .nil h 5 rfl (fun q7 g7 h => ?_) (fun J8 h hJ8 => ?_))
  ·refine oM rfl (zaz (jb 27) je .nil h 5 rfl (fun q11 g11 h => ?_) (fun J12 h hJ12 => ?_))
   ·refine oA rfl (rnf (zN ?_))
    cases h
    exact zo (.tmp rfl .nil) .nil ⟨rfl, rfl⟩
   refine zC (j := 22) h rfl (fun g13 h => ?_) (fun g13 h => ?_)
   ·exact oK 22 rfl rfl rfl g13 (zq rfl) (zb h fun y14 hy14 h => oK 22 rfl rfl rfl g13 (zaK (l := y3) rfl hI rfl sl22 hy14) (oK 22 rfl rfl rfl g13 (zg ty3 rfl) (oK 22 rfl rfl rfl g13 (zam rfl rfl) (oV (zr rfl g13 rfl) (hJ12 _ () h _ (ji 5 27 rfl rfl rfl))))))
   exact oP 22 rfl rfl g13 (oP 22 rfl rfl g13 (oP 22 rfl rfl g13 (oP 22 rfl rfl g13 (oV (zs rfl g13 rfl) (hJ12 _ () h _ (ji 5 27 rfl rfl rfl))))))
  refine zC (j := 16) h rfl (fun g9 h => ?_) (fun g9 h => ?_)
  ·exact oK 16 rfl rfl rfl g9 (zq rfl) (zb h fun y10 hy10 h => oK 16 rfl rfl rfl g9 (zaK (l := y3) rfl hI rfl sl22 hy10) (oK 16 rfl rfl rfl g9 (zg ty3 rfl) (oK 16 rfl rfl rfl g9 (zam rfl rfl) (oV (zr rfl g9 rfl) (hJ8 _ () h _ (ji 5 21 rfl rfl rfl))))))
  exact oP 16 rfl rfl g9 (oP 16 rfl rfl g9 (oP 16 rfl rfl g9 (oP 16 rfl rfl g9 (oV (zs rfl g9 rfl) (hJ8 _ () h _ (ji 5 21 rfl rfl rfl))))))
 refine zC (j := 11) h rfl (fun g6 h => ?_) (fun g6 h => ?_)
 ·exact oK 11 rfl rfl rfl g6 (zq rfl) (oK 11 rfl rfl rfl g6 (za6 (l := y3) rfl hI sl22) (oK 11 rfl rfl rfl g6 (zam rfl rfl) (oV (zr rfl g6 rfl) (hJ5 _ () h _ (ji 4 15 rfl rfl rfl)))))
 exact oP 11 rfl rfl g6 (oP 11 rfl rfl g6 (oP 11 rfl rfl g6 (oV (zs rfl g6 rfl) (hJ5 _ () h _ (ji 4 15 rfl rfl rfl)))))

end Go.Proofs.Q


namespace Go.Proofs.Q
open Go.Sy
set_option maxRecDepth 4000
end Go.Proofs.Q


namespace Go.Proofs.Q
open Go.Sy
set_option maxRecDepth 4000
end Go.Proofs.Q


namespace Go.Proofs.Q
open Go.Sy
set_option maxRecDepth 4000
theorem zg8 : ∀ {zce : (List Int)} {zca : Int} {r : Bool}, zdc zce zca = some r → Ctr Tryd.prog 4 [isv (zce), isv (zca)] [] (fun R H => R = oneOf [isv (r)] ∧ H = []) := by
 intro zce zca r h
 unfold zdc at h
 refine zw Tryd.func4 rfl fun w0 S0 hT => wsr (oA rfl (rnf (wsr (oM rfl (oV (zhN Tryd.underlying3 Tryd.underlying24 rfl) (zad h fun q1 h => oV (zj1 rfl rfl q1) ?_))))))
 refine zE h fun q2 h => oV (zf2 Tryd.underlying24 Tryd.underlying3 rfl q2) (oA rfl (rnf (zn (wsr (oM rfl (oV (za6 (l := zce) rfl hI sl22) (oV (zam rfl rfl) ?_)))))))
 refine oM rfl (zaz (jb 24) je .nil h 4 rfl (fun q3 g3 h => ?_) (fun J4 h hJ4 => ?_))
 ·refine rnf (zf h rfl (fun _ h => ?_) (fun _ h => ?_))
  ·refine wsr (zb h fun y6 hy6 h => oT (zy (zeX hy6) hT .nil .nil (oA rfl (rnf (zN (zB ?_))))))
   cases h
   exact zo (.tmp rfl .nil) .nil ⟨rfl, rfl⟩
  refine wkf (wsr (oA rfl (rnf (wsr (oA rfl (rnf (zn (wsr ?_))))))))
  refine oA rfl (rnf (zu (zfF (zbf) (zbg (ι := Str × (List Int) × Int) (γ := Tok) (fun q7 g7 => [(5, isv (q7.1)), (6, appv g7 (q7.2.1)), (7, isv (q7.2.2))]) (fun q7 g7 => [tokE g7]) h (none) (za (j := 5) rfl hI (za (j := 6) rfl zbF (za (j := 7) rfl hI zd))) k1 (fun L8 q7 g7 Q194 h hL8 eL8 rL8 => zn (wsr (oM rfl (oM rfl ?_))))))))
  refine oV (za6 (l := zce) rfl hI sl22) (oV (zal rfl rfl) (rnf (zf h rfl (fun _ h => ?_) (fun _ h => ?_))))
  ·refine wkf (zn (zu (wsr (oM rfl (oM rfl (zb h fun y101 hy101 h => oV (zaK (l := zce) rfl hI rfl sl22 hy101) (oV (zg ty3 rfl) ?_)))))))
   refine oV (zhN Tryd.underlying3 Tryd.underlying24 rfl) (zad h fun q102 h => oV (zj1 rfl rfl q102) (zE h fun q103 h => oV (zf2 Tryd.underlying24 Tryd.underlying3 rfl q103) (oA rfl (rnf (zn (wsr ?_))))))
   refine oM rfl (oM rfl (zb h fun y104 hy104 h => oT (zy (zez hy104) hT (.cons rfl zJ (s1 rfl)) .nil (rnf (zf h rfl (fun _ h => ?_) (fun _ h => ?_))))))
   ·refine wsr (zb h fun y105 hy105 h => oT (zy (zeX hy105) hT .nil .nil (oA rfl (rnf (zN (zB (zD (zB ?_))))))))
    refine rL8 _ (zD (zB ?_))
    cases h
    exact zo (.tmp rfl .nil) .nil ⟨rfl, rfl⟩
   refine wkf (wsr (oM rfl (oM rfl (oT (zS (l := ([(((UInt64.ofNat (y101 % 18446744073709551616).toNat) % (60 : UInt64)).toNat : Int)] : (List Int))) el22 (.cons rfl hI .nil) rfl rfl (zad h fun q108 h => oT (zbA (l := q7.2.1) (m := ([(((UInt64.ofNat (y101 % 18446744073709551616).toNat) % (60 : UInt64)).toNat : Int)] : (List Int))) zdb rfl hI rfl zJ .here q108 fun t107 => oA rfl (rnf ?_))))))))
   refine zn (wsr (oM rfl (oV (zbY rfl rfl) (rnf (zdg (ι := Str) (γ := Unit) (fun q109 g109 => [(5, isv (q109))]) (fun q109 g109 => []) .nil h (fun q109 g109 h => ?_) (fun J110 h hJ110 => ?_))))))
   ·refine zj (oM rfl (zad h fun q112 h => oV (zeQ rfl rfl q112) (oM rfl (oV (zhN Tryd.underlying3 Tryd.underlying26 rfl) (zb h fun y113 hy113 h => oT (zy (zib fuel hy113) hT (s1 rfl) .nil (zad h fun q114 h => ?_)))))))
    refine oV (zeQ rfl rfl q114) (zad h fun q115 h => oV (zeQ rfl rfl q115) (oM rfl (oV (zhN Tryd.underlying3 Tryd.underlying26 rfl) (zb h fun y116 hy116 h => oT (zy (zib fuel hy116) hT (s1 rfl) .nil (zad h fun q117 h => oV (zeQ rfl rfl q117) ?_))))))
    refine zad h fun q118 h => oV (zeQ rfl rfl q118) (oA rfl (zx (zk (zA (zj (oM rfl (zE h fun q119 h => ?_)))))))
    exact oV (zaf rfl rfl q119) (oA rfl (zx (hL8 _ (t107) h _ (ze 42 rfl rfl (za (j := 5) rfl hI (za (j := 6) rfl hI (za (j := 7) rfl hI zd))) k1))))
   refine zf h rfl (fun _ h => ?_) (fun _ h => ?_)
   ·exact zj (oM rfl (zad h fun q111 h => oV (zeQ rfl rfl q111) (oA rfl (zx (hJ110 _ () h _ (jk 3 5 rfl rfl rfl))))))
   exact zW (hJ110 _ () h _ (jk 0 5 rfl rfl rfl))
  refine zah (zX (eL8 _ _ (zK (zA (wsr (oT (zS (l := ([(Str.mk [83, 69, 84]), (Str.mk [67, 72, 79, 73, 67, 69]), (Str.mk [83, 69, 81, 85, 69, 78, 67, 69])] : (List Str))) el27 (.cons rfl hI (.cons rfl hI (.cons rfl hI .nil))) rfl rfl (oM rfl (zb h fun y121 hy121 h => ?_)))))))))
  refine oV (zaK (l := ([(Str.mk [83, 69, 84]), (Str.mk [67, 72, 79, 73, 67, 69]), (Str.mk [83, 69, 81, 85, 69, 78, 67, 69])] : (List Str))) rfl zJ rfl sl27 hy121) (oV (zg ty9 rfl) (zad h fun q122 h => oV (zeQ rfl rfl q122) (zad h fun q123 h => oV (zeQ rfl rfl q123) (oM rfl (zad h fun q124 h => oV (zeQ rfl rfl q124) ?_)))))
  refine zad h fun q125 h => oV (zeQ rfl rfl q125) (zb h fun y126 hy126 h => oT (zy (zeJ hy126) hT (s1 rfl) .nil (oM rfl (oV (zau rfl rfl) (oV (zau rfl rfl) (oT (zab _ ze40 fun b127 => oT (zi (y' := (y126.1 : GTab)) ty40 rfl rfl hI .here rfl ?_))))))))
  refine zai (zas 9 .here rfl) (oA rfl (rnf (wsr (oV (zg ty40 rfl) (zb h fun y128 hy128 h => oT (zy (zfN hy128) hT (s2 rfl rfl) .nil (oA rfl (rnf ?_))))))))
  refine zn (wsr (zb h fun y129 hy129 h => oT (zy (zeX hy129) hT .nil .nil (oV (zbL rfl) (oM rfl (zaz (jb 83) je .nil h 3 rfl (fun q130 g130 h => ?_) (fun J131 h hJ131 => ?_)))))))
  ·refine oM rfl (zaz (jb 90) je .nil h 6 rfl (fun q133 g133 h => ?_) (fun J134 h hJ134 => ?_))
   ·refine rnf (zf h rfl (fun _ h => ?_) (fun _ h => ?_))
    ·refine wsr (oA rfl (rnf (zN (zB ?_))))
     cases h
     exact zo (.tmp rfl .nil) .nil ⟨rfl, rfl⟩
    refine wkf (zn (wsr (oA rfl (rnf (zu (zbg (ι := Int) (γ := Unit) (fun q136 g136 => [(12, isv (q136))]) (fun q136 g136 => []) h () (za (j := 12) rfl hI zd) .nil (fun L137 q136 g136 Q192 h hL137 eL137 rL137 => zn (wsr ?_))))))))
    refine oM rfl (oM rfl (oV (za6 (l := y128) rfl hI sl22) (oV (zal rfl rfl) (rnf (zf h rfl (fun _ h => ?_) (fun _ h => ?_))))))
    ·refine wkf (zn (zu (zn (zU (.v 0 (.v 1 (.v 2 (.v 3 (.v 4 (.v 5 (.v 6 (.v 7 (.v 8 (.v 9 (.v 10 (.v 11 (.v 12 (.v 13 (.v 14 (.v 15 (.v 16 (.v 17 (.v 18 (.v 19 (.v 20 (.v 21 (.v 22 (.v 23 (.v 24 (.v 25 (.v 26 (.v 27 (.v 28 (.v 29 (.v 30 (.v 31 (.v 32 (.v 33 (.v 34 (.v 35 (.v 36 (.v 37 (.v 38 (.v 39 (.v 40 (.v 41 (.v 42 (.v 43 (.v 44 (.v 45 (.v 46 (.v 47 (.v 48 (.v 49 (.v 50 (.v 51 .nil)))))))))))))))))))))))))))))))))))))))))))))))))))) moOrd (by kernel_rfl) ?_))))
     refine rvm rfl rfl (rvm rfl rfl (zb h fun y165 hy165 h => zt rfl (zaK (l := y128) rfl hI rfl sl22 hy165) (zt rfl (zg ty3 rfl) (zt rfl (zal rfl rfl) (rvm rfl rfl (zc9 (jb 110) je .nil h 8 rfl (fun q166 g166 h => ?_) (fun J167 h hJ167 => ?_)))))))
     ·refine rvm rfl rfl (zc9 (jb 122) je .nil h 11 rfl (fun q170 g170 h => ?_) (fun J171 h hJ171 => ?_))
      ·refine rvm rfl rfl (zc9 (jb 148) je .nil h 25 rfl (fun q177 g177 h => ?_) (fun J178 h hJ178 => ?_))
       ·refine zae (zA (zf h rfl (fun _ h => ?_) (fun _ h => ?_)))
        ·refine wsr (oA rfl (rnf (zN (zD (zB (rL137 _ (zD (zB ?_))))))))
         cases h
         exact zo (.tmp rfl .nil) .nil ⟨rfl, rfl⟩
        refine zW (zk (zA (zj (oM rfl (zE h fun q191 h => oV (zaf rfl rfl q191) (oA rfl (zx ?_)))))))
        exact hL137 _ () h _ (jk 19 12 rfl rfl rfl)
       refine zaF (j := 123) h rfl (fun g179 h => ?_) (fun g179 h => ?_)
       ·refine rpv 123 rfl rfl rfl g179 (rpv 123 rfl rfl rfl g179 (rpv 123 rfl rfl rfl g179 (zav rfl rfl (dj := 126) rfl (zav rfl rfl (dj := 126) rfl (rpv 123 rfl rfl rfl g179 (rpv 123 rfl rfl rfl g179 (zav rfl rfl (dj := 130) rfl (zav rfl rfl (dj := 130) rfl ?_))))))))
        refine zav rfl rfl (dj := 130) rfl (zav rfl rfl (dj := 130) rfl (zav rfl rfl (dj := 130) rfl (zav rfl rfl (dj := 130) rfl (zav rfl rfl (dj := 130) rfl (zav rfl rfl (dj := 130) rfl (zav rfl rfl (dj := 130) rfl (zav rfl rfl (dj := 130) rfl (zav rfl rfl (dj := 130) rfl ?_))))))))
        exact zav rfl rfl (dj := 130) rfl (zav rfl rfl (dj := 130) rfl (zav rfl rfl (dj := 130) rfl (zav rfl rfl (dj := 130) rfl (zav rfl rfl (dj := 130) rfl (rpv 123 rfl rfl rfl g179 (zt rfl (zr rfl g179 rfl) (hJ178 _ () h _ (jk 25 148 rfl rfl rfl))))))))
       refine rvt 123 rfl rfl rfl g179 (zq rfl) (rvt 123 rfl rfl rfl g179 (zal rfl rfl) (rvt 123 rfl rfl rfl g179 (zq rfl) (zc9 (jb 129) je .nil h 3 rfl (fun q180 g180 h => ?_) (fun J181 h hJ181 => ?_))))
       ·refine rvt 123 rfl rfl rfl g179 (zq rfl) (zc9 (jb 147) je .nil h 17 rfl (fun q183 g183 h => ?_) (fun J184 h hJ184 => ?_))
        ·exact zt rfl (zs rfl g179 rfl) (hJ178 _ () h _ (jk 7 148 rfl rfl rfl))
        refine zaF (j := 130) h rfl (fun g185 h => ?_) (fun g185 h => ?_)
        ·refine rvt 130 rfl rfl rfl g185 (zq rfl) (rvt 130 rfl rfl rfl g185 (zq rfl) (rvt 130 rfl rfl rfl g185 (zq rfl) (zb h fun y186 hy186 h => rvt 130 rfl rfl rfl g185 (zaK (l := y128) rfl hI rfl sl22 hy186) (rvt 130 rfl rfl rfl g185 (zg ty3 rfl) (zb h fun y187 hy187 h => rvt 130 rfl rfl rfl g185 (zaK (l := q7.2.1) rfl zJ rfl sl22 hy187) (rvt 130 rfl rfl rfl g185 (zg ty3 rfl) ?_))))))
         refine rvt 130 rfl rfl rfl g185 (zq rfl) (rvt 130 rfl rfl rfl g185 (zq rfl) (rvt 130 rfl rfl rfl g185 (zq rfl) (zE h fun q188 h => rvt 130 rfl rfl rfl g185 (zbZ rfl rfl q188) (zb h fun y189 hy189 h => rvt 130 rfl rfl rfl g185 (zaK (l := y128) rfl hI rfl sl22 hy189) (rvt 130 rfl rfl rfl g185 (zg ty3 rfl) (zb h fun y190 hy190 h => ?_))))))
         exact rvt 130 rfl rfl rfl g185 (zaK (l := q7.2.1) rfl zJ rfl sl22 hy190) (rvt 130 rfl rfl rfl g185 (zg ty3 rfl) (rvt 130 rfl rfl rfl g185 (zi0 rfl rfl) (rvt 123 rfl rfl rfl g179 (zr rfl g185 rfl) (hJ184 _ () h _ (jk 17 147 rfl rfl rfl)))))
        refine rpv 130 rfl rfl rfl g185 (rpv 130 rfl rfl rfl g185 (rpv 130 rfl rfl rfl g185 (rpv 130 rfl rfl rfl g185 (rpv 130 rfl rfl rfl g185 (rpv 130 rfl rfl rfl g185 (rpv 130 rfl rfl rfl g185 (rpv 130 rfl rfl rfl g185 (rpv 130 rfl rfl rfl g185 ?_))))))))
        exact rpv 130 rfl rfl rfl g185 (rpv 130 rfl rfl rfl g185 (rpv 130 rfl rfl rfl g185 (rpv 130 rfl rfl rfl g185 (rpv 130 rfl rfl rfl g185 (rpv 130 rfl rfl rfl g185 (rpv 130 rfl rfl rfl g185 (rvt 123 rfl rfl rfl g179 (zs rfl g185 rfl) (hJ184 _ () h _ (jk 17 147 rfl rfl rfl)))))))))
       refine zaF (j := 126) h rfl (fun g182 h => ?_) (fun g182 h => ?_)
       ·exact rvt 126 rfl rfl rfl g182 (zq rfl) (rvt 126 rfl rfl rfl g182 (zbY rfl rfl) (rvt 123 rfl rfl rfl g179 (zr rfl g182 rfl) (hJ181 _ () h _ (jk 3 129 rfl rfl rfl))))
       exact rpv 126 rfl rfl rfl g182 (rpv 126 rfl rfl rfl g182 (rvt 123 rfl rfl rfl g179 (zs rfl g182 rfl) (hJ181 _ () h _ (jk 3 129 rfl rfl rfl))))
      refine zaF (j := 111) h rfl (fun g172 h => ?_) (fun g172 h => ?_)
      ·refine rpv 111 rfl rfl rfl g172 (rpv 111 rfl rfl rfl g172 (rpv 111 rfl rfl rfl g172 (zav rfl rfl (dj := 114) rfl (zav rfl rfl (dj := 114) rfl (zav rfl rfl (dj := 114) rfl (zav rfl rfl (dj := 114) rfl (zav rfl rfl (dj := 114) rfl (zav rfl rfl (dj := 114) rfl ?_))))))))
       exact rpv 111 rfl rfl rfl g172 (zt rfl (zr rfl g172 rfl) (hJ171 _ () h _ (jk 11 122 rfl rfl rfl)))
      refine rvt 111 rfl rfl rfl g172 (zq rfl) (rvt 111 rfl rfl rfl g172 (zam rfl rfl) (rvt 111 rfl rfl rfl g172 (zq rfl) (zc9 (jb 121) je .nil h 7 rfl (fun q173 g173 h => ?_) (fun J174 h hJ174 => ?_))))
      ·exact zt rfl (zs rfl g172 rfl) (hJ171 _ () h _ (jk 5 122 rfl rfl rfl))
      refine zaF (j := 114) h rfl (fun g175 h => ?_) (fun g175 h => ?_)
      ·exact rvt 114 rfl rfl rfl g175 (zq rfl) (rvt 114 rfl rfl rfl g175 (zq rfl) (zb h fun y176 hy176 h => rvt 114 rfl rfl rfl g175 (zaK (l := y128) rfl hI rfl sl22 hy176) (rvt 114 rfl rfl rfl g175 (zg ty3 rfl) (rvt 114 rfl rfl rfl g175 (zq rfl) (rvt 114 rfl rfl rfl g175 (zcq rfl rfl) (rvt 111 rfl rfl rfl g172 (zr rfl g175 rfl) (hJ174 _ () h _ (jk 7 121 rfl rfl rfl))))))))
      exact rpv 114 rfl rfl rfl g175 (rpv 114 rfl rfl rfl g175 (rpv 114 rfl rfl rfl g175 (rpv 114 rfl rfl rfl g175 (rpv 114 rfl rfl rfl g175 (rpv 114 rfl rfl rfl g175 (rvt 111 rfl rfl rfl g172 (zs rfl g175 rfl) (hJ174 _ () h _ (jk 7 121 rfl rfl rfl))))))))
     refine zaF (j := 102) h rfl (fun g168 h => ?_) (fun g168 h => ?_)
     ·exact rpv 102 rfl rfl rfl g168 (rpv 102 rfl rfl rfl g168 (rpv 102 rfl rfl rfl g168 (rpv 102 rfl rfl rfl g168 (rpv 102 rfl rfl rfl g168 (rpv 102 rfl rfl rfl g168 (rpv 102 rfl rfl rfl g168 (zt rfl (zr rfl g168 rfl) (hJ167 _ () h _ (jk 8 110 rfl rfl rfl)))))))))
     refine rvt 102 rfl rfl rfl g168 (zq rfl) (rvt 102 rfl rfl rfl g168 (zq rfl) (zb h fun y169 hy169 h => rvt 102 rfl rfl rfl g168 (zaK (l := y128) rfl hI rfl sl22 hy169) (rvt 102 rfl rfl rfl g168 (zg ty3 rfl) (rvt 102 rfl rfl rfl g168 (zq rfl) (rvt 102 rfl rfl rfl g168 (za6 (l := q7.2.1) rfl zJ sl22) (rvt 102 rfl rfl rfl g168 (zeN rfl rfl) (zt rfl (zs rfl g168 rfl) ?_)))))))
     exact hJ167 _ () h _ (jk 8 110 rfl rfl rfl)
    refine zah (zX (eL137 _ _ (zK (zA (wsr (oA rfl (rnf (zN ?_))))))))
    cases h
    exact zo (.tmp rfl .nil) .nil ⟨rfl, rfl⟩
   refine zC (j := 84) h rfl (fun g135 h => ?_) (fun g135 h => ?_)
   ·exact oP 84 rfl rfl g135 (oP 84 rfl rfl g135 (oP 84 rfl rfl g135 (oP 84 rfl rfl g135 (oP 84 rfl rfl g135 (oV (zr rfl g135 rfl) (hJ134 _ () h _ (jk 6 90 rfl rfl rfl)))))))
   exact oK 84 rfl rfl rfl g135 (zq rfl) (oK 84 rfl rfl rfl g135 (za6 (l := y128) rfl hI sl22) (oK 84 rfl rfl rfl g135 (zq rfl) (oK 84 rfl rfl rfl g135 (za6 (l := q7.2.1) rfl zJ sl22) (oK 84 rfl rfl rfl g135 (zcq rfl rfl) (oV (zs rfl g135 rfl) (hJ134 _ () h _ (jk 6 90 rfl rfl rfl)))))))
  refine zC (j := 80) h rfl (fun g132 h => ?_) (fun g132 h => ?_)
  ·exact oP 80 rfl rfl g132 (oP 80 rfl rfl g132 (oV (zr rfl g132 rfl) (hJ131 _ () h _ (jk 3 83 rfl rfl rfl))))
  exact oK 80 rfl rfl rfl g132 (zq rfl) (oK 80 rfl rfl rfl g132 (zbL rfl) (oV (zs rfl g132 rfl) (hJ131 _ () h _ (jk 3 83 rfl rfl rfl))))
 refine zC (j := 20) h rfl (fun g5 h => ?_) (fun g5 h => ?_)
 ·exact oP 20 rfl rfl g5 (oP 20 rfl rfl g5 (oP 20 rfl rfl g5 (oV (zr rfl g5 rfl) (hJ4 _ () h _ (ji 4 24 rfl rfl rfl)))))
 exact oK 20 rfl rfl rfl g5 (zq rfl) (oK 20 rfl rfl rfl g5 (za6 (l := zce) rfl hI sl22) (oK 20 rfl rfl rfl g5 (zbY rfl rfl) (oV (zs rfl g5 rfl) (hJ4 _ () h _ (ji 4 24 rfl rfl rfl)))))

end Go.Proofs.Q

