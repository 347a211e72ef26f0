/- Walks, printed by mill.py. -/
import Derived.Test.YtnnijoepfgnlfaaDoorOgA
import Derived.Test.YtnnijoepfgnlfaaDoorOgB
import Derived.Test.YtnnijoepfgnlfaaDoorOgC
import Derived.Test.YtnnijoepfgnlfaaDoorOgD
import Derived.Test.YtnnijoepfgnlfaaDoorOgE
set_option linter.unusedVariables false
set_option linter.unusedSimpArgs false

namespace Go.Proofs.Q
open Go.Sy
set_option maxRecDepth 4000
theorem zbc : ∀ {a_x : GMk} {a_e : Int} {zG : Nat} {z6 : Vt} {r : GMk}, zaF a_x a_e = some r → Ctr Tryd.prog 100 [ptrv zG (Fld.id (GMod × Vh × Int)), isv (a_e)] [boxE zG ((a_x.m, (Vh.mk z6 a_x.l.length), a_x.e) : (GMod × Vh × Int)), vecE z6 (a_x.l : List GTyp)] (fun R H => R = oneOf [] ∧ H = [boxE zG ((r.m, (Vh.mk z6 r.l.length), r.e)), vecE z6 (r.l)]) := by
 intro a_x a_e zG z6 r h
 unfold zaF at h
 refine zr Tryd.func100 rfl fun w0 S0 hT => wsr (oM rfl (oV (zp rfl) (oV (z7 rfl zb7 zc6) (oT (zI (R := isv (a_x.e)) ty31 rfl .here hI (oV (zal rfl rfl) (rnf (zf h rfl (fun _ h => ?_) (fun _ h => ?_)))))))))
 ·refine zj (oM rfl (oM rfl (oV (zp rfl) (oV (z7 rfl zb7 zc6) (oT (zi (y' := ((a_x.m, (Vh.mk z6 a_x.l.length), a_e) : (GMod × Vh × Int))) ty31 rfl rfl hI .here rfl (zx (zan .nil k2 ?_))))))))
  cases h
  exact ⟨rfl, rfl⟩
 refine zY (zan .nil k2 ?_)
 cases h
 exact ⟨rfl, rfl⟩


theorem zh7 : ∀ {zdK : Int} {r : Tag}, zcE zdK = some r → Ctr Tryd.prog 101 [isv (zdK)] [] (fun R H => R = oneOf [isv (r)] ∧ H = []) := by
 intro zdK r h
 unfold zcE at h
 refine zr Tryd.func101 rfl fun w0 S0 hT => wsr (oT (zab _ ze57 fun b1 => rnf (zn (wsr (oM rfl (rnf (zu ?_)))))))
 refine wsr (oV (zal rfl rfl) (oA rfl (rnf (zf h rfl (fun _ h => ?_) (fun _ h => ?_)))))
 ·refine wsr (oV (zaw (z := (Tag.mk (0 : Int) (1 : Int))) rfl bu57 ze57 (.cons Tag.f1 zeN rfl hI .nil)) (oT (zi (y' := ((Tag.mk (0 : Int) (1 : Int)) : Tag)) ty57 rfl rfl hI .here rfl (rnf (zM (zE (zB ?_)))))))
  cases h
  exact zo (.cell rfl .here ty57 .nil) .nil ⟨rfl, rfl⟩
 refine wsr (oV (zal rfl rfl) (oA rfl (rnf (zf h rfl (fun _ h => ?_) (fun _ h => ?_)))))
 ·refine wsr (oV (zaw (z := (Tag.mk (0 : Int) (2 : Int))) rfl bu57 ze57 (.cons Tag.f1 zeN rfl hI .nil)) (oT (zi (y' := ((Tag.mk (0 : Int) (2 : Int)) : Tag)) ty57 rfl rfl hI .here rfl (rnf (zM (zE (zB ?_)))))))
  cases h
  exact zo (.cell rfl .here ty57 .nil) .nil ⟨rfl, rfl⟩
 refine wsr (oV (zal rfl rfl) (oA rfl (rnf (zf h rfl (fun _ h => ?_) (fun _ h => ?_)))))
 ·refine wsr (oV (zaw (z := (Tag.mk (0 : Int) (4 : Int))) rfl bu57 ze57 (.cons Tag.f1 zeN rfl hI .nil)) (oT (zi (y' := ((Tag.mk (0 : Int) (4 : Int)) : Tag)) ty57 rfl rfl hI .here rfl (rnf (zM (zE (zB ?_)))))))
  cases h
  exact zo (.cell rfl .here ty57 .nil) .nil ⟨rfl, rfl⟩
 refine wsr (oV (zal rfl rfl) (oA rfl (rnf (zf h rfl (fun _ h => ?_) (fun _ h => ?_)))))
 ·refine wsr (oV (zaw (z := (Tag.mk (0 : Int) (5 : Int))) rfl bu57 ze57 (.cons Tag.f1 zeN rfl hI .nil)) (oT (zi (y' := ((Tag.mk (0 : Int) (5 : Int)) : Tag)) ty57 rfl rfl hI .here rfl (rnf (zM (zE (zB ?_)))))))
  cases h
  exact zo (.cell rfl .here ty57 .nil) .nil ⟨rfl, rfl⟩
 refine wsr (oV (zal rfl rfl) (oA rfl (rnf (zf h rfl (fun _ h => ?_) (fun _ h => ?_)))))
 ·refine wsr (oV (zaw (z := (Tag.mk (0 : Int) (10 : Int))) rfl bu57 ze57 (.cons Tag.f1 zeN rfl hI .nil)) (oT (zi (y' := ((Tag.mk (0 : Int) (10 : Int)) : Tag)) ty57 rfl rfl hI .here rfl (rnf (zM (zE (zB ?_)))))))
  cases h
  exact zo (.cell rfl .here ty57 .nil) .nil ⟨rfl, rfl⟩
 refine wsr (oV (zal rfl rfl) (oA rfl (rnf (zf h rfl (fun _ h => ?_) (fun _ h => ?_)))))
 ·refine wsr (oV (zaw (z := (Tag.mk (0 : Int) (12 : Int))) rfl bu57 ze57 (.cons Tag.f1 zeN rfl hI .nil)) (oT (zi (y' := ((Tag.mk (0 : Int) (12 : Int)) : Tag)) ty57 rfl rfl hI .here rfl (rnf (zM (zE (zB ?_)))))))
  cases h
  exact zo (.cell rfl .here ty57 .nil) .nil ⟨rfl, rfl⟩
 refine zn (wsr (oV (zal rfl rfl) (oA rfl (rnf (zc3 (jb 22) je .nil h (fun q2 g2 h => ?_) (fun J3 h hJ3 => ?_))))))
 ·refine zf h rfl (fun _ h => ?_) (fun _ h => ?_)
  ·refine wsr (oV (zaw (z := (Tag.mk (0 : Int) (16 : Int))) rfl bu57 ze57 (.cons Tag.f1 zeN rfl hI .nil)) (oT (zi (y' := ((Tag.mk (0 : Int) (16 : Int)) : Tag)) ty57 rfl rfl hI .here rfl (rnf (zM (zE (zB ?_)))))))
   cases h
   exact zo (.cell rfl .here ty57 .nil) .nil ⟨rfl, rfl⟩
  refine wsr (oV (zal rfl rfl) (oA rfl (rnf (zf h rfl (fun _ h => ?_) (fun _ h => ?_)))))
  ·refine wsr (oV (zaw (z := (Tag.mk (0 : Int) (17 : Int))) rfl bu57 ze57 (.cons Tag.f1 zeN rfl hI .nil)) (oT (zi (y' := ((Tag.mk (0 : Int) (17 : Int)) : Tag)) ty57 rfl rfl hI .here rfl (rnf (zM (zE (zB ?_)))))))
   cases h
   exact zo (.cell rfl .here ty57 .nil) .nil ⟨rfl, rfl⟩
  refine zY (zk (zy (wsr (oV (zaw (z := (Tag.mk (0 : Int) (0 : Int))) rfl bu57 ze57 .nil) (oT (zi (y' := ((Tag.mk (0 : Int) (0 : Int)) : Tag)) ty57 rfl rfl hI .here rfl (rnf (zM ?_))))))))
  cases h
  exact zo (.cell rfl .here ty57 .nil) .nil ⟨rfl, rfl⟩
 refine zf h rfl (fun _ h => ?_) (fun _ h => ?_)
 ·exact zY (hJ3 _ () h _ (jk 0 22 rfl rfl rfl))
 exact zj (oV (zal rfl rfl) (oA rfl (zx (hJ3 _ () h _ (jk 2 22 rfl rfl rfl)))))


theorem zk3 : ∀ {a_c : GCon} {ziF : Bool} {r : Int}, zeu a_c ziF = some r → Ctr Tryd.prog 102 [isv (a_c), isv (ziF)] [] (fun R H => R = oneOf [isv (r)] ∧ H = []) := by
 intro a_c ziF r h
 unfold zeu at h
 refine zr Tryd.func102 rfl fun w0 S0 hT => wsr (oT (zbA (y := a_c) rfl hI (oA rfl (rnf (zn (wsr (oV (zac rfl GCon.f0 zlS rfl (z := a_c.has)) (oV (zg ty4 rfl) ?_))))))))
 refine oV (zbG rfl) (rnf (zf h rfl (fun _ h => ?_) (fun _ h => ?_)))
 ·refine wsr (oA rfl (rnf (zM (zB ?_))))
  cases h
  exact zo (.tmp rfl .nil) .nil ⟨rfl, rfl⟩
 refine wkf (zn (wsr (oV (zac rfl GCon.f1 ziT rfl (z := a_c.hasLow)) (oV (zg ty4 rfl) (oM rfl (zau (jb 13) je .nil h 3 rfl (fun q1 g1 h => ?_) (fun J2 h hJ2 => ?_)))))))
 ·refine oM rfl (zau (jb 20) je .nil h 6 rfl (fun q4 g4 h => ?_) (fun J5 h hJ5 => ?_))
  ·refine rnf (zf h rfl (fun _ h => ?_) (fun _ h => ?_))
   ·refine wsr (oA rfl (rnf (zM (zB ?_))))
    cases h
    exact zo (.tmp rfl .nil) .nil ⟨rfl, rfl⟩
   refine wkf (zn (wsr (oM rfl (oM rfl (zau (jb 50) je .nil h 28 rfl (fun q7 g7 h => ?_) (fun J8 h hJ8 => ?_))))))
   ·refine rnf (zf h rfl (fun _ h => ?_) (fun _ h => ?_))
    ·refine wsr (oA rfl (rnf (zM (zB ?_))))
     cases h
     exact zo (.tmp rfl .nil) .nil ⟨rfl, rfl⟩
    refine wkf (wsr (oA rfl (rnf (zM ?_))))
    cases h
    exact zo (.tmp rfl .nil) .nil ⟨rfl, rfl⟩
   refine zC (j := 22) h rfl (fun g9 h => ?_) (fun g9 h => ?_)
   ·refine oK 22 rfl rfl rfl g9 (zac rfl GCon.f1 ziT rfl (z := a_c.hasLow)) (oK 22 rfl rfl rfl g9 (zg ty4 rfl) (oK 22 rfl rfl rfl g9 (zbG rfl) (oK 22 rfl rfl rfl g9 (zw rfl) (zau (jb 30) je .nil h 4 rfl (fun q10 g10 h => ?_) (fun J11 h hJ11 => ?_)))))
    ·refine oK 22 rfl rfl rfl g9 (zw rfl) (zau (jb 35) je .nil h 4 rfl (fun q13 g13 h => ?_) (fun J14 h hJ14 => ?_))
     ·refine oK 22 rfl rfl rfl g9 (zw rfl) (zau (jb 49) je .nil h 13 rfl (fun q16 g16 h => ?_) (fun J17 h hJ17 => ?_))
      ·exact oV (zs rfl g9 rfl) (hJ8 _ () h _ (ji 10 50 rfl rfl rfl))
      refine zC (j := 36) h rfl (fun g18 h => ?_) (fun g18 h => ?_)
      ·refine oP 36 rfl rfl g18 (oP 36 rfl rfl g18 (oP 36 rfl rfl g18 (zA rfl (dj := 39) rfl (zA rfl (dj := 39) rfl (zA rfl (dj := 39) rfl (zA rfl (dj := 39) rfl (zA rfl (dj := 43) rfl (zA rfl (dj := 43) rfl ?_))))))))
       exact zA rfl (dj := 43) rfl (zA rfl (dj := 39) rfl (oP 36 rfl rfl g18 (oK 22 rfl rfl rfl g9 (zs rfl g18 rfl) (hJ17 _ () h _ (ji 13 49 rfl rfl rfl)))))
      refine oK 36 rfl rfl rfl g18 (zac rfl GCon.f2 ziJ rfl (z := a_c.hasHigh)) (oK 36 rfl rfl rfl g18 (zg ty4 rfl) (oK 36 rfl rfl rfl g18 (zw rfl) (zau (jb 48) je .nil h 9 rfl (fun q19 g19 h => ?_) (fun J20 h hJ20 => ?_))))
      ·exact oK 22 rfl rfl rfl g9 (zt rfl g18 rfl) (hJ17 _ () h _ (ji 5 49 rfl rfl rfl))
      refine zC (j := 39) h rfl (fun g21 h => ?_) (fun g21 h => ?_)
      ·refine oK 39 rfl rfl rfl g21 (zac rfl GCon.f5 zhP rfl (z := a_c.high)) (oK 39 rfl rfl rfl g21 (zg ty2 rfl) (oK 39 rfl rfl rfl g21 (zaj rfl rfl) (oK 39 rfl rfl rfl g21 (zw rfl) (zau (jb 47) je .nil h 4 rfl (fun q22 g22 h => ?_) (fun J23 h hJ23 => ?_)))))
       ·exact oK 36 rfl rfl rfl g18 (zs rfl g21 rfl) (hJ20 _ () h _ (ji 6 48 rfl rfl rfl))
       refine zC (j := 43) h rfl (fun g24 h => ?_) (fun g24 h => ?_)
       ·exact oP 43 rfl rfl g24 (oP 43 rfl rfl g24 (oP 43 rfl rfl g24 (oK 39 rfl rfl rfl g21 (zs rfl g24 rfl) (hJ23 _ () h _ (ji 4 47 rfl rfl rfl)))))
       exact oK 43 rfl rfl rfl g24 (zac rfl GCon.f5 zhP rfl (z := a_c.high)) (oK 43 rfl rfl rfl g24 (zg ty2 rfl) (oK 43 rfl rfl rfl g24 (zbU rfl rfl) (oK 39 rfl rfl rfl g21 (zt rfl g24 rfl) (hJ23 _ () h _ (ji 4 47 rfl rfl rfl)))))
      refine oP 39 rfl rfl g21 (oP 39 rfl rfl g21 (oP 39 rfl rfl g21 (oP 39 rfl rfl g21 (zA rfl (dj := 43) rfl (zA rfl (dj := 43) rfl (zA rfl (dj := 43) rfl (oP 39 rfl rfl g21 (oK 36 rfl rfl rfl g18 (zt rfl g21 rfl) ?_))))))))
      exact hJ20 _ () h _ (ji 9 48 rfl rfl rfl)
     refine zC (j := 31) h rfl (fun g15 h => ?_) (fun g15 h => ?_)
     ·exact oP 31 rfl rfl g15 (oP 31 rfl rfl g15 (oP 31 rfl rfl g15 (oK 22 rfl rfl rfl g9 (zs rfl g15 rfl) (hJ14 _ () h _ (ji 4 35 rfl rfl rfl)))))
     exact oK 31 rfl rfl rfl g15 (zac rfl GCon.f4 zhy rfl (z := a_c.low)) (oK 31 rfl rfl rfl g15 (zg ty2 rfl) (oK 31 rfl rfl rfl g15 (zbU rfl rfl) (oK 22 rfl rfl rfl g9 (zt rfl g15 rfl) (hJ14 _ () h _ (ji 4 35 rfl rfl rfl)))))
    refine zC (j := 26) h rfl (fun g12 h => ?_) (fun g12 h => ?_)
    ·exact oP 26 rfl rfl g12 (oP 26 rfl rfl g12 (oP 26 rfl rfl g12 (oK 22 rfl rfl rfl g9 (zs rfl g12 rfl) (hJ11 _ () h _ (ji 4 30 rfl rfl rfl)))))
    exact oK 26 rfl rfl rfl g12 (zac rfl GCon.f4 zhy rfl (z := a_c.low)) (oK 26 rfl rfl rfl g12 (zg ty2 rfl) (oK 26 rfl rfl rfl g12 (zaj rfl rfl) (oK 22 rfl rfl rfl g9 (zt rfl g12 rfl) (hJ11 _ () h _ (ji 4 30 rfl rfl rfl)))))
   refine oP 22 rfl rfl g9 (oP 22 rfl rfl g9 (oP 22 rfl rfl g9 (oP 22 rfl rfl g9 (zA rfl (dj := 26) rfl (zA rfl (dj := 26) rfl (zA rfl (dj := 26) rfl (oP 22 rfl rfl g9 (oP 22 rfl rfl g9 ?_))))))))
   refine zA rfl (dj := 31) rfl (zA rfl (dj := 31) rfl (zA rfl (dj := 31) rfl (oP 22 rfl rfl g9 (oP 22 rfl rfl g9 (zA rfl (dj := 36) rfl (zA rfl (dj := 36) rfl (zA rfl (dj := 36) rfl (zA rfl (dj := 39) rfl ?_))))))))
   refine zA rfl (dj := 39) rfl (zA rfl (dj := 39) rfl (zA rfl (dj := 39) rfl (zA rfl (dj := 43) rfl (zA rfl (dj := 43) rfl (zA rfl (dj := 43) rfl (zA rfl (dj := 39) rfl (zA rfl (dj := 36) rfl (oP 22 rfl rfl g9 ?_))))))))
   exact oV (zt rfl g9 rfl) (hJ8 _ () h _ (ji 28 50 rfl rfl rfl))
  refine zC (j := 14) h rfl (fun g6 h => ?_) (fun g6 h => ?_)
  ·exact oK 14 rfl rfl rfl g6 (zac rfl GCon.f4 zhy rfl (z := a_c.low)) (oK 14 rfl rfl rfl g6 (zg ty2 rfl) (oK 14 rfl rfl rfl g6 (zac rfl GCon.f5 zhP rfl (z := a_c.high)) (oK 14 rfl rfl rfl g6 (zg ty2 rfl) (oK 14 rfl rfl rfl g6 (zbU rfl rfl) (oV (zs rfl g6 rfl) (hJ5 _ () h _ (ji 6 20 rfl rfl rfl)))))))
  exact oP 14 rfl rfl g6 (oP 14 rfl rfl g6 (oP 14 rfl rfl g6 (oP 14 rfl rfl g6 (oP 14 rfl rfl g6 (oV (zt rfl g6 rfl) (hJ5 _ () h _ (ji 6 20 rfl rfl rfl)))))))
 refine zC (j := 10) h rfl (fun g3 h => ?_) (fun g3 h => ?_)
 ·exact oK 10 rfl rfl rfl g3 (zac rfl GCon.f2 ziJ rfl (z := a_c.hasHigh)) (oK 10 rfl rfl rfl g3 (zg ty4 rfl) (oV (zs rfl g3 rfl) (hJ2 _ () h _ (ji 3 13 rfl rfl rfl))))
 exact oP 10 rfl rfl g3 (oP 10 rfl rfl g3 (oV (zt rfl g3 rfl) (hJ2 _ () h _ (ji 3 13 rfl rfl rfl))))


theorem zk9 : ∀ {a_l : (List GItem)} {a_v : Int} {r : Bool}, zfu a_l a_v = some r → Ctr Tryd.prog 112 [isv (a_l), isv (a_v)] [] (fun R H => R = oneOf [isv (r)] ∧ H = []) := by
 intro a_l a_v r h
 unfold zfu at h
 refine zr Tryd.func112 rfl fun w0 S0 hT => wsr (oA rfl (rnf (zn (wsr (oA rfl (rnf (zu ?_)))))))
 refine za5 (ι := Int) (γ := Unit) (fun q1 g1 => [(5, isv (q1))]) (fun q1 g1 => []) h () (za (j := 5) rfl hI zd) .nil (fun L2 q1 g1 Q15 h hL2 eL2 rL2 => zn (wsr (oM rfl (oM rfl (oV (za2 (l := a_l) rfl hI sl51) (oV (zaj rfl rfl) (rnf (zf h rfl (fun _ h => ?_) (fun _ h => ?_)))))))))
 ·refine wkf (zn (zu (wsr (oM rfl (oM rfl (zb h fun y9 hy9 h => oV (zaG (l := a_l) rfl hI rfl sl51 hy9) (oV (zac rfl GItem.f2 zhN rfl (z := y9.has)) ?_)))))))
  refine oV (zg ty4 rfl) (oM rfl (zau (jb 25) je .nil h 8 rfl (fun q10 g10 h => ?_) (fun J11 h hJ11 => ?_)))
  ·refine rnf (zf h rfl (fun _ h => ?_) (fun _ h => ?_))
   ·refine wsr (oA rfl (rnf (zM (zE (zB (rL2 _ (zE (zB ?_))))))))
    cases h
    exact zo (.tmp rfl .nil) .nil ⟨rfl, rfl⟩
   refine zY (zk (zy (zj (oM rfl (zD h fun q14 h => oV (zaf rfl rfl q14) (oA rfl (zx ?_)))))))
   exact hL2 _ () h _ (ji 15 5 rfl rfl rfl)
  refine zC (j := 17) h rfl (fun g12 h => ?_) (fun g12 h => ?_)
  ·refine oK 17 rfl rfl rfl g12 (zw rfl) (oK 17 rfl rfl rfl g12 (zw rfl) (zb h fun y13 hy13 h => oK 17 rfl rfl rfl g12 (zaG (l := a_l) rfl hI rfl sl51 hy13) (oK 17 rfl rfl rfl g12 (zac rfl GItem.f1 zdL rfl (z := y13.number)) (oK 17 rfl rfl rfl g12 (zg ty2 rfl) (oK 17 rfl rfl rfl g12 (zw rfl) (oK 17 rfl rfl rfl g12 (zal rfl rfl) (oV (zs rfl g12 rfl) ?_)))))))
   exact hJ11 _ () h _ (ji 8 25 rfl rfl rfl)
  exact oP 17 rfl rfl g12 (oP 17 rfl rfl g12 (oP 17 rfl rfl g12 (oP 17 rfl rfl g12 (oP 17 rfl rfl g12 (oP 17 rfl rfl g12 (oP 17 rfl rfl g12 (oV (zt rfl g12 rfl) (hJ11 _ () h _ (ji 8 25 rfl rfl rfl)))))))))
 refine zad (zU (eL2 _ _ (zH (zy (wsr (oA rfl (rnf (zM ?_))))))))
 cases h
 exact zo (.tmp rfl .nil) .nil ⟨rfl, rfl⟩


theorem ze1 : ∀ {a_x : GMk} {a_n_ : GNode} {zG : Nat} {z6 : Vt} {r : (List GItem) × GMk}, zb6 a_x a_n_ = some r → Ctr Tryd.prog 103 [ptrv zG (Fld.id (GMod × Vh × Int)), isv (a_n_)] [boxE zG ((a_x.m, (Vh.mk z6 a_x.l.length), a_x.e) : (GMod × Vh × Int)), vecE z6 (a_x.l : List GTyp)] (fun R H => R = oneOf [isv (r.1)] ∧ H = [boxE zG ((r.2.m, (Vh.mk z6 r.2.l.length), r.2.e)), vecE z6 (r.2.l)]) := by
 intro a_x a_n_ zG z6 r h
 unfold zb6 at h
 refine zr Tryd.func103 rfl fun w0 S0 hT => wsr (oT (zbA (y := a_n_) rfl hI (oA rfl (rnf (wsr (oA rfl (rnf (wsr ?_))))))))
 refine oA rfl (rnf (zn (wsr (oA rfl (rnf (zu (zfj (zaQ) (za5 (ι := (List GItem) × Int × Int) (γ := Tok) (fun q2 g2 => [(5, appv g2 (q2.1)), (6, isv (q2.2.1)), (7, isv (q2.2.2))]) (fun q2 g2 => [tokE g2]) h (none) (za (j := 5) rfl zbs (za (j := 6) rfl hI (za (j := 7) rfl hI zd))) k1 (fun L3 q2 g2 Q666 h hL3 eL3 rL3 => ?_)))))))))
 refine zn (wsr (oM rfl (oV (zac rfl GNode.f6 zeZ rfl (z := a_n_.root)) (oV (zg ty3 rfl) (oV (zaj rfl rfl) (rnf (zf h rfl (fun _ h => ?_) (fun _ h => ?_))))))))
 ·refine wkf (zn (zu (wsr (oV (zac rfl GNode.f4 zd1 rfl (z := a_n_.items)) (oV (zg ty51 rfl) (oM rfl (zb h fun y335 hy335 h => oV (zaG (l := a_n_.items) rfl hI rfl sl51 hy335) ?_)))))))
  refine oV (zg ty67 rfl) (oT (zab _ ze67 fun b336 => oT (zi (y' := (y335 : GItem)) ty67 rfl rfl hI .here rfl (rnf (zn (wsr (oV (z7 rfl GItem.f2 zhN) (oT (zI (R := isv (y335.has)) ty4 rfl .here hI (oV (zbG rfl) ?_))))))))))
  refine rnf (zc3 (ι := Int × GItem) (γ := Unit) (fun q337 g337 => [(6, isv (q337.1))]) (fun q337 g337 => [boxE b336 (q337.2 : GItem)]) k1 h (fun q337 g337 h => ?_) (fun J338 h hJ338 => ?_))
  ·refine wsr (oV (z7 rfl GItem.f2 zhN) (oT (zi (y' := ({ q337.2 with has := false } : GItem)) ty4 rfl rfl hI .here rfl (rnf (zj (oM rfl (oT (zI (R := isv ({ q337.2 with has := false })) ty67 rfl .here hI (oT (zQ (l := ([{ q337.2 with has := false }] : (List GItem))) el51 (.cons rfl hI .nil) rfl rfl (zZ h fun q352 h => ?_)))))))))))
   refine oT (zbk (l := q2.1) (m := ([{ q337.2 with has := false }] : (List GItem))) zib rfl hI rfl zK tH q352 fun t351 => oA rfl (zx (zk (zy (zj (oM rfl (zD h fun q353 h => oV (zaf rfl rfl q353) ?_)))))))
   exact oA rfl (zx (hL3 _ (t351) h _ (ze 26 rfl rfl (za (j := 5) rfl hI (za (j := 6) rfl hI (za (j := 7) rfl hI zd))) (.cons .here (.cons tH (.cons tH .nil))))))
  refine zf h rfl (fun _ h => ?_) (fun _ h => ?_)
  ·refine zn (zu (za5 (ι := Int) (γ := Unit) (fun q339 g339 => [(6, isv (q339))]) (fun q339 g339 => []) h () (za (j := 6) rfl hI zd) .nil (fun L340 q339 g339 Q349 h hL340 eL340 rL340 => zn (wsr (oV (zac rfl GNode.f4 zd1 rfl (z := a_n_.items)) (oV (zg ty51 rfl) (oV (zac rfl GNode.f6 zeZ rfl (z := a_n_.root)) (oV (zg ty3 rfl) ?_))))))))
   refine zT h fun q345 h => oV (zfX (l := a_n_.items) rfl hI sl51 (.inl ⟨rfl, rfl⟩) (.inr ⟨_, rfl, rfl⟩) q345.1 q345.2.1 q345.2.2) (oM rfl (zb h fun y346 hy346 h => oT (zz (zk9 hy346) hT (s2 rfl rfl) .nil (rnf (zf h rfl (fun _ h => ?_) (fun _ h => ?_))))))
   ·refine wkf (zu (zj (oM rfl (zD h fun q347 h => oV (zaf rfl rfl q347) (oA rfl (zx (zk ?_)))))))
    exact hL340 _ () h _ (ze 11 rfl rfl (za (j := 6) rfl hI zd) k4)
   refine zad (zU (eL340 _ _ (zH (zy (wsr (oM rfl (oV (z7 rfl GItem.f1 zdL) (oT (zi (y' := ({ y335 with number := q339 } : GItem)) ty2 rfl rfl hI .here rfl ?_)))))))))
   exact rnf (zj (oM rfl (zD h fun q348 h => oV (zaf rfl rfl q348) (oA rfl (zx (hJ338 _ () h _ (ze 13 rfl rfl (za (j := 6) rfl hI zd) k4)))))))
  exact zY (hJ338 _ () h _ (ze 0 rfl rfl (za (j := 6) rfl hI zd) k4))
 refine zad (zU (eL3 _ _ (zH (zy (wsr (oA rfl (rnf (wsr ?_))))))))
 refine oA rfl (oA rfl (rnf (zn (wsr (oV (zac rfl GNode.f6 zeZ rfl (z := a_n_.root)) (oV (zg ty3 rfl) (oA rfl (rnf ?_))))))))
 refine zu (za5 (ι := (List GItem) × Int × Bool × Bool × Int) (γ := Tok) (fun q354 g354 => [(5, appv g354 (q354.1)), (9, isv (q354.2.1)), (10, isv (q354.2.2.1)), (11, isv (q354.2.2.2.1)), (12, isv (q354.2.2.2.2))]) (fun q354 g354 => [tokE g354]) h (g2) (za (j := 5) rfl hI (za (j := 9) rfl hI (za (j := 10) rfl hI (za (j := 11) rfl hI (za (j := 12) rfl hI zd))))) k1 (fun L355 q354 g354 Q664 h hL355 eL355 rL355 => zn (wsr (oM rfl (oV (zac rfl GNode.f4 zd1 rfl (z := a_n_.items)) (oV (zg ty51 rfl) (oV (za2 (l := a_n_.items) rfl hI sl51) (oV (zaj rfl rfl) ?_))))))))
 refine rnf (zf h rfl (fun _ h => ?_) (fun _ h => ?_))
 ·refine wkf (zn (zu (wsr (oV (zac rfl GNode.f4 zd1 rfl (z := a_n_.items)) (oV (zg ty51 rfl) (oM rfl (zb h fun y558 hy558 h => oV (zaG (l := a_n_.items) rfl hI rfl sl51 hy558) ?_)))))))
  refine oV (zg ty67 rfl) (oT (zab _ ze67 fun b559 => oT (zi (y' := (y558 : GItem)) ty67 rfl rfl hI .here rfl (rnf (zn (wsr (oV (z7 rfl GItem.f2 zhN) (oT (zI (R := isv (y558.has)) ty4 rfl .here hI (oV (zbG rfl) ?_))))))))))
  refine rnf (zc3 (ι := GItem) (γ := Unit) (fun q560 g560 => [(13, ptrv b559 (Fld.id GItem))]) (fun q560 g560 => [boxE b559 (q560 : GItem)]) k1 h (fun q560 g560 h => ?_) (fun J561 h hJ561 => ?_))
  ·refine wsr (oM rfl (oM rfl (zau (jb 109) je .nil h 8 rfl (fun q591 g591 h => ?_) (fun J592 h hJ592 => ?_))))
   ·refine oA rfl (rnf (wsr (oV (z7 rfl GItem.f2 zhN) (oT (zi (y' := ({ q560 with has := false } : GItem)) ty4 rfl rfl hI .here rfl (rnf (wsr (oV (z7 rfl GItem.f1 zdL) (oT (zI (R := isv (q560.number)) ty2 rfl .here hI ?_))))))))))
    refine oA rfl (oA rfl (rnf (zj (oM rfl (oT (zI (R := isv ({ q560 with has := false })) ty67 rfl .here hI (oT (zQ (l := ([{ q560 with has := false }] : (List GItem))) el51 (.cons rfl hI .nil) rfl rfl (zZ h fun q599 h => oT (zbk (l := q354.1) (m := ([{ q560 with has := false }] : (List GItem))) zib rfl hI rfl zK tH q599 fun t598 => ?_))))))))))
    refine oA rfl (zx (zk (zy (zj (oM rfl (zD h fun q600 h => oV (zaf rfl rfl q600) (oA rfl ?_)))))))
    exact zx (hL355 _ (t598) h _ (ze 37 rfl rfl (za (j := 5) rfl hI (za (j := 9) rfl hI (za (j := 10) rfl hI (za (j := 11) rfl hI (za (j := 12) rfl hI zd))))) (.cons .here (.cons tH (.cons tH .nil)))))
   refine zC (j := 101) h rfl (fun g593 h => ?_) (fun g593 h => ?_)
   ·exact oP 101 rfl rfl g593 (oP 101 rfl rfl g593 (zA rfl (dj := 103) rfl (zA rfl (dj := 103) rfl (zA rfl (dj := 103) rfl (zA rfl (dj := 103) rfl (oP 101 rfl rfl g593 (oV (zs rfl g593 rfl) (hJ592 _ () h _ (ze 8 rfl rfl (za (j := 109) rfl hI zd) k4)))))))))
   refine oK 101 rfl rfl rfl g593 (zw rfl) (oK 101 rfl rfl rfl g593 (zw rfl) (zau (jb 108) je .nil h 5 rfl (fun q594 g594 h => ?_) (fun J595 h hJ595 => ?_)))
   ·exact oV (zt rfl g593 rfl) (hJ592 _ () h _ (ze 4 rfl rfl (za (j := 109) rfl hI zd) k4))
   refine zC (j := 103) h rfl (fun g596 h => ?_) (fun g596 h => ?_)
   ·exact oK 103 rfl rfl rfl g596 (z7 rfl GItem.f1 zdL) (zat rfl rfl (dj := 103) rfl g596 (zI (R := isv (q560.number)) ty2 rfl .here hI (oK 103 rfl rfl rfl g596 (zw rfl) (oK 103 rfl rfl rfl g596 (zlp rfl rfl) (oK 101 rfl rfl rfl g593 (zs rfl g596 rfl) (hJ595 _ () h _ (ze 5 rfl rfl (za (j := 108) rfl hI zd) k4)))))))
   exact oP 103 rfl rfl g596 (oP 103 rfl rfl g596 (oP 103 rfl rfl g596 (oP 103 rfl rfl g596 (oK 101 rfl rfl rfl g593 (zt rfl g596 rfl) (hJ595 _ () h _ (ze 5 rfl rfl (za (j := 108) rfl hI zd) k4))))))
  refine zf h rfl (fun _ h => ?_) (fun _ h => ?_)
  ·refine wsr (oV (z7 rfl GItem.f1 zdL) (oT (zi (y' := ({ y558 with number := (0 : Int) } : GItem)) ty2 rfl rfl hI .here rfl (rnf (wsr (oA rfl (rnf (zu (za5 (ι := Int × GItem) (γ := Unit) (fun q562 g562 => [(13, ptrv b559 (Fld.id GItem)), (14, isv (q562.1))]) (fun q562 g562 => [boxE b559 (q562.2 : GItem)]) h () (za (j := 13) rfl hI (za (j := 14) rfl hI zd)) k1 (fun L563 q562 g562 Q590 h hL563 eL563 rL563 => ?_))))))))))
   refine zn (wsr (oM rfl (oM rfl (oV (za2 (l := q354.1) rfl zK sl51) (oV (zaj rfl rfl) (rnf (zf h rfl (fun _ h => ?_) (fun _ h => ?_))))))))
   ·refine wkf (zn (zc3 (ι := GItem) (γ := Unit) (fun q577 g577 => [(13, ptrv b559 (Fld.id GItem))]) (fun q577 g577 => [boxE b559 (q577 : GItem)]) k1 h (fun q577 g577 h => ?_) (fun J578 h hJ578 => ?_)))
    ·exact zj (oM rfl (zD h fun q589 h => oV (zaf rfl rfl q589) (oA rfl (zx (hL563 _ () h _ (ze 10 rfl rfl (za (j := 13) rfl hI (za (j := 14) rfl hI zd)) k4))))))
    refine zu (zn (wsr (oM rfl (oM rfl (zb h fun y579 hy579 h => oV (zaG (l := q354.1) rfl zK rfl sl51 hy579) (oV (zac rfl GItem.f1 zdL rfl (z := y579.number)) (oV (zg ty2 rfl) ?_)))))))
    refine oV (zal rfl rfl) (rnf (zf h rfl (fun _ h => ?_) (fun _ h => ?_)))
    ·refine wsr (oM rfl (zb h fun y580 hy580 h => oT (zz (zbc hy580) hT (s2 rfl rfl) (.cons tI (.cons tI .nil)) (rnf (wsr (oA rfl (rnf (zM ?_))))))))
     refine zB (zE (zB (rL563 _ (zE (zB (zE (zB (rL355 _ ?_))))))))
     refine zE (zB ?_)
     cases h
     exact zo (.as rfl (zdt (α := GItem)) .nil) k2 ⟨rfl, rfl⟩
    refine wkf (zn (zcG 13 .here rfl (fun o581 hn582 => zW (.v 0 (.v 1 (.v 2 (.v 3 (.v 4 (.v 5 (.v 6 (.v 7 (.v 8 (.v 9 (.v 10 (.v 11 .nil)))))))))))) moOrd (by kernel_rfl) ?_)))
    refine rvm rfl rfl (zq rfl (zal rfl rfl) (rvm rfl rfl (zeg (jb 92) je .nil h 9 rfl (fun q583 g583 h => ?_) (fun J584 h hJ584 => ?_))))
    ·refine zae (zaN 13 hn582 rfl (zy (zf h rfl (fun _ h => ?_) (fun _ h => ?_))))
     ·refine zj (oM rfl (oM rfl (zb h fun y587 hy587 h => oV (zaG (l := q354.1) rfl zK rfl sl51 hy587) (oV (zac rfl GItem.f1 zdL rfl (z := y587.number)) (oV (zg ty2 rfl) (zD h fun q588 h => oV (zaf rfl rfl q588) ?_))))))
      exact oV (z7 rfl GItem.f1 zdL) (oT (zi (y' := ({ q562.2 with number := (y587.number + (1 : Int)) } : GItem)) ty2 rfl rfl hI .here rfl (zx (zk (hJ578 _ () h _ (ze 19 rfl rfl (za (j := 13) rfl hI zd) k4))))))
     exact zY (zk (hJ578 _ () h _ (ze 12 rfl rfl (za (j := 13) rfl hI zd) k4)))
    refine zaT (j := 83) h rfl (fun g585 h => ?_) (fun g585 h => ?_)
    ·refine rpv 83 rfl rfl rfl g585 (rpv 83 rfl rfl rfl g585 (rpv 83 rfl rfl rfl g585 (rpv 83 rfl rfl rfl g585 (rpv 83 rfl rfl rfl g585 (rpv 83 rfl rfl rfl g585 (rpv 83 rfl rfl rfl g585 (rpv 83 rfl rfl rfl g585 (zq rfl (zs rfl g585 rfl) ?_))))))))
     exact hJ584 _ () h _ (ze 9 rfl rfl (za (j := 92) rfl hI zd) k3)
    refine rvt 83 rfl rfl rfl g585 (zw rfl) (rvt 83 rfl rfl rfl g585 (zw rfl) (zb h fun y586 hy586 h => rvt 83 rfl rfl rfl g585 (zaG (l := q354.1) rfl zK rfl sl51 hy586) (rvt 83 rfl rfl rfl g585 (zac rfl GItem.f1 zdL rfl (z := y586.number)) (rvt 83 rfl rfl rfl g585 (zg ty2 rfl) (rvt 83 rfl rfl rfl g585 (zft rfl GItem.f1 zdL) (rvt 83 rfl rfl rfl g585 (zcL (R := isv (q562.2.number)) ty2 rfl (List.Mem.head _) hI) (rvt 83 rfl rfl rfl g585 (ze4 rfl rfl) ?_)))))))
    exact zq rfl (zt rfl g585 rfl) (hJ584 _ () h _ (ze 9 rfl rfl (za (j := 92) rfl hI zd) k3))
   exact zad (zU (eL563 _ _ (zH (hJ561 _ () h _ (ze 8 rfl rfl (za (j := 13) rfl hI zd) k4)))))
  exact zY (hJ561 _ () h _ (ze 0 rfl rfl (za (j := 13) rfl hI zd) k4))
 refine zad (zU (eL355 _ _ (zH (zy (zn (wsr (oA rfl (rnf ?_))))))))
 refine zu (za5 (ι := Bool × Int) (γ := Unit) (fun q601 g601 => [(11, isv (q601.1)), (15, isv (q601.2))]) (fun q601 g601 => []) h () (za (j := 11) rfl hI (za (j := 15) rfl hI zd)) .nil (fun L602 q601 g601 Q663 h hL602 eL602 rL602 => zn (wsr (oM rfl (oM rfl (oV (za2 (l := q354.1) rfl zK sl51) (oV (zaj rfl rfl) (rnf ?_))))))))
 refine zf h rfl (fun _ h => ?_) (fun _ h => ?_)
 ·refine wkf (zn (zu (wsr (oA rfl (rnf (zu (za5 (ι := Bool × Int) (γ := Unit) (fun q633 g633 => [(11, isv (q633.1)), (16, isv (q633.2))]) (fun q633 g633 => []) h () (za (j := 11) rfl hI (za (j := 16) rfl hI zd)) .nil (fun L634 q633 g633 Q659 h hL634 eL634 rL634 => zn ?_))))))))
  refine wsr (oM rfl (oM rfl (oV (zaj rfl rfl) (rnf (zf h rfl (fun _ h => ?_) (fun _ h => ?_))))))
  ·refine wkf (zn (zu (zW (.v 0 (.v 1 (.v 2 (.v 3 (.v 4 (.v 5 (.v 6 (.v 7 (.v 8 (.v 9 (.v 10 (.v 11 (.v 12 (.v 13 (.v 14 (.v 15 (.v 16 (.v 17 (.v 18 (.v 19 (.v 20 (.v 21 (.v 22 (.v 23 (.v 24 (.v 25 (.v 26 (.v 27 .nil)))))))))))))))))))))))))))) moOrd (by kernel_rfl) ?_)))
   refine rvm rfl rfl (rvm rfl rfl (zeg (jb 141) je .nil h 12 rfl (fun q647 g647 h => ?_) (fun J648 h hJ648 => ?_)))
   ·refine rvm rfl rfl (zeg (jb 154) je .nil h 12 rfl (fun q652 g652 h => ?_) (fun J653 h hJ653 => ?_))
    ·refine zq rfl (za1 rfl) (zae (zk (zy (zj (oM rfl (zD h fun q657 h => oV (zaf rfl rfl q657) (oA rfl ?_)))))))
     exact zx (hL634 _ () h _ (ze 14 rfl rfl (za (j := 11) rfl hI (za (j := 16) rfl hI zd)) k3))
    refine zaT (j := 142) h rfl (fun g654 h => ?_) (fun g654 h => ?_)
    ·refine rpv 142 rfl rfl rfl g654 (rpv 142 rfl rfl rfl g654 (rpv 142 rfl rfl rfl g654 (rpv 142 rfl rfl rfl g654 (rpv 142 rfl rfl rfl g654 (rpv 142 rfl rfl rfl g654 (rpv 142 rfl rfl rfl g654 (rpv 142 rfl rfl rfl g654 (rpv 142 rfl rfl rfl g654 ?_))))))))
     exact rpv 142 rfl rfl rfl g654 (rpv 142 rfl rfl rfl g654 (zq rfl (zs rfl g654 rfl) (hJ653 _ () h _ (ze 12 rfl rfl (za (j := 154) rfl hI zd) k3))))
    refine rvt 142 rfl rfl rfl g654 (zw rfl) (rvt 142 rfl rfl rfl g654 (zw rfl) (zb h fun y655 hy655 h => rvt 142 rfl rfl rfl g654 (zaG (l := q354.1) rfl zK rfl sl51 hy655) (rvt 142 rfl rfl rfl g654 (zac rfl GItem.f1 zdL rfl (z := y655.number)) (rvt 142 rfl rfl rfl g654 (zg ty2 rfl) (rvt 142 rfl rfl rfl g654 (zw rfl) (rvt 142 rfl rfl rfl g654 (zw rfl) (zb h fun y656 hy656 h => ?_)))))))
    exact rvt 142 rfl rfl rfl g654 (zaG (l := q354.1) rfl zK rfl sl51 hy656) (rvt 142 rfl rfl rfl g654 (zac rfl GItem.f1 zdL rfl (z := y656.number)) (rvt 142 rfl rfl rfl g654 (zg ty2 rfl) (rvt 142 rfl rfl rfl g654 (zal rfl rfl) (zq rfl (zt rfl g654 rfl) (hJ653 _ () h _ (ze 12 rfl rfl (za (j := 154) rfl hI zd) k3))))))
   refine zaT (j := 129) h rfl (fun g649 h => ?_) (fun g649 h => ?_)
   ·refine rpv 129 rfl rfl rfl g649 (rpv 129 rfl rfl rfl g649 (rpv 129 rfl rfl rfl g649 (rpv 129 rfl rfl rfl g649 (rpv 129 rfl rfl rfl g649 (rpv 129 rfl rfl rfl g649 (rpv 129 rfl rfl rfl g649 (rpv 129 rfl rfl rfl g649 (rpv 129 rfl rfl rfl g649 ?_))))))))
    exact rpv 129 rfl rfl rfl g649 (rpv 129 rfl rfl rfl g649 (zq rfl (zs rfl g649 rfl) (hJ648 _ () h _ (ze 12 rfl rfl (za (j := 141) rfl hI zd) k3))))
   refine rvt 129 rfl rfl rfl g649 (zw rfl) (rvt 129 rfl rfl rfl g649 (zw rfl) (zb h fun y650 hy650 h => rvt 129 rfl rfl rfl g649 (zaG (l := q354.1) rfl zK rfl sl51 hy650) (rvt 129 rfl rfl rfl g649 (zac rfl GItem.f0 zj5 rfl (z := y650.name)) (rvt 129 rfl rfl rfl g649 (zg ty9 rfl) (rvt 129 rfl rfl rfl g649 (zw rfl) (rvt 129 rfl rfl rfl g649 (zw rfl) (zb h fun y651 hy651 h => ?_)))))))
   exact rvt 129 rfl rfl rfl g649 (zaG (l := q354.1) rfl zK rfl sl51 hy651) (rvt 129 rfl rfl rfl g649 (zac rfl GItem.f0 zj5 rfl (z := y651.name)) (rvt 129 rfl rfl rfl g649 (zg ty9 rfl) (rvt 129 rfl rfl rfl g649 (zco eq9 rfl rfl) (zq rfl (zt rfl g649 rfl) (hJ648 _ () h _ (ze 12 rfl rfl (za (j := 141) rfl hI zd) k3))))))
  refine zad (zU (eL634 _ _ (zH (zk (zy (zj (oM rfl (zD h fun q658 h => ?_))))))))
  exact oV (zaf rfl rfl q658) (oA rfl (zx (hL602 _ () h _ (ze 15 rfl rfl (za (j := 11) rfl hI (za (j := 15) rfl hI zd)) k3))))
 refine zad (zU (eL602 _ _ (zH (zy (zn (wsr (oM rfl (rnf ?_))))))))
 refine zc3 (ι := GMk) (γ := Unit) (fun q660 g660 => []) (fun q660 g660 => [boxE zG ((q660.m, (Vh.mk z6 q660.l.length), q660.e) : (GMod × Vh × Int)), vecE z6 (q660.l : List GTyp)]) (.cons tH (.cons tH .nil)) h (fun q660 g660 h => ?_) (fun J661 h hJ661 => ?_)
 ·refine wsr (oM rfl (oA rfl (rnf (zM ?_))))
  cases h
  exact zo (.as rfl zK .nil) k2 ⟨rfl, rfl⟩
 refine zf h rfl (fun _ h => ?_) (fun _ h => ?_)
 ·exact zj (oM rfl (zb h fun y662 hy662 h => oT (zz (zbc hy662) hT (s2 rfl rfl) (.cons tH (.cons tH .nil)) (zx (hJ661 _ () h _ (ze 2 rfl rfl zd k3))))))
 exact zY (hJ661 _ () h _ (ze 0 rfl rfl zd (.cons tH (.cons tH k1))))


theorem zg9 : ∀ {a_c : GCon} {a_v : Int} {r : Bool}, zdT a_c a_v = some r → Ctr Tryd.prog 117 [isv (a_c), isv (a_v)] [] (fun R H => R = oneOf [isv (r)] ∧ H = []) := by
 intro a_c a_v r h
 unfold zdT at h
 refine zr Tryd.func117 rfl fun w0 S0 hT => wsr (oT (zbA (y := a_c) rfl hI (oA rfl (rnf (wsr (oV (zac rfl GCon.f0 zlS rfl (z := a_c.has)) (oV (zg ty4 rfl) (oV (zbG rfl) ?_))))))))
 refine oM rfl (zau (jb 29) je .nil h 21 rfl (fun q1 g1 h => ?_) (fun J2 h hJ2 => ?_))
 ·refine oA rfl (rnf (zM ?_))
  cases h
  exact zo (.tmp rfl .nil) .nil ⟨rfl, rfl⟩
 refine zC (j := 8) h rfl (fun g3 h => ?_) (fun g3 h => ?_)
 ·refine oP 8 rfl rfl g3 (oP 8 rfl rfl g3 (oP 8 rfl rfl g3 (oP 8 rfl rfl g3 (zA rfl (dj := 12) rfl (zA rfl (dj := 12) rfl (zA rfl (dj := 12) rfl (zA rfl (dj := 12) rfl (oP 8 rfl rfl g3 ?_))))))))
  refine oP 8 rfl rfl g3 (zA rfl (dj := 18) rfl (zA rfl (dj := 18) rfl (zA rfl (dj := 18) rfl (zA rfl (dj := 18) rfl (zA rfl (dj := 22) rfl (zA rfl (dj := 22) rfl (zA rfl (dj := 22) rfl (zA rfl (dj := 22) rfl ?_))))))))
  exact zA rfl (dj := 18) rfl (oP 8 rfl rfl g3 (oV (zs rfl g3 rfl) (hJ2 _ () h _ (ji 21 29 rfl rfl rfl))))
 refine oK 8 rfl rfl rfl g3 (zac rfl GCon.f1 ziT rfl (z := a_c.hasLow)) (oK 8 rfl rfl rfl g3 (zg ty4 rfl) (oK 8 rfl rfl rfl g3 (zbG rfl) (oK 8 rfl rfl rfl g3 (zw rfl) (zau (jb 17) je .nil h 5 rfl (fun q4 g4 h => ?_) (fun J5 h hJ5 => ?_)))))
 ·refine oK 8 rfl rfl rfl g3 (zw rfl) (zau (jb 28) je .nil h 10 rfl (fun q7 g7 h => ?_) (fun J8 h hJ8 => ?_))
  ·exact oV (zt rfl g3 rfl) (hJ2 _ () h _ (ji 8 29 rfl rfl rfl))
  refine zC (j := 18) h rfl (fun g9 h => ?_) (fun g9 h => ?_)
  ·refine oK 18 rfl rfl rfl g9 (zac rfl GCon.f2 ziJ rfl (z := a_c.hasHigh)) (oK 18 rfl rfl rfl g9 (zg ty4 rfl) (oK 18 rfl rfl rfl g9 (zbG rfl) (oK 18 rfl rfl rfl g9 (zw rfl) (zau (jb 27) je .nil h 5 rfl (fun q10 g10 h => ?_) (fun J11 h hJ11 => ?_)))))
   ·exact oK 8 rfl rfl rfl g3 (zs rfl g9 rfl) (hJ8 _ () h _ (ji 6 28 rfl rfl rfl))
   refine zC (j := 22) h rfl (fun g12 h => ?_) (fun g12 h => ?_)
   ·exact oP 22 rfl rfl g12 (oP 22 rfl rfl g12 (oP 22 rfl rfl g12 (oP 22 rfl rfl g12 (oK 18 rfl rfl rfl g9 (zs rfl g12 rfl) (hJ11 _ () h _ (ji 5 27 rfl rfl rfl))))))
   exact oK 22 rfl rfl rfl g12 (zw rfl) (oK 22 rfl rfl rfl g12 (zac rfl GCon.f5 zhP rfl (z := a_c.high)) (oK 22 rfl rfl rfl g12 (zg ty2 rfl) (oK 22 rfl rfl rfl g12 (zlp rfl rfl) (oK 18 rfl rfl rfl g9 (zt rfl g12 rfl) (hJ11 _ () h _ (ji 5 27 rfl rfl rfl))))))
  refine oP 18 rfl rfl g9 (oP 18 rfl rfl g9 (oP 18 rfl rfl g9 (oP 18 rfl rfl g9 (zA rfl (dj := 22) rfl (zA rfl (dj := 22) rfl (zA rfl (dj := 22) rfl (zA rfl (dj := 22) rfl (oP 18 rfl rfl g9 ?_))))))))
  exact oK 8 rfl rfl rfl g3 (zt rfl g9 rfl) (hJ8 _ () h _ (ji 10 28 rfl rfl rfl))
 refine zC (j := 12) h rfl (fun g6 h => ?_) (fun g6 h => ?_)
 ·exact oP 12 rfl rfl g6 (oP 12 rfl rfl g6 (oP 12 rfl rfl g6 (oP 12 rfl rfl g6 (oK 8 rfl rfl rfl g3 (zs rfl g6 rfl) (hJ5 _ () h _ (ji 5 17 rfl rfl rfl))))))
 exact oK 12 rfl rfl rfl g6 (zw rfl) (oK 12 rfl rfl rfl g6 (zac rfl GCon.f4 zhy rfl (z := a_c.low)) (oK 12 rfl rfl rfl g6 (zg ty2 rfl) (oK 12 rfl rfl rfl g6 (ze4 rfl rfl) (oK 8 rfl rfl rfl g3 (zt rfl g6 rfl) (hJ5 _ () h _ (ji 5 17 rfl rfl rfl))))))


theorem zbw : ∀ {a_s : (List UInt8)} {r : UInt64}, zaW a_s = some r → Ctr Tryd.prog 123 [isv (a_s)] [] (fun R H => R = oneOf [isv (r)] ∧ H = []) := by
 intro a_s r h
 unfold zaW at h
 refine zr Tryd.func123 rfl fun w0 S0 hT => wsr (oA rfl (rnf (zn (zoQ rfl rfl (wkf (zn (zW (.v 0 (.v 1 (.v 2 (.v 3 (.v 4 (.v 5 (.v 6 (.v 7 (.v 8 (.v 9 (.v 10 (.v 11 (.v 12 (.v 13 (.v 14 (.v 15 (.v 16 (.v 17 (.v 18 (.v 19 (.v 20 (.v 21 (.v 22 (.v 23 (.v 24 (.v 25 (.v 26 (.v 27 (.v 28 (.v 29 (.v 30 (.v 31 (.v 32 (.v 33 (.v 34 (.v 35 (.v 36 (.v 37 (.v 38 (.v 39 (.v 40 (.v 41 (.v 42 (.v 43 (.v 44 (.v 45 (.v 46 .nil))))))))))))))))))))))))))))))))))))))))))))))) moOrd (by kernel_rfl) ?_)))))))
 refine rvm rfl rfl (zb h fun y1 hy1 h => zq rfl (zaG (l := a_s) rfl hI rfl sl59 hy1) (zq rfl (zg ty5 rfl) (zq rfl (zd3 Tryd.underlying5 Tryd.underlying26 rfl) (rvm rfl rfl (zb h fun y2 hy2 h => zq rfl (zaG (l := a_s) rfl hI rfl sl59 hy2) (zq rfl (zg ty5 rfl) ?_))))))
 refine zq rfl (zd3 Tryd.underlying5 Tryd.underlying26 rfl) (zZ h fun q3 h => zq rfl (zfS rfl rfl q3) (zq rfl (zeP rfl rfl) (rvm rfl rfl (zb h fun y4 hy4 h => zq rfl (zaG (l := a_s) rfl hI rfl sl59 hy4) (zq rfl (zg ty5 rfl) (zq rfl (zd3 Tryd.underlying5 Tryd.underlying26 rfl) ?_))))))
 refine zZ h fun q5 h => zq rfl (zfS rfl rfl q5) (zq rfl (zeP rfl rfl) (rvm rfl rfl (zb h fun y6 hy6 h => zq rfl (zaG (l := a_s) rfl hI rfl sl59 hy6) (zq rfl (zg ty5 rfl) (zq rfl (zd3 Tryd.underlying5 Tryd.underlying26 rfl) (zZ h fun q7 h => ?_))))))
 refine zq rfl (zfS rfl rfl q7) (zq rfl (zeP rfl rfl) (rvm rfl rfl (zb h fun y8 hy8 h => zq rfl (zaG (l := a_s) rfl hI rfl sl59 hy8) (zq rfl (zg ty5 rfl) (zq rfl (zd3 Tryd.underlying5 Tryd.underlying26 rfl) (zZ h fun q9 h => zq rfl (zfS rfl rfl q9) ?_))))))
 refine zq rfl (zeP rfl rfl) (rvm rfl rfl (zb h fun y10 hy10 h => zq rfl (zaG (l := a_s) rfl hI rfl sl59 hy10) (zq rfl (zg ty5 rfl) (zq rfl (zd3 Tryd.underlying5 Tryd.underlying26 rfl) (zZ h fun q11 h => zq rfl (zfS rfl rfl q11) (zq rfl (zeP rfl rfl) ?_))))))
 refine rvm rfl rfl (zb h fun y12 hy12 h => zq rfl (zaG (l := a_s) rfl hI rfl sl59 hy12) (zq rfl (zg ty5 rfl) (zq rfl (zd3 Tryd.underlying5 Tryd.underlying26 rfl) (zZ h fun q13 h => zq rfl (zfS rfl rfl q13) (zq rfl (zeP rfl rfl) (rvm rfl rfl ?_))))))
 refine zb h fun y14 hy14 h => zq rfl (zaG (l := a_s) rfl hI rfl sl59 hy14) (zq rfl (zg ty5 rfl) (zq rfl (zd3 Tryd.underlying5 Tryd.underlying26 rfl) (zZ h fun q15 h => zq rfl (zfS rfl rfl q15) (zq rfl (zeP rfl rfl) (zq rfl (za1 rfl) (zae ?_))))))
 refine zy (zM ?_)
 cases h
 exact zo (.tmp rfl .nil) .nil ⟨rfl, rfl⟩


theorem zkm : ∀ {a_p : (List UInt8)} {r : Bool}, zeE a_p = some r → Ctr Tryd.prog 118 [isv (a_p)] [] (fun R H => R = oneOf [isv (r)] ∧ H = []) := by
 intro a_p r h
 unfold zeE at h
 refine zr Tryd.func118 rfl fun w0 S0 hT => wsr (oA rfl (rnf (wsr (oM rfl (oM rfl (oV (za2 (l := a_p) rfl hI sl59) (oM rfl ?_)))))))
 refine oV (za2 (l := a_p) rfl hI sl59) (zT h fun q1 h => oV (zqz (l := a_p) rfl hI sl59 rfl rfl q1.1 q1.2) (oA rfl (rnf (zn (zu (za5 (ι := (List UInt8)) (γ := Unit) (fun q2 g2 => [(0, isv (q2))]) (fun q2 g2 => []) h () (za (j := 0) rfl hI zd) .nil (fun L3 q2 g2 Q194 h hL3 eL3 rL3 => zn ?_)))))))
 refine wsr (oM rfl (oV (za2 (l := q2) rfl hI sl59) (oV (zbU rfl rfl) (rnf (zf h rfl (fun _ h => ?_) (fun _ h => ?_))))))
 ·refine wkf (zu (wsr (oM rfl (zb h fun y99 hy99 h => oV (zaG (l := q2) rfl hI rfl sl59 hy99) (oV (zg ty5 rfl) (oA rfl (rnf ?_)))))))
  refine zn (wsr (oM rfl (oV (zdR rfl rfl) (rnf (zf h rfl (fun _ h => ?_) (fun _ h => ?_))))))
  ·refine wsr (oM rfl (zT h fun q100 h => oV (zfX (l := q2) rfl hI sl59 (.inr ⟨_, rfl, rfl⟩) (.inl ⟨rfl, rfl⟩) q100.1 q100.2.1 q100.2.2) (oA rfl (rnf (zn (wsr (oM rfl ?_)))))))
   refine oV (za2 (l := ((q2.take ((q2.length : Int)).toNat).drop ((1 : Int)).toNat)) rfl hI sl59) (oV (zbU rfl rfl) (oM rfl (zau (jb 31) je .nil h 5 rfl (fun q101 g101 h => ?_) (fun J102 h hJ102 => ?_))))
   ·refine rnf (zc3 (ι := (List UInt8)) (γ := Unit) (fun q105 g105 => [(0, isv (q105))]) (fun q105 g105 => []) .nil h (fun q105 g105 h => ?_) (fun J106 h hJ106 => ?_))
    ·exact zad (zU (zH (hL3 _ () h _ (ji 19 0 rfl rfl rfl))))
    refine zf h rfl (fun _ h => ?_) (fun _ h => ?_)
    ·refine wsr (oM rfl (zT h fun q107 h => oV (zfX (l := ((q2.take ((q2.length : Int)).toNat).drop ((1 : Int)).toNat)) rfl hI sl59 (.inr ⟨_, rfl, rfl⟩) (.inl ⟨rfl, rfl⟩) q107.1 q107.2.1 q107.2.2) (oA rfl (rnf (zn (zW (.v 0 (.v 1 (.v 2 (.v 3 (.v 4 (.v 6 (.v 7 (.t 5 (.t 8 (.v 9 (.v 10 (.v 11 (.v 12 .nil))))))))))))) moOrd (by kernel_rfl) ?_))))))
     refine rvm rfl rfl (zq rfl (za2 (l := ((((q2.take ((q2.length : Int)).toNat).drop ((1 : Int)).toNat).take ((((q2.take ((q2.length : Int)).toNat).drop ((1 : Int)).toNat).length : Int)).toNat).drop ((8 : Int)).toNat)) rfl hI sl59) (zq rfl (zbU rfl rfl) (rvm rfl rfl (zeg (jb 46) je .nil h 9 rfl (fun q108 g108 h => ?_) (fun J109 h hJ109 => ?_)))))
     ·refine zae (zy (zf h rfl (fun _ h => ?_) (fun _ h => ?_)))
      ·refine wsr (oM rfl (zT h fun q114 h => oV (zfX (l := ((((q2.take ((q2.length : Int)).toNat).drop ((1 : Int)).toNat).take ((((q2.take ((q2.length : Int)).toNat).drop ((1 : Int)).toNat).length : Int)).toNat).drop ((8 : Int)).toNat)) rfl hI sl59 (.inr ⟨_, rfl, rfl⟩) (.inl ⟨rfl, rfl⟩) q114.1 q114.2.1 q114.2.2) (oA rfl (rnf (zu (za5 (ι := (List UInt8)) (γ := Unit) (fun q115 g115 => [(0, isv (q115))]) (fun q115 g115 => []) h () (za (j := 0) rfl hI zd) .nil (fun L116 q115 g115 Q139 h hL116 eL116 rL116 => zn ?_)))))))
       refine zn (zW (.v 0 (.v 1 (.v 2 (.v 3 (.v 4 (.v 6 (.v 7 (.v 10 (.v 11 (.v 13 (.v 14 (.t 5 (.t 8 (.v 9 (.t 12 (.t 15 (.v 16 (.v 17 (.v 18 (.v 19 (.v 20 .nil))))))))))))))))))))) moOrd (by kernel_rfl) ?_)
       refine rvm rfl rfl (zq rfl (za2 (l := q115) rfl hI sl59) (zq rfl (zbU rfl rfl) (rvm rfl rfl (zeg (jb 69) je .nil h 17 rfl (fun q128 g128 h => ?_) (fun J129 h hJ129 => ?_)))))
       ·refine zae (zy (zf h rfl (fun _ h => ?_) (fun _ h => ?_)))
        ·refine wkf (zu (zj (oM rfl (zT h fun q138 h => oV (zfX (l := q115) rfl hI sl59 (.inr ⟨_, rfl, rfl⟩) (.inl ⟨rfl, rfl⟩) q138.1 q138.2.1 q138.2.2) (oA rfl (zx (zk ?_)))))))
         exact hL116 _ () h _ (ji 9 0 rfl rfl rfl)
        exact zad (zU (eL116 _ _ (zH (hJ106 _ () h _ (ji 17 0 rfl rfl rfl)))))
       refine zaT (j := 52) h rfl (fun g130 h => ?_) (fun g130 h => ?_)
       ·refine rvt 52 rfl rfl rfl g130 (zw rfl) (rvt 52 rfl rfl rfl g130 (zw rfl) (zT h fun q131 h => rvt 52 rfl rfl rfl g130 (zfX (l := q115) rfl hI sl59 (.inr ⟨_, rfl, rfl⟩) (.inl ⟨rfl, rfl⟩) q131.1 q131.2.1 q131.2.2) (rvt 52 rfl rfl rfl g130 (zw rfl) (zT h fun q132 h => rvt 52 rfl rfl rfl g130 (zfX (l := q115) rfl hI sl59 (.inr ⟨_, rfl, rfl⟩) (.inl ⟨rfl, rfl⟩) q132.1 q132.2.1 q132.2.2) (rvt 52 rfl rfl rfl g130 (zw rfl) (zT h fun q133 h => ?_))))))
        refine rvt 52 rfl rfl rfl g130 (zfX (l := q115) rfl hI sl59 (.inr ⟨_, rfl, rfl⟩) (.inl ⟨rfl, rfl⟩) q133.1 q133.2.1 q133.2.2) (zb h fun y134 hy134 h => zhb rfl rfl rfl (dj := 52) rfl g130 (zz (zbw hy134) hT (s1 rfl) .nil (zb h fun y135 hy135 h => zhb rfl rfl rfl (dj := 52) rfl g130 (zz (zbw hy135) hT (s1 rfl) .nil (rvt 52 rfl rfl rfl g130 (zeP rfl rfl) (zb h fun y136 hy136 h => zhb rfl rfl rfl (dj := 52) rfl g130 (zz (zbw hy136) hT (s1 rfl) .nil (zb h fun y137 hy137 h => ?_))))))))
        exact zhb rfl rfl rfl (dj := 52) rfl g130 (zz (zbw hy137) hT (s1 rfl) .nil (rvt 52 rfl rfl rfl g130 (zeP rfl rfl) (rvt 52 rfl rfl rfl g130 (zeP rfl rfl) (rvt 52 rfl rfl rfl g130 (zj1 rfl rfl) (rvt 52 rfl rfl rfl g130 (zih rfl rfl) (zq rfl (zs rfl g130 rfl) (hJ129 _ () h _ (ji 17 69 rfl rfl rfl))))))))
       refine rpv 52 rfl rfl rfl g130 (rpv 52 rfl rfl rfl g130 (rpv 52 rfl rfl rfl g130 (rpv 52 rfl rfl rfl g130 (rpv 52 rfl rfl rfl g130 (rpv 52 rfl rfl rfl g130 (rpv 52 rfl rfl rfl g130 (zdG rfl rfl (dj := 52) rfl g130 (zdG rfl rfl (dj := 52) rfl g130 ?_))))))))
       exact rpv 52 rfl rfl rfl g130 (zdG rfl rfl (dj := 52) rfl g130 (zdG rfl rfl (dj := 52) rfl g130 (rpv 52 rfl rfl rfl g130 (rpv 52 rfl rfl rfl g130 (rpv 52 rfl rfl rfl g130 (rpv 52 rfl rfl rfl g130 (zq rfl (zt rfl g130 rfl) (hJ129 _ () h _ (ji 17 69 rfl rfl rfl)))))))))
      exact zY (hJ106 _ () h _ (ji 8 0 rfl rfl rfl))
     refine zaT (j := 37) h rfl (fun g110 h => ?_) (fun g110 h => ?_)
     ·refine rvt 37 rfl rfl rfl g110 (zw rfl) (rvt 37 rfl rfl rfl g110 (zw rfl) (zT h fun q111 h => rvt 37 rfl rfl rfl g110 (zfX (l := ((((q2.take ((q2.length : Int)).toNat).drop ((1 : Int)).toNat).take ((((q2.take ((q2.length : Int)).toNat).drop ((1 : Int)).toNat).length : Int)).toNat).drop ((8 : Int)).toNat)) rfl hI sl59 (.inr ⟨_, rfl, rfl⟩) (.inl ⟨rfl, rfl⟩) q111.1 q111.2.1 q111.2.2) (zb h fun y112 hy112 h => zhb rfl rfl rfl (dj := 37) rfl g110 (zz (zbw hy112) hT (s1 rfl) .nil (zb h fun y113 hy113 h => zhb rfl rfl rfl (dj := 37) rfl g110 (zz (zbw hy113) hT (s1 rfl) .nil (rvt 37 rfl rfl rfl g110 (zeP rfl rfl) ?_)))))))
      exact rvt 37 rfl rfl rfl g110 (zj1 rfl rfl) (rvt 37 rfl rfl rfl g110 (zih rfl rfl) (zq rfl (zs rfl g110 rfl) (hJ109 _ () h _ (ji 9 46 rfl rfl rfl))))
     refine rpv 37 rfl rfl rfl g110 (rpv 37 rfl rfl rfl g110 (rpv 37 rfl rfl rfl g110 (zdG rfl rfl (dj := 37) rfl g110 (zdG rfl rfl (dj := 37) rfl g110 (rpv 37 rfl rfl rfl g110 (rpv 37 rfl rfl rfl g110 (rpv 37 rfl rfl rfl g110 (zq rfl (zt rfl g110 rfl) ?_))))))))
     exact hJ109 _ () h _ (ji 9 46 rfl rfl rfl)
    exact zY (hJ106 _ () h _ (ji 0 0 rfl rfl rfl))
   refine zC (j := 26) h rfl (fun g103 h => ?_) (fun g103 h => ?_)
   ·exact oK 26 rfl rfl rfl g103 (zw rfl) (zb h fun y104 hy104 h => zat rfl rfl (dj := 26) rfl g103 (zz (zbw hy104) hT (s1 rfl) .nil (oK 26 rfl rfl rfl g103 (zj1 rfl rfl) (oK 26 rfl rfl rfl g103 (zih rfl rfl) (oV (zs rfl g103 rfl) (hJ102 _ () h _ (ji 5 31 rfl rfl rfl)))))))
   exact oP 26 rfl rfl g103 (oP 26 rfl rfl g103 (oP 26 rfl rfl g103 (oP 26 rfl rfl g103 (oV (zt rfl g103 rfl) (hJ102 _ () h _ (ji 5 31 rfl rfl rfl))))))
  refine wkf (wsr (oM rfl (oV (zqD zln ar164 rfl) (oV (zqu hT ty5 rfl _ zfW) (oA rfl (rnf (wsr (oM rfl ?_))))))))
  refine oV (zqf rfl rfl) (oV (zqk Tryd.underlying5 Tryd.underlying3 rfl) (oA rfl (rnf (wsr (oM rfl (zZ h fun q140 h => oV (zqa rfl rfl q140) (zZ h fun q141 h => ?_)))))))
  refine oV (zqF zfW ar167 rfl q141) (oV (zqA hT ty166 rfl q141 _ zln) (oT (zab _ ze166 fun b142 => oT (zi (y' := ((tab2 (shr8 (tab1 y99) (4 : UInt64).toNat)) : GAcc)) ty166 rfl rfl hI .here rfl (zX (zaq 6 .here rfl) (rnf (wsr (oM rfl (rnf ?_)))))))))
  refine zu (wsr (oV (zal rfl rfl) (oA rfl (rnf (zf h rfl (fun _ h => ?_) (fun _ h => ?_))))))
  ·refine zn (zn (zW (.v 0 (.v 1 (.v 2 (.v 3 (.v 4 (.v 5 (.v 6 (.v 7 (.v 8 (.v 9 (.v 10 (.v 11 (.v 12 (.v 13 (.v 14 (.v 15 (.v 16 (.v 17 (.v 18 .nil))))))))))))))))))) moOrd (by kernel_rfl) ?_))
   refine rvm rfl rfl (zq rfl (za2 (l := q2) rfl hI sl59) (zq rfl (zaj rfl rfl) (rvm rfl rfl (zeg (jb 95) je .nil h 7 rfl (fun q143 g143 h => ?_) (fun J144 h hJ144 => ?_)))))
   ·refine rvm rfl rfl (zeg (jb 103) je .nil h 7 rfl (fun q147 g147 h => ?_) (fun J148 h hJ148 => ?_))
    ·refine zae (zy (zf h rfl (fun _ h => ?_) (fun _ h => ?_)))
     ·refine wsr (oA rfl (rnf (zM (zB (zE (zE (rL3 _ (zE ?_))))))))
      refine zB ?_
      cases h
      exact zo (.tmp rfl .nil) .nil ⟨rfl, rfl⟩
     refine wkf (zj (oM rfl (zT h fun q151 h => oV (zfX (l := q2) rfl hI sl59 (.inr ⟨_, rfl, rfl⟩) (.inl ⟨rfl, rfl⟩) q151.1 q151.2.1 q151.2.2) (oA rfl (zx (zk (zk ?_)))))))
     exact hL3 _ () h _ (ji 37 0 rfl rfl rfl)
    refine zaT (j := 96) h rfl (fun g149 h => ?_) (fun g149 h => ?_)
    ·exact rpv 96 rfl rfl rfl g149 (rpv 96 rfl rfl rfl g149 (rpv 96 rfl rfl rfl g149 (rpv 96 rfl rfl rfl g149 (rpv 96 rfl rfl rfl g149 (rpv 96 rfl rfl rfl g149 (zq rfl (zs rfl g149 rfl) (hJ148 _ () h _ (ji 7 103 rfl rfl rfl))))))))
    exact rvt 96 rfl rfl rfl g149 (zac rfl GAcc.f1 zjR rfl (z := (tab2 (shr8 (tab1 y99) (4 : UInt64).toNat)).hi)) (rvt 96 rfl rfl rfl g149 (zg ty5 rfl) (rvt 96 rfl rfl rfl g149 (zw rfl) (zb h fun y150 hy150 h => rvt 96 rfl rfl rfl g149 (zaG (l := q2) rfl hI rfl sl59 hy150) (rvt 96 rfl rfl rfl g149 (zg ty5 rfl) (rvt 96 rfl rfl rfl g149 (zdR rfl rfl) (zq rfl (zt rfl g149 rfl) (hJ148 _ () h _ (ji 7 103 rfl rfl rfl))))))))
   refine zaT (j := 88) h rfl (fun g145 h => ?_) (fun g145 h => ?_)
   ·exact rpv 88 rfl rfl rfl g145 (rpv 88 rfl rfl rfl g145 (rpv 88 rfl rfl rfl g145 (rpv 88 rfl rfl rfl g145 (rpv 88 rfl rfl rfl g145 (rpv 88 rfl rfl rfl g145 (zq rfl (zs rfl g145 rfl) (hJ144 _ () h _ (ji 7 95 rfl rfl rfl))))))))
   exact rvt 88 rfl rfl rfl g145 (zw rfl) (zb h fun y146 hy146 h => rvt 88 rfl rfl rfl g145 (zaG (l := q2) rfl hI rfl sl59 hy146) (rvt 88 rfl rfl rfl g145 (zg ty5 rfl) (rvt 88 rfl rfl rfl g145 (zac rfl GAcc.f0 zkg rfl (z := (tab2 (shr8 (tab1 y99) (4 : UInt64).toNat)).lo)) (rvt 88 rfl rfl rfl g145 (zg ty5 rfl) (rvt 88 rfl rfl rfl g145 (zdR rfl rfl) (zq rfl (zt rfl g145 rfl) (hJ144 _ () h _ (ji 7 95 rfl rfl rfl))))))))
  refine wsr (oV (zal rfl rfl) (oA rfl (rnf (zf h rfl (fun _ h => ?_) (fun _ h => ?_)))))
  ·refine zn (zn (zW (.v 0 (.v 1 (.v 2 (.v 3 (.v 4 (.v 5 (.v 6 (.v 7 (.v 8 (.v 9 (.v 10 (.v 11 (.v 12 (.v 13 (.v 14 (.v 15 (.v 16 (.v 17 (.v 18 (.v 19 (.v 20 (.v 21 (.v 22 (.v 23 (.v 24 (.v 25 (.v 26 (.v 27 (.v 28 (.v 29 (.v 30 .nil))))))))))))))))))))))))))))))) moOrd (by kernel_rfl) ?_))
   refine rvm rfl rfl (zq rfl (za2 (l := q2) rfl hI sl59) (zq rfl (zaj rfl rfl) (rvm rfl rfl (zeg (jb 118) je .nil h 7 rfl (fun q152 g152 h => ?_) (fun J153 h hJ153 => ?_)))))
   ·refine rvm rfl rfl (zeg (jb 126) je .nil h 7 rfl (fun q156 g156 h => ?_) (fun J157 h hJ157 => ?_))
    ·refine rvm rfl rfl (zeg (jb 132) je .nil h 5 rfl (fun q160 g160 h => ?_) (fun J161 h hJ161 => ?_))
     ·refine rvm rfl rfl (zeg (jb 138) je .nil h 5 rfl (fun q164 g164 h => ?_) (fun J165 h hJ165 => ?_))
      ·refine zae (zy (zf h rfl (fun _ h => ?_) (fun _ h => ?_)))
       ·refine wsr (oA rfl (rnf (zM (zB (zE (zE (rL3 _ (zE ?_))))))))
        refine zB ?_
        cases h
        exact zo (.tmp rfl .nil) .nil ⟨rfl, rfl⟩
       refine wkf (zj (oM rfl (zT h fun q168 h => oV (zfX (l := q2) rfl hI sl59 (.inr ⟨_, rfl, rfl⟩) (.inl ⟨rfl, rfl⟩) q168.1 q168.2.1 q168.2.2) (oA rfl (zx (zk (zk ?_)))))))
       exact hL3 _ () h _ (ji 43 0 rfl rfl rfl)
      refine zaT (j := 133) h rfl (fun g166 h => ?_) (fun g166 h => ?_)
      ·exact rpv 133 rfl rfl rfl g166 (rpv 133 rfl rfl rfl g166 (rpv 133 rfl rfl rfl g166 (rpv 133 rfl rfl rfl g166 (zq rfl (zs rfl g166 rfl) (hJ165 _ () h _ (ji 5 138 rfl rfl rfl))))))
      exact rvt 133 rfl rfl rfl g166 (zw rfl) (zb h fun y167 hy167 h => rvt 133 rfl rfl rfl g166 (zaG (l := q2) rfl hI rfl sl59 hy167) (rvt 133 rfl rfl rfl g166 (zg ty5 rfl) (rvt 133 rfl rfl rfl g166 (zdR rfl rfl) (zq rfl (zt rfl g166 rfl) (hJ165 _ () h _ (ji 5 138 rfl rfl rfl))))))
     refine zaT (j := 127) h rfl (fun g162 h => ?_) (fun g162 h => ?_)
     ·exact rpv 127 rfl rfl rfl g162 (rpv 127 rfl rfl rfl g162 (rpv 127 rfl rfl rfl g162 (rpv 127 rfl rfl rfl g162 (zq rfl (zs rfl g162 rfl) (hJ161 _ () h _ (ji 5 132 rfl rfl rfl))))))
     exact rvt 127 rfl rfl rfl g162 (zw rfl) (zb h fun y163 hy163 h => rvt 127 rfl rfl rfl g162 (zaG (l := q2) rfl hI rfl sl59 hy163) (rvt 127 rfl rfl rfl g162 (zg ty5 rfl) (rvt 127 rfl rfl rfl g162 (zdR rfl rfl) (zq rfl (zt rfl g162 rfl) (hJ161 _ () h _ (ji 5 132 rfl rfl rfl))))))
    refine zaT (j := 119) h rfl (fun g158 h => ?_) (fun g158 h => ?_)
    ·exact rpv 119 rfl rfl rfl g158 (rpv 119 rfl rfl rfl g158 (rpv 119 rfl rfl rfl g158 (rpv 119 rfl rfl rfl g158 (rpv 119 rfl rfl rfl g158 (rpv 119 rfl rfl rfl g158 (zq rfl (zs rfl g158 rfl) (hJ157 _ () h _ (ji 7 126 rfl rfl rfl))))))))
    exact rvt 119 rfl rfl rfl g158 (zac rfl GAcc.f1 zjR rfl (z := (tab2 (shr8 (tab1 y99) (4 : UInt64).toNat)).hi)) (rvt 119 rfl rfl rfl g158 (zg ty5 rfl) (rvt 119 rfl rfl rfl g158 (zw rfl) (zb h fun y159 hy159 h => rvt 119 rfl rfl rfl g158 (zaG (l := q2) rfl hI rfl sl59 hy159) (rvt 119 rfl rfl rfl g158 (zg ty5 rfl) (rvt 119 rfl rfl rfl g158 (zdR rfl rfl) (zq rfl (zt rfl g158 rfl) (hJ157 _ () h _ (ji 7 126 rfl rfl rfl))))))))
   refine zaT (j := 111) h rfl (fun g154 h => ?_) (fun g154 h => ?_)
   ·exact rpv 111 rfl rfl rfl g154 (rpv 111 rfl rfl rfl g154 (rpv 111 rfl rfl rfl g154 (rpv 111 rfl rfl rfl g154 (rpv 111 rfl rfl rfl g154 (rpv 111 rfl rfl rfl g154 (zq rfl (zs rfl g154 rfl) (hJ153 _ () h _ (ji 7 118 rfl rfl rfl))))))))
   exact rvt 111 rfl rfl rfl g154 (zw rfl) (zb h fun y155 hy155 h => rvt 111 rfl rfl rfl g154 (zaG (l := q2) rfl hI rfl sl59 hy155) (rvt 111 rfl rfl rfl g154 (zg ty5 rfl) (rvt 111 rfl rfl rfl g154 (zac rfl GAcc.f0 zkg rfl (z := (tab2 (shr8 (tab1 y99) (4 : UInt64).toNat)).lo)) (rvt 111 rfl rfl rfl g154 (zg ty5 rfl) (rvt 111 rfl rfl rfl g154 (zdR rfl rfl) (zq rfl (zt rfl g154 rfl) (hJ153 _ () h _ (ji 7 118 rfl rfl rfl))))))))
  refine wsr (oV (zal rfl rfl) (oA rfl (rnf (zf h rfl (fun _ h => ?_) (fun _ h => ?_)))))
  ·refine zn (zn (zW (.v 0 (.v 1 (.v 2 (.v 3 (.v 4 (.v 5 (.v 6 (.v 7 (.v 8 (.v 9 (.v 10 (.v 11 (.v 12 (.v 13 (.v 14 (.v 15 (.v 16 (.v 17 (.v 18 (.v 19 (.v 20 (.v 21 (.v 22 (.v 23 (.v 24 (.v 25 (.v 26 (.v 27 (.v 28 (.v 29 (.v 30 (.v 31 (.v 32 (.v 33 (.v 34 (.v 35 (.v 36 (.v 37 (.v 38 (.v 39 (.v 40 (.v 41 (.v 42 .nil))))))))))))))))))))))))))))))))))))))))))) moOrd (by kernel_rfl) ?_))
   refine rvm rfl rfl (zq rfl (za2 (l := q2) rfl hI sl59) (zq rfl (zaj rfl rfl) (rvm rfl rfl (zeg (jb 153) je .nil h 7 rfl (fun q169 g169 h => ?_) (fun J170 h hJ170 => ?_)))))
   ·refine rvm rfl rfl (zeg (jb 161) je .nil h 7 rfl (fun q173 g173 h => ?_) (fun J174 h hJ174 => ?_))
    ·refine rvm rfl rfl (zeg (jb 167) je .nil h 5 rfl (fun q177 g177 h => ?_) (fun J178 h hJ178 => ?_))
     ·refine rvm rfl rfl (zeg (jb 173) je .nil h 5 rfl (fun q181 g181 h => ?_) (fun J182 h hJ182 => ?_))
      ·refine rvm rfl rfl (zeg (jb 179) je .nil h 5 rfl (fun q185 g185 h => ?_) (fun J186 h hJ186 => ?_))
       ·refine rvm rfl rfl (zeg (jb 185) je .nil h 5 rfl (fun q189 g189 h => ?_) (fun J190 h hJ190 => ?_))
        ·refine zae (zy (zf h rfl (fun _ h => ?_) (fun _ h => ?_)))
         ·refine wsr (oA rfl (rnf (zM (zB (zE (zE (rL3 _ (zE ?_))))))))
          refine zB ?_
          cases h
          exact zo (.tmp rfl .nil) .nil ⟨rfl, rfl⟩
         refine wkf (zj (oM rfl (zT h fun q193 h => oV (zfX (l := q2) rfl hI sl59 (.inr ⟨_, rfl, rfl⟩) (.inl ⟨rfl, rfl⟩) q193.1 q193.2.1 q193.2.2) (oA rfl (zx (zk (zk ?_)))))))
         exact hL3 _ () h _ (ji 49 0 rfl rfl rfl)
        refine zaT (j := 180) h rfl (fun g191 h => ?_) (fun g191 h => ?_)
        ·exact rpv 180 rfl rfl rfl g191 (rpv 180 rfl rfl rfl g191 (rpv 180 rfl rfl rfl g191 (rpv 180 rfl rfl rfl g191 (zq rfl (zs rfl g191 rfl) (hJ190 _ () h _ (ji 5 185 rfl rfl rfl))))))
        exact rvt 180 rfl rfl rfl g191 (zw rfl) (zb h fun y192 hy192 h => rvt 180 rfl rfl rfl g191 (zaG (l := q2) rfl hI rfl sl59 hy192) (rvt 180 rfl rfl rfl g191 (zg ty5 rfl) (rvt 180 rfl rfl rfl g191 (zdR rfl rfl) (zq rfl (zt rfl g191 rfl) (hJ190 _ () h _ (ji 5 185 rfl rfl rfl))))))
       refine zaT (j := 174) h rfl (fun g187 h => ?_) (fun g187 h => ?_)
       ·exact rpv 174 rfl rfl rfl g187 (rpv 174 rfl rfl rfl g187 (rpv 174 rfl rfl rfl g187 (rpv 174 rfl rfl rfl g187 (zq rfl (zs rfl g187 rfl) (hJ186 _ () h _ (ji 5 179 rfl rfl rfl))))))
       exact rvt 174 rfl rfl rfl g187 (zw rfl) (zb h fun y188 hy188 h => rvt 174 rfl rfl rfl g187 (zaG (l := q2) rfl hI rfl sl59 hy188) (rvt 174 rfl rfl rfl g187 (zg ty5 rfl) (rvt 174 rfl rfl rfl g187 (zdR rfl rfl) (zq rfl (zt rfl g187 rfl) (hJ186 _ () h _ (ji 5 179 rfl rfl rfl))))))
      refine zaT (j := 168) h rfl (fun g183 h => ?_) (fun g183 h => ?_)
      ·exact rpv 168 rfl rfl rfl g183 (rpv 168 rfl rfl rfl g183 (rpv 168 rfl rfl rfl g183 (rpv 168 rfl rfl rfl g183 (zq rfl (zs rfl g183 rfl) (hJ182 _ () h _ (ji 5 173 rfl rfl rfl))))))
      exact rvt 168 rfl rfl rfl g183 (zw rfl) (zb h fun y184 hy184 h => rvt 168 rfl rfl rfl g183 (zaG (l := q2) rfl hI rfl sl59 hy184) (rvt 168 rfl rfl rfl g183 (zg ty5 rfl) (rvt 168 rfl rfl rfl g183 (zdR rfl rfl) (zq rfl (zt rfl g183 rfl) (hJ182 _ () h _ (ji 5 173 rfl rfl rfl))))))
     refine zaT (j := 162) h rfl (fun g179 h => ?_) (fun g179 h => ?_)
     ·exact rpv 162 rfl rfl rfl g179 (rpv 162 rfl rfl rfl g179 (rpv 162 rfl rfl rfl g179 (rpv 162 rfl rfl rfl g179 (zq rfl (zs rfl g179 rfl) (hJ178 _ () h _ (ji 5 167 rfl rfl rfl))))))
     exact rvt 162 rfl rfl rfl g179 (zw rfl) (zb h fun y180 hy180 h => rvt 162 rfl rfl rfl g179 (zaG (l := q2) rfl hI rfl sl59 hy180) (rvt 162 rfl rfl rfl g179 (zg ty5 rfl) (rvt 162 rfl rfl rfl g179 (zdR rfl rfl) (zq rfl (zt rfl g179 rfl) (hJ178 _ () h _ (ji 5 167 rfl rfl rfl))))))
    refine zaT (j := 154) h rfl (fun g175 h => ?_) (fun g175 h => ?_)
    ·exact rpv 154 rfl rfl rfl g175 (rpv 154 rfl rfl rfl g175 (rpv 154 rfl rfl rfl g175 (rpv 154 rfl rfl rfl g175 (rpv 154 rfl rfl rfl g175 (rpv 154 rfl rfl rfl g175 (zq rfl (zs rfl g175 rfl) (hJ174 _ () h _ (ji 7 161 rfl rfl rfl))))))))
    exact rvt 154 rfl rfl rfl g175 (zac rfl GAcc.f1 zjR rfl (z := (tab2 (shr8 (tab1 y99) (4 : UInt64).toNat)).hi)) (rvt 154 rfl rfl rfl g175 (zg ty5 rfl) (rvt 154 rfl rfl rfl g175 (zw rfl) (zb h fun y176 hy176 h => rvt 154 rfl rfl rfl g175 (zaG (l := q2) rfl hI rfl sl59 hy176) (rvt 154 rfl rfl rfl g175 (zg ty5 rfl) (rvt 154 rfl rfl rfl g175 (zdR rfl rfl) (zq rfl (zt rfl g175 rfl) (hJ174 _ () h _ (ji 7 161 rfl rfl rfl))))))))
   refine zaT (j := 146) h rfl (fun g171 h => ?_) (fun g171 h => ?_)
   ·exact rpv 146 rfl rfl rfl g171 (rpv 146 rfl rfl rfl g171 (rpv 146 rfl rfl rfl g171 (rpv 146 rfl rfl rfl g171 (rpv 146 rfl rfl rfl g171 (rpv 146 rfl rfl rfl g171 (zq rfl (zs rfl g171 rfl) (hJ170 _ () h _ (ji 7 153 rfl rfl rfl))))))))
   exact rvt 146 rfl rfl rfl g171 (zw rfl) (zb h fun y172 hy172 h => rvt 146 rfl rfl rfl g171 (zaG (l := q2) rfl hI rfl sl59 hy172) (rvt 146 rfl rfl rfl g171 (zg ty5 rfl) (rvt 146 rfl rfl rfl g171 (zac rfl GAcc.f0 zkg rfl (z := (tab2 (shr8 (tab1 y99) (4 : UInt64).toNat)).lo)) (rvt 146 rfl rfl rfl g171 (zg ty5 rfl) (rvt 146 rfl rfl rfl g171 (zdR rfl rfl) (zq rfl (zt rfl g171 rfl) (hJ170 _ () h _ (ji 7 153 rfl rfl rfl))))))))
  refine wsr (oA rfl (rnf (zM (zE (zE (rL3 _ (zE (zB ?_))))))))
  cases h
  exact zo (.tmp rfl .nil) .nil ⟨rfl, rfl⟩
 refine zad (zU (eL3 _ _ (zH (zy (wsr (oA rfl (rnf (zM ?_))))))))
 cases h
 exact zo (.tmp rfl .nil) .nil ⟨rfl, rfl⟩


theorem zgg : ∀ {a_x : GMk} {a_i : Int} {a_v : Val} {zG : Nat} {z6 : Vt} {r : Val × GMk}, zb1 a_x a_i a_v = some r → Ctr Tryd.prog 113 [ptrv zG (Fld.id (GMod × Vh × Int)), isv (a_i), isv (a_v)] [boxE zG ((a_x.m, (Vh.mk z6 a_x.l.length), a_x.e) : (GMod × Vh × Int)), vecE z6 (a_x.l : List GTyp)] (fun R H => R = oneOf [isv (r.1)] ∧ H = [boxE zG ((r.2.m, (Vh.mk z6 r.2.l.length), r.2.e)), vecE z6 (r.2.l)]) := by
 intro a_x a_i a_v zG z6 r h
 unfold zb1 at h
 refine zr Tryd.func113 rfl fun w0 S0 hT => wsr (oT (zko (y := a_v) rfl hI fun b2 => oT (zab _ ze63 fun b3 => rnf (wsr (oM rfl (oV (zp rfl) (oV (z7 rfl zbC zcl) ?_)))))))
 refine oT (zI (R := vecv z6 (a_x.l.length)) ty38 rfl tI isvV1 (oM rfl (zT h fun q4 h => oV (zaH (α := GTyp) sl38 rfl rfl q4.1 q4.2) (zb h fun y5 hy5 h => oT (zaU ty54 rfl (.there tI) hy5 ?_)))))
 refine oT (zab _ ze54 fun b6 => oT (zi (y' := (y5 : GTyp)) ty54 rfl rfl hI .here rfl (zX (zaq 7 .here rfl) (rnf (wsr (oV (z7 rfl Val.f0 zfJ) (oT (zI (R := isv (a_v.kind)) ty3 rfl tH hI (oV (zac rfl GTyp.f0 zeJ rfl (z := y5.kind)) (oV (zg ty3 rfl) ?_))))))))))
 refine oV (zal rfl rfl) (oA rfl (rnf (zn (wsr (oV (zac rfl GTyp.f0 zeJ rfl (z := y5.kind)) (oV (zg ty3 rfl) (rnf (zc3 (ι := Bool × Val) (γ := Unit) (fun q7 g7 => [(5, ptrv b2 (Fld.id Val)), (8, isv (q7.1))]) (fun q7 g7 => [boxE b2 (q7.2 : Val)]) (.cons tH .nil) h (fun q7 g7 h => ?_) (fun J8 h hJ8 => ?_)))))))))
 ·refine zn (wsr (oM rfl (oV (zbG rfl) (rnf (zc3 (ι := GMk) (γ := Unit) (fun q51 g51 => []) (fun q51 g51 => [boxE zG ((q51.m, (Vh.mk z6 q51.l.length), q51.e) : (GMod × Vh × Int)), vecE z6 (q51.l : List GTyp)]) (.cons tI (.cons tI .nil)) h (fun q51 g51 h => ?_) (fun J52 h hJ52 => ?_))))))
  ·refine wsr (oT (zI (R := isv (q7.2)) ty63 rfl tI hI (oT (zi (y' := (q7.2 : Val)) ty63 rfl rfl hI (.there tI) rfl (rnf (zM ?_))))))
   cases h
   exact zo (.cell rfl .here ty63 .nil) (.cons tH (.cons tH .nil)) ⟨rfl, rfl⟩
  refine zf h rfl (fun _ h => ?_) (fun _ h => ?_)
  ·exact zj (oM rfl (zb h fun y53 hy53 h => oT (zz (zbc hy53) hT (s2 rfl rfl) (.cons tI (.cons tI .nil)) (zx (hJ52 _ () h _ (ze 2 rfl rfl zd k4))))))
  exact zY (hJ52 _ () h _ (ze 0 rfl rfl zd (.cons tI (.cons tI k2))))
 refine zu (zn (wsr (oV (zal rfl rfl) (oA rfl (rnf (zc3 (jb 24) je .nil h (fun q9 g9 h => ?_) (fun J10 h hJ10 => ?_)))))))
 ·refine zf h rfl (fun _ h => ?_) (fun _ h => ?_)
  ·exact zY (zk (hJ8 _ () h _ (ze 3 rfl rfl (za (j := 5) rfl hI (za (j := 8) rfl hI zd)) (.cons tH k3))))
  refine wsr (oV (zal rfl rfl) (oA rfl (rnf (zf h rfl (fun _ h => ?_) (fun _ h => ?_)))))
  ·refine zj (oM rfl (oM rfl (zau (jb 36) je .nil h 6 rfl (fun q11 g11 h => ?_) (fun J12 h hJ12 => ?_))))
   ·exact oA rfl (zx (zk (hJ8 _ () h _ (ze 9 rfl rfl (za (j := 5) rfl hI (za (j := 8) rfl hI zd)) (.cons tH k3)))))
   refine zC (j := 30) h rfl (fun g13 h => ?_) (fun g13 h => ?_)
   ·exact oK 30 rfl rfl rfl g13 (zac rfl GTyp.f2 zlY rfl (z := y5.con)) (oK 30 rfl rfl rfl g13 (zg ty50 rfl) (oK 30 rfl rfl rfl g13 (z7 rfl Val.f1 zjN) (zat rfl rfl (dj := 30) rfl g13 (zI (R := isv (a_v.n)) ty2 rfl tH hI (zb h fun y14 hy14 h => zat rfl rfl (dj := 30) rfl g13 (zz (zg9 hy14) hT (s2 rfl rfl) .nil (oV (zs rfl g13 rfl) (hJ12 _ () h _ (ze 6 rfl rfl (za (j := 36) rfl hI zd) k4)))))))))
   exact oP 30 rfl rfl g13 (oP 30 rfl rfl g13 (oP 30 rfl rfl g13 (oP 30 rfl rfl g13 (oP 30 rfl rfl g13 (oV (zt rfl g13 rfl) (hJ12 _ () h _ (ze 6 rfl rfl (za (j := 36) rfl hI zd) k4)))))))
  refine zn (wsr (oV (zal rfl rfl) (oA rfl (rnf (zc3 (jb 37) je .nil h (fun q15 g15 h => ?_) (fun J16 h hJ16 => ?_))))))
  ·refine zf h rfl (fun _ h => ?_) (fun _ h => ?_)
   ·refine zj (oM rfl (oM rfl (zau (jb 48) je .nil h 7 rfl (fun q17 g17 h => ?_) (fun J18 h hJ18 => ?_))))
    ·refine oM rfl (zau (jb 58) je .nil h 9 rfl (fun q21 g21 h => ?_) (fun J22 h hJ22 => ?_))
     ·exact oA rfl (zx (zk (hJ8 _ () h _ (ze 14 rfl rfl (za (j := 5) rfl hI (za (j := 8) rfl hI zd)) (.cons tH k3)))))
     refine zC (j := 49) h rfl (fun g23 h => ?_) (fun g23 h => ?_)
     ·refine oK 49 rfl rfl rfl g23 (zac rfl GTyp.f0 zeJ rfl (z := y5.kind)) (oK 49 rfl rfl rfl g23 (zg ty3 rfl) (oK 49 rfl rfl rfl g23 (zal rfl rfl) (oK 49 rfl rfl rfl g23 (zw rfl) (zau (jb 57) je .nil h 4 rfl (fun q24 g24 h => ?_) (fun J25 h hJ25 => ?_)))))
      ·exact oV (zs rfl g23 rfl) (hJ22 _ () h _ (ze 6 rfl rfl (za (j := 58) rfl hI zd) k4))
      refine zC (j := 53) h rfl (fun g26 h => ?_) (fun g26 h => ?_)
      ·exact oP 53 rfl rfl g26 (oP 53 rfl rfl g26 (oP 53 rfl rfl g26 (oK 49 rfl rfl rfl g23 (zs rfl g26 rfl) (hJ25 _ () h _ (ze 4 rfl rfl (za (j := 57) rfl hI zd) k4)))))
      exact oK 53 rfl rfl rfl g26 (z7 rfl Val.f2 zhK) (zat rfl rfl (dj := 53) rfl g26 (zI (R := isv (a_v.b)) ty59 rfl tH hI (zb h fun y27 hy27 h => zat rfl rfl (dj := 53) rfl g26 (zz (zkm hy27) hT (s1 rfl) .nil (oK 49 rfl rfl rfl g23 (zt rfl g26 rfl) (hJ25 _ () h _ (ze 4 rfl rfl (za (j := 57) rfl hI zd) k4)))))))
     refine oP 49 rfl rfl g23 (oP 49 rfl rfl g23 (oP 49 rfl rfl g23 (oP 49 rfl rfl g23 (zA rfl (dj := 53) rfl (zA rfl (dj := 53) rfl (zA rfl (dj := 53) rfl (oP 49 rfl rfl g23 (oV (zt rfl g23 rfl) ?_))))))))
     exact hJ22 _ () h _ (ze 9 rfl rfl (za (j := 58) rfl hI zd) k4)
    refine zC (j := 41) h rfl (fun g19 h => ?_) (fun g19 h => ?_)
    ·exact oK 41 rfl rfl rfl g19 (zac rfl GTyp.f2 zlY rfl (z := y5.con)) (oK 41 rfl rfl rfl g19 (zg ty50 rfl) (oK 41 rfl rfl rfl g19 (z7 rfl Val.f2 zhK) (zat rfl rfl (dj := 41) rfl g19 (zI (R := isv (a_v.b)) ty59 rfl tH hI (oK 41 rfl rfl rfl g19 (za2 (l := a_v.b) rfl hI sl59) (zb h fun y20 hy20 h => zat rfl rfl (dj := 41) rfl g19 (zz (zg9 hy20) hT (s2 rfl rfl) .nil (oV (zs rfl g19 rfl) (hJ18 _ () h _ (ze 7 rfl rfl (za (j := 48) rfl hI zd) k4))))))))))
    exact oP 41 rfl rfl g19 (oP 41 rfl rfl g19 (oP 41 rfl rfl g19 (oP 41 rfl rfl g19 (oP 41 rfl rfl g19 (oP 41 rfl rfl g19 (oV (zt rfl g19 rfl) (hJ18 _ () h _ (ze 7 rfl rfl (za (j := 48) rfl hI zd) k4))))))))
   refine wsr (oV (zal rfl rfl) (oA rfl (rnf (zf h rfl (fun _ h => ?_) (fun _ h => ?_)))))
   ·refine wsr (oM rfl (rnf (zf h rfl (fun _ h => ?_) (fun _ h => ?_))))
    ·refine wsr (oA rfl (rnf (wsr (oA rfl (rnf (zu (za5 (ι := Bool × Int × Val) (γ := Unit) (fun q28 g28 => [(5, ptrv b2 (Fld.id Val)), (8, isv (q28.1)), (9, isv (q28.2.1))]) (fun q28 g28 => [boxE b2 (q28.2.2 : Val)]) h () (za (j := 5) rfl hI (za (j := 8) rfl hI (za (j := 9) rfl hI zd))) (.cons tH .nil) (fun L29 q28 g28 Q50 h hL29 eL29 rL29 => zn ?_))))))))
     refine wsr (oM rfl (oV (zac rfl GTyp.f5 zhw rfl (z := y5.root)) (oV (zg ty3 rfl) (oV (zaj rfl rfl) (oM rfl (zau (jb 69) je .nil h 3 rfl (fun q40 g40 h => ?_) (fun J41 h hJ41 => ?_)))))))
     ·refine rnf (zf h rfl (fun _ h => ?_) (fun _ h => ?_))
      ·refine wkf (zn (zc3 (ι := Bool × Val) (γ := Unit) (fun q43 g43 => [(5, ptrv b2 (Fld.id Val)), (8, isv (q43.1))]) (fun q43 g43 => [boxE b2 (q43.2 : Val)]) k1 h (fun q43 g43 h => ?_) (fun J44 h hJ44 => ?_)))
       ·exact zj (oM rfl (zD h fun q49 h => oV (zaf rfl rfl q49) (oA rfl (zx (hL29 _ () h _ (ze 14 rfl rfl (za (j := 5) rfl hI (za (j := 8) rfl hI (za (j := 9) rfl hI zd))) k4))))))
       refine zu (zn (zcG 5 .here rfl (fun o45 hn46 => zW (.v 0 (.v 1 (.v 2 (.v 3 (.v 4 (.v 5 (.v 6 (.v 7 (.v 8 (.v 9 .nil)))))))))) moOrd (by kernel_rfl) ?_)))
       refine zq rfl (zac rfl GTyp.f3 zka rfl (z := y5.items)) (zq rfl (zg ty51 rfl) (rvm rfl rfl (zb h fun y47 hy47 h => zq rfl (zaG (l := y5.items) rfl hI rfl sl51 hy47) (zq rfl (zac rfl GItem.f0 zj5 rfl (z := y47.name)) (zq rfl (zg ty9 rfl) (zq rfl (zft rfl Val.f2 zhK) (zq rfl (zcL (R := isv (q28.2.2.b)) ty59 rfl (List.Mem.head _) hI) ?_)))))))
       refine zq rfl (zpn (l := q28.2.2.b) Tryd.underlying59 Tryd.underlying5 Tryd.underlying9 rfl hI) (zq rfl (zco eq9 rfl rfl) (zae (zaN 5 hn46 rfl (zy (zf h rfl (fun _ h => ?_) (fun _ h => ?_))))))
       ·refine zj (oV (zac rfl GTyp.f3 zka rfl (z := y5.items)) (oV (zg ty51 rfl) (oM rfl (zb h fun y48 hy48 h => oV (zaG (l := y5.items) rfl hI rfl sl51 hy48) (oV (zac rfl GItem.f1 zdL rfl (z := y48.number)) (oV (zg ty2 rfl) (oV (zaw (z := (Val.mk (3 : Int) y48.number ([] : (List UInt8)) ([] : (List Val)) (0 : Int) ([] : (List Raw)))) rfl bu63 ze63 (.cons Val.f0 zfJ rfl hI (.cons Val.f1 zjN rfl hI .nil))) ?_)))))))
        exact oT (zi (y' := ((Val.mk (3 : Int) y48.number ([] : (List UInt8)) ([] : (List Val)) (0 : Int) ([] : (List Raw))) : Val)) ty63 rfl rfl hI .here rfl (oA rfl (zx (zk (hJ44 _ () h _ (ze 20 rfl rfl (za (j := 5) rfl hI (za (j := 8) rfl hI zd)) k4))))))
       exact zY (zk (hJ44 _ () h _ (ze 12 rfl rfl (za (j := 5) rfl hI (za (j := 8) rfl hI zd)) k4)))
      exact zad (zU (eL29 _ _ (zH (zk (hJ8 _ () h _ (ze 22 rfl rfl (za (j := 5) rfl hI (za (j := 8) rfl hI zd)) k4))))))
     refine zC (j := 66) h rfl (fun g42 h => ?_) (fun g42 h => ?_)
     ·exact oK 66 rfl rfl rfl g42 (zw rfl) (oK 66 rfl rfl rfl g42 (zbG rfl) (oV (zs rfl g42 rfl) (hJ41 _ () h _ (ze 3 rfl rfl (za (j := 69) rfl hI zd) k4))))
     exact oP 66 rfl rfl g42 (oP 66 rfl rfl g42 (oV (zt rfl g42 rfl) (hJ41 _ () h _ (ze 3 rfl rfl (za (j := 69) rfl hI zd) k4))))
    exact zY (zk (hJ8 _ () h _ (ze 11 rfl rfl (za (j := 5) rfl hI (za (j := 8) rfl hI zd)) (.cons tH k3))))
   exact zj (oA rfl (zx (zk (hJ8 _ () h _ (ze 11 rfl rfl (za (j := 5) rfl hI (za (j := 8) rfl hI zd)) (.cons tH k3))))))
  refine zf h rfl (fun _ h => ?_) (fun _ h => ?_)
  ·exact zY (hJ16 _ () h _ (ze 0 rfl rfl (za (j := 37) rfl hI zd) k4))
  exact zj (oV (zal rfl rfl) (oA rfl (zx (hJ16 _ () h _ (ze 2 rfl rfl (za (j := 37) rfl hI zd) k4)))))
 refine zf h rfl (fun _ h => ?_) (fun _ h => ?_)
 ·exact zY (hJ10 _ () h _ (ze 0 rfl rfl (za (j := 24) rfl hI zd) k4))
 exact zj (oV (zal rfl rfl) (oA rfl (zx (hJ10 _ () h _ (ze 2 rfl rfl (za (j := 24) rfl hI zd) k4)))))


theorem zfk : ∀ {a_x : GMk} {a_i : Int} {zG : Nat} {z6 : Vt} {r : Int × GMk}, zbM a_x a_i = some r → Ctr Tryd.prog 91 [ptrv zG (Fld.id (GMod × Vh × Int)), isv (a_i)] [boxE zG ((a_x.m, (Vh.mk z6 a_x.l.length), a_x.e) : (GMod × Vh × Int)), vecE z6 (a_x.l : List GTyp)] (fun R H => R = oneOf [isv (r.1)] ∧ H = [boxE zG ((r.2.m, (Vh.mk z6 r.2.l.length), r.2.e)), vecE z6 (r.2.l)]) := by
 intro a_x a_i zG z6 r h
 unfold zbM at h
 refine zr Tryd.func91 rfl fun w0 S0 hT => wsr (oA rfl (rnf (zn (wsr (oM rfl (oV (zp rfl) (oV (z7 rfl zbC zcl) ?_)))))))
 refine oT (zI (R := vecv z6 (a_x.l.length)) ty38 rfl .here isvV1 (oM rfl (zT h fun q2 h => oV (zaH (α := GTyp) sl38 rfl rfl q2.1 q2.2) (oV (zgI rfl GTyp.f1 ze7) (zb h fun y3 hy3 h => oT (zaU ty48 rfl tH hy3 ?_))))))
 refine oV (za2 (l := y3.tags) rfl hI sl48) (oV (zbU rfl rfl) (rnf (zf h rfl (fun _ h => ?_) (fun _ h => ?_))))
 ·refine wsr (oA rfl (rnf (zM (zB ?_))))
  cases h
  exact zo (.tmp rfl .nil) k2 ⟨rfl, rfl⟩
 refine wkf (wsr (oA rfl (rnf (zM ?_))))
 cases h
 exact zo (.tmp rfl .nil) k2 ⟨rfl, rfl⟩


theorem zmn : ∀ {zcw : (List Tag)} {zbq : Int} {zel : Int} {r : (List Tag) × Int}, zeI zcw zbq zel = some r → Ctr Tryd.prog 105 [isv (zcw), isv (zbq), isv (zel)] [] (fun R H => R = oneOf [isv (r.1), isv (r.2)] ∧ H = []) := by
 intro zcw zbq zel r h
 unfold zeI at h
 refine zr Tryd.func105 rfl fun w0 S0 hT => wsr (oA rfl (oA rfl (rnf (zn (wsr (oM rfl (oV (zaj rfl rfl) ?_)))))))
 refine oM rfl (zau (jb 14) je .nil h 3 rfl (fun q1 g1 h => ?_) (fun J2 h hJ2 => ?_))
 ·refine oM rfl (zau (jb 23) je .nil h 8 rfl (fun q4 g4 h => ?_) (fun J5 h hJ5 => ?_))
  ·refine rnf (zf h rfl (fun _ h => ?_) (fun _ h => ?_))
   ·refine wsr (oA rfl (oA rfl (rnf (zM (zB ?_)))))
    cases h
    exact zo (.as rfl (zdt (α := Tag)) (.tmp rfl .nil)) .nil ⟨rfl, rfl⟩
   refine wkf (wsr (oM rfl (oV (zaw (z := (Tag.mk (2 : Int) zbq)) rfl bu57 ze57 (.cons Tag.f0 zi8 rfl hI (.cons Tag.f1 zeN rfl hI .nil))) (oT (zQ (l := ([(Tag.mk (2 : Int) zbq)] : (List Tag))) el48 (.cons rfl hI .nil) rfl rfl (oA rfl (rnf (zn (wsr ?_)))))))))
   refine oM rfl (oV (zal rfl rfl) (rnf (zf h rfl (fun _ h => ?_) (fun _ h => ?_))))
   ·refine wsr (oM rfl (oM rfl (zT h fun q11 h => oV (zfX (l := zcw) rfl hI sl48 (.inr ⟨_, rfl, rfl⟩) (.inl ⟨rfl, rfl⟩) q11.1 q11.2.1 q11.2.2) (zX (zaQ) (zZ h fun q13 h => oT (zbk (l := ([(Tag.mk (2 : Int) zbq)] : (List Tag))) (m := ((zcw.take ((zcw.length : Int)).toNat).drop ((1 : Int)).toNat)) zgu rfl hI rfl hI .here q13 fun t12 => oA rfl ?_))))))
    refine oA rfl (rnf (zM (zB ?_)))
    cases h
    exact zo (.as rfl zK (.tmp rfl .nil)) .nil ⟨rfl, rfl⟩
   refine wkf (wsr (oM rfl (oM rfl (zX (zaQ) (zZ h fun q15 h => oT (zbk (l := ([(Tag.mk (2 : Int) zbq)] : (List Tag))) (m := zcw) zgu rfl hI rfl hI .here q15 fun t14 => oA rfl (oA rfl ?_)))))))
   refine rnf (zM ?_)
   cases h
   exact zo (.as rfl zK (.tmp rfl .nil)) .nil ⟨rfl, rfl⟩
  refine zC (j := 15) h rfl (fun g6 h => ?_) (fun g6 h => ?_)
  ·exact oP 15 rfl rfl g6 (oP 15 rfl rfl g6 (oP 15 rfl rfl g6 (zA rfl (dj := 18) rfl (zA rfl (dj := 18) rfl (zA rfl (dj := 18) rfl (oP 15 rfl rfl g6 (oV (zs rfl g6 rfl) (hJ5 _ () h _ (ji 8 23 rfl rfl rfl)))))))))
  refine oK 15 rfl rfl rfl g6 (zw rfl) (oK 15 rfl rfl rfl g6 (zal rfl rfl) (oK 15 rfl rfl rfl g6 (zw rfl) (zau (jb 22) je .nil h 4 rfl (fun q7 g7 h => ?_) (fun J8 h hJ8 => ?_))))
  ·exact oV (zt rfl g6 rfl) (hJ5 _ () h _ (ji 5 23 rfl rfl rfl))
  refine zC (j := 18) h rfl (fun g9 h => ?_) (fun g9 h => ?_)
  ·exact oK 18 rfl rfl rfl g9 (zw rfl) (oK 18 rfl rfl rfl g9 (za2 (l := zcw) rfl hI sl48) (oK 18 rfl rfl rfl g9 (zal rfl rfl) (oK 15 rfl rfl rfl g6 (zs rfl g9 rfl) (hJ8 _ () h _ (ji 4 22 rfl rfl rfl)))))
  exact oP 18 rfl rfl g9 (oP 18 rfl rfl g9 (oP 18 rfl rfl g9 (oK 15 rfl rfl rfl g6 (zt rfl g9 rfl) (hJ8 _ () h _ (ji 4 22 rfl rfl rfl)))))
 refine zC (j := 11) h rfl (fun g3 h => ?_) (fun g3 h => ?_)
 ·exact oP 11 rfl rfl g3 (oP 11 rfl rfl g3 (oV (zs rfl g3 rfl) (hJ2 _ () h _ (ji 3 14 rfl rfl rfl))))
 exact oK 11 rfl rfl rfl g3 (zw rfl) (oK 11 rfl rfl rfl g3 (zbU rfl rfl) (oV (zt rfl g3 rfl) (hJ2 _ () h _ (ji 3 14 rfl rfl rfl))))


theorem zfs : ∀ {a_x : GMk} {a_i : Int} {zbq : Int} {zel : Int} {zG : Nat} {z6 : Vt} {r : GMk}, zbR a_x a_i zbq zel = some r → Ctr Tryd.prog 92 [ptrv zG (Fld.id (GMod × Vh × Int)), isv (a_i), isv (zbq), isv (zel)] [boxE zG ((a_x.m, (Vh.mk z6 a_x.l.length), a_x.e) : (GMod × Vh × Int)), vecE z6 (a_x.l : List GTyp)] (fun R H => R = oneOf [] ∧ H = [boxE zG ((r.m, (Vh.mk z6 r.l.length), r.e)), vecE z6 (r.l)]) := by
 intro a_x a_i zbq zel zG z6 r h
 unfold zbR at h
 refine zr Tryd.func92 rfl fun w0 S0 hT => zn (wsr (oM rfl (oV (zp rfl) (oV (z7 rfl zb7 zc6) (oT (zI (R := isv (a_x.e)) ty31 rfl .here hI (oV (zb0 rfl rfl) (rnf ?_))))))))
 refine zf h rfl (fun _ h => ?_) (fun _ h => ?_)
 ·refine zM (zB ?_)
  cases h
  exact zo .nil k2 ⟨rfl, rfl⟩
 refine wkf (wsr (oM rfl (oV (zp rfl) (oV (z7 rfl zbC zcl) (oT (zI (R := vecv z6 (a_x.l.length)) ty38 rfl .here isvV1 (oM rfl (zT h fun q2 h => oV (zaH (α := GTyp) sl38 rfl rfl q2.1 q2.2) ?_))))))))
 refine oV (zgI rfl GTyp.f1 ze7) (zb h fun y3 hy3 h => oT (zaU ty48 rfl tH hy3 ?_))
 refine oM rfl (oM rfl (zb h fun y4 hy4 h => oT (zz (zmn hy4) hT (s3 rfl rfl rfl) .nil (oM rfl (oV (zav rfl rfl) (oV (zav rfl rfl) (oA rfl (oA rfl ?_))))))))
 refine rnf (zn (wsr (oM rfl (oV (zb0 rfl rfl) (rnf (zf h rfl (fun _ h => ?_) (fun _ h => ?_)))))))
 ·refine wsr (oM rfl (oM rfl (zb h fun y5 hy5 h => oT (zz (zbc hy5) hT (s2 rfl rfl) k2 (rnf (zM (zB ?_)))))))
  cases h
  exact zo .nil k2 ⟨rfl, rfl⟩
 refine wkf (zj (oM rfl (oV (zp rfl) (oV (z7 rfl zbC zcl) (oT (zI (R := vecv z6 (a_x.l.length)) ty38 rfl .here isvV1 (oM rfl (oM rfl (zT h fun q6 h => ?_)))))))))
 refine oV (zaH (α := GTyp) sl38 rfl rfl q6.1 q6.2) (oV (zgI rfl GTyp.f1 ze7) (zb h fun y7 hy7 h => oT (za8 ty48 rfl rfl tH hy7 (zX (zgt (y := ((a_x.m, (Vh.mk z6 (a_x.l.set a_i.toNat ({ y7 with tags := y4.1 })).length), a_x.e) : (GMod × Vh × Int))) tH (fun S => (Cv.pair Cv.id (Cv.pair (Cv.vhe (by first | rfl | simp)) Cv.id)))) ?_))))
 refine zx (zan .nil k2 ?_)
 cases h
 exact ⟨rfl, rfl⟩


def zgX (f' : (List GTyp) → Int → Option (Bool)) : Prop :=
 ∀ {a_l : (List GTyp)} {a_i : Int} {zc4 : Vt} {r : Bool}, f' a_l a_i = some r → Ctr Tryd.prog 124 [vecv zc4 (a_l.length), isv (a_i)] [vecE zc4 (a_l : List GTyp)] (fun R H => R = oneOf [isv (r)] ∧ H = [vecE zc4 (a_l : List GTyp)])
theorem zkW {zgD : (List GTyp) → Int → Option (Bool)} (zlG : zgX zgD) : ∀ {a_l : (List GTyp)} {a_i : Int} {zc4 : Vt} {r : Bool}, zeG zgD a_l a_i = some r → Ctr Tryd.prog 124 [vecv zc4 (a_l.length), isv (a_i)] [vecE zc4 (a_l : List GTyp)] (fun R H => R = oneOf [isv (r)] ∧ H = [vecE zc4 (a_l : List GTyp)]) := by
 intro a_l a_i zc4 r h
 unfold zeG at h
 refine zr Tryd.func124 rfl fun w0 S0 hT => wsr (oA rfl (rnf (zn (wsr (oM rfl (oM rfl (zT h fun q1 h => ?_)))))))
 refine oV (zaH (α := GTyp) sl38 rfl rfl q1.1 q1.2) (oV (zgI rfl GTyp.f0 zeJ) (zb h fun y2 hy2 h => oT (zaU ty3 rfl .here hy2 ?_)))
 refine oV (zb0 rfl rfl) (oM rfl (zau (jb 21) je .nil h 8 rfl (fun q3 g3 h => ?_) (fun J4 h hJ4 => ?_)))
 ·refine rnf (zf h rfl (fun _ h => ?_) (fun _ h => ?_))
  ·refine wsr (oA rfl (rnf (zM (zB ?_))))
   cases h
   exact zo (.tmp rfl .nil) k1 ⟨rfl, rfl⟩
  refine wkf (wsr (oM rfl (oM rfl (zT h fun q8 h => oV (zaH (α := GTyp) sl38 rfl rfl q8.1 q8.2) (oV (zgI rfl GTyp.f6 zjT) (zb h fun y9 hy9 h => oT (zaU ty4 rfl .here hy9 ?_)))))))
  refine oA rfl (rnf (zn (wsr (oA rfl (rnf (zu (za5 (ι := Bool × Int) (γ := Unit) (fun q10 g10 => [(5, isv (q10.1)), (6, isv (q10.2))]) (fun q10 g10 => []) h () (za (j := 5) rfl hI (za (j := 6) rfl hI zd)) .nil (fun L11 q10 g10 Q32 h hL11 eL11 rL11 => zn ?_))))))))
  refine wsr (oM rfl (oM rfl (oM rfl (zT h fun q22 h => oV (zaH (α := GTyp) sl38 rfl rfl q22.1 q22.2) (oV (zgI rfl GTyp.f4 zch) (zb h fun y23 hy23 h => oT (zaU ty52 rfl .here hy23 ?_)))))))
  refine oV (za2 (l := y23.fields) rfl hI sl52) (oV (zaj rfl rfl) (rnf (zf h rfl (fun _ h => ?_) (fun _ h => ?_))))
  ·refine wkf (zn (zu (zj (oM rfl (oM rfl (zau (jb 50) je .nil h 12 rfl (fun q24 g24 h => ?_) (fun J25 h hJ25 => ?_)))))))
   ·refine oA rfl (zx (zk (zy (zj (oM rfl (zD h fun q31 h => oV (zaf rfl rfl q31) (oA rfl ?_)))))))
    exact zx (hL11 _ () h _ (ze 17 rfl rfl (za (j := 5) rfl hI (za (j := 6) rfl hI zd)) k1))
   refine zC (j := 38) h rfl (fun g26 h => ?_) (fun g26 h => ?_)
   ·refine oP 38 rfl rfl g26 (oP 38 rfl rfl g26 (oP 38 rfl rfl g26 (oP 38 rfl rfl g26 (oP 38 rfl rfl g26 (oP 38 rfl rfl g26 (oP 38 rfl rfl g26 (oP 38 rfl rfl g26 (oP 38 rfl rfl g26 ?_))))))))
    exact oP 38 rfl rfl g26 (oP 38 rfl rfl g26 (oV (zs rfl g26 rfl) (hJ25 _ () h _ (jk 12 50 rfl rfl rfl))))
   refine oK 38 rfl rfl rfl g26 (zw rfl) (oK 38 rfl rfl rfl g26 (zw rfl) (oK 38 rfl rfl rfl g26 (zw rfl) (zT h fun q27 h => oK 38 rfl rfl rfl g26 (zaH (α := GTyp) sl38 rfl rfl q27.1 q27.2) (oK 38 rfl rfl rfl g26 (zgI rfl GTyp.f4 zch) (zb h fun y28 hy28 h => zat rfl rfl (dj := 38) rfl g26 (zaU ty52 rfl .here hy28 ?_))))))
   refine oK 38 rfl rfl rfl g26 (zw rfl) (zb h fun y29 hy29 h => oK 38 rfl rfl rfl g26 (zaG (l := y28.fields) rfl hI rfl sl52 hy29) (oK 38 rfl rfl rfl g26 (zac rfl GFld.f1 zc9 rfl (z := y29.ty)) (oK 38 rfl rfl rfl g26 (zg ty3 rfl) (zb h fun y30 hy30 h => zat rfl rfl (dj := 38) rfl g26 (zz (zlG hy30) hT (.cons rfl (fun _ _ h => vecvE (by first | rfl | simp) _ _ h) (s1 rfl)) k1 ?_)))))
   exact oV (zt rfl g26 rfl) (hJ25 _ () h _ (jk 12 50 rfl rfl rfl))
  refine zad (zU (eL11 _ _ (zH (zy (wsr (oM rfl (oA rfl (rnf ?_))))))))
  refine zM ?_
  cases h
  exact zo (.tmp rfl .nil) k1 ⟨rfl, rfl⟩
 refine zC (j := 13) h rfl (fun g5 h => ?_) (fun g5 h => ?_)
 ·exact oP 13 rfl rfl g5 (oP 13 rfl rfl g5 (oP 13 rfl rfl g5 (oP 13 rfl rfl g5 (oP 13 rfl rfl g5 (oP 13 rfl rfl g5 (oP 13 rfl rfl g5 (oV (zs rfl g5 rfl) (hJ4 _ () h _ (jk 8 21 rfl rfl rfl)))))))))
 refine oK 13 rfl rfl rfl g5 (zw rfl) (oK 13 rfl rfl rfl g5 (zw rfl) (zT h fun q6 h => oK 13 rfl rfl rfl g5 (zaH (α := GTyp) sl38 rfl rfl q6.1 q6.2) (oK 13 rfl rfl rfl g5 (zgI rfl GTyp.f1 ze7) (zb h fun y7 hy7 h => zat rfl rfl (dj := 13) rfl g5 (zaU ty48 rfl .here hy7 ?_)))))
 exact oK 13 rfl rfl rfl g5 (za2 (l := y7.tags) rfl hI sl48) (oK 13 rfl rfl rfl g5 (zbU rfl rfl) (oV (zt rfl g5 rfl) (hJ4 _ () h _ (jk 8 21 rfl rfl rfl))))

theorem zgl : ∀ n, zgX (zgh n)
 | 0 => fun h => (by cases h)
 | n + 1 => zkW (zgl n)
theorem zlW (n : Nat) : zgX (zgh n) := (zgl n)

def zfy (f' : (List GTyp) → Int → Option ((List Tag))) : Prop :=
 ∀ {a_l : (List GTyp)} {a_i : Int} {zc4 : Vt} {r : (List Tag)}, f' a_l a_i = some r → Ctr Tryd.prog 66 [vecv zc4 (a_l.length), isv (a_i)] [vecE zc4 (a_l : List GTyp)] (fun R H => R = oneOf [isv (r)] ∧ H = [vecE zc4 (a_l : List GTyp)])
theorem zjo {zeW : (List GTyp) → Int → Option ((List Tag))} (zks : zfy zeW) : ∀ {a_l : (List GTyp)} {a_i : Int} {zc4 : Vt} {r : (List Tag)}, zdE zeW a_l a_i = some r → Ctr Tryd.prog 66 [vecv zc4 (a_l.length), isv (a_i)] [vecE zc4 (a_l : List GTyp)] (fun R H => R = oneOf [isv (r)] ∧ H = [vecE zc4 (a_l : List GTyp)]) := by
 intro a_l a_i zc4 r h
 unfold zdE at h
 refine zr Tryd.func66 rfl fun w0 S0 hT => wsr (oA rfl (rnf (zn (wsr (oM rfl (oM rfl (zT h fun q1 h => ?_)))))))
 refine oV (zaH (α := GTyp) sl38 rfl rfl q1.1 q1.2) (oV (zgI rfl GTyp.f1 ze7) (zb h fun y2 hy2 h => oT (zaU ty48 rfl .here hy2 ?_)))
 refine oV (za2 (l := y2.tags) rfl hI sl48) (oV (zbU rfl rfl) (rnf (zf h rfl (fun _ h => ?_) (fun _ h => ?_))))
 ·refine wsr (oM rfl (oM rfl (zT h fun q3 h => oV (zaH (α := GTyp) sl38 rfl rfl q3.1 q3.2) (oV (zgI rfl GTyp.f1 ze7) (zb h fun y4 hy4 h => oT (zaU ty48 rfl .here hy4 ?_))))))
  refine zT h fun q5 h => oV (zfX (l := y4.tags) rfl hI sl48 (.inl ⟨rfl, rfl⟩) (.inr ⟨_, rfl, rfl⟩) q5.1 q5.2.1 q5.2.2) (oA rfl (rnf (zM (zB ?_))))
  cases h
  exact zo (.tmp rfl .nil) k1 ⟨rfl, rfl⟩
 refine wkf (wsr (oA rfl (rnf (zn (wsr (oA rfl (rnf (zu ?_))))))))
 refine zfj (zaQ) (za5 (ι := (List Tag) × Int) (γ := Tok) (fun q6 g6 => [(5, appv g6 (q6.1)), (6, isv (q6.2))]) (fun q6 g6 => [tokE g6]) h (none) (za (j := 5) rfl zbs (za (j := 6) rfl hI zd)) k1 (fun L7 q6 g6 Q27 h hL7 eL7 rL7 => zn (wsr (oM rfl (oM rfl (oM rfl (zT h fun q17 h => oV (zaH (α := GTyp) sl38 rfl rfl q17.1 q17.2) ?_)))))))
 refine oV (zgI rfl GTyp.f4 zch) (zb h fun y18 hy18 h => oT (zaU ty52 rfl tH hy18 ?_))
 refine oV (za2 (l := y18.fields) rfl hI sl52) (oV (zaj rfl rfl) (rnf (zf h rfl (fun _ h => ?_) (fun _ h => ?_))))
 ·refine wkf (zn (zu (zj (oM rfl (oM rfl (oM rfl (oM rfl (zT h fun q19 h => ?_))))))))
  refine oV (zaH (α := GTyp) sl38 rfl rfl q19.1 q19.2) (oV (zgI rfl GTyp.f4 zch) (zb h fun y20 hy20 h => oT (zaU ty52 rfl tH hy20 ?_)))
  refine oM rfl (zb h fun y21 hy21 h => oV (zaG (l := y20.fields) rfl hI rfl sl52 hy21) (oV (zac rfl GFld.f1 zc9 rfl (z := y21.ty)) (oV (zg ty3 rfl) (zb h fun y22 hy22 h => oT (zz (zks hy22) hT (.cons rfl (fun _ _ h => vecvE (by first | rfl | simp) _ _ h) (s1 rfl)) (.cons tH .nil) ?_)))))
  refine zZ h fun q24 h => oT (zbk (l := q6.1) (m := y22) zgu rfl hI rfl hI tH q24 fun t23 => oA rfl (zx (zk (zy (zj (oM rfl (zD h fun q25 h => ?_)))))))
  exact oV (zaf rfl rfl q25) (oA rfl (zx (hL7 _ (t23) h _ (ze 27 rfl rfl (za (j := 5) rfl hI (za (j := 6) rfl hI zd)) k2))))
 refine zad (zU (eL7 _ _ (zH (zy (wsr (oM rfl (oA rfl (rnf ?_))))))))
 refine zM ?_
 cases h
 exact zo (.as rfl zK .nil) (.cons tH .nil) ⟨rfl, rfl⟩

theorem zfn : ∀ n, zfy (zeQ n)
 | 0 => fun h => (by cases h)
 | n + 1 => zjo (zfn n)
theorem zkz (n : Nat) : zfy (zeQ n) := (zfn n)

theorem ziO : ∀ {a_l : (List Tag)} {a_x : Tag} {r : Bool}, zdx a_l a_x = some r → Ctr Tryd.prog 126 [isv (a_l), isv (a_x)] [] (fun R H => R = oneOf [isv (r)] ∧ H = []) := by
 intro a_l a_x r h
 unfold zdx at h
 refine zr Tryd.func126 rfl fun w0 S0 hT => wsr (oT (zbA (y := a_x) rfl hI (oA rfl (rnf (zn (wsr (oA rfl (rnf ?_))))))))
 refine zu (za5 (ι := Int) (γ := Unit) (fun q1 g1 => [(5, isv (q1))]) (fun q1 g1 => []) h () (za (j := 5) rfl hI zd) .nil (fun L2 q1 g1 Q7 h hL2 eL2 rL2 => zn (wsr (oM rfl (oM rfl (oV (za2 (l := a_l) rfl hI sl48) (oV (zaj rfl rfl) (rnf ?_))))))))
 refine zf h rfl (fun _ h => ?_) (fun _ h => ?_)
 ·refine wkf (zn (zu (zn (zW (.v 0 (.v 1 (.v 2 (.v 3 (.v 4 (.v 5 .nil)))))) moOrd (by kernel_rfl) ?_))))
  refine rvm rfl rfl (rvm rfl rfl (zb h fun y5 hy5 h => zq rfl (zaG (l := a_l) rfl hI rfl sl48 hy5) (zq rfl (zg ty57 rfl) (zq rfl (zg ty57 rfl) (zq rfl (zco eq57 rfl rfl) (zae (zy ?_)))))))
  refine zf h rfl (fun _ h => ?_) (fun _ h => ?_)
  ·refine wsr (oA rfl (rnf (zM (zE (zB (rL2 _ (zE (zB ?_))))))))
   cases h
   exact zo (.tmp rfl .nil) .nil ⟨rfl, rfl⟩
  refine zY (zk (zy (zj (oM rfl (zD h fun q6 h => oV (zaf rfl rfl q6) (oA rfl (zx ?_)))))))
  exact hL2 _ () h _ (ji 14 5 rfl rfl rfl)
 refine zad (zU (eL2 _ _ (zH (zy (wsr (oA rfl (rnf (zM ?_))))))))
 cases h
 exact zo (.tmp rfl .nil) .nil ⟨rfl, rfl⟩

end Go.Proofs.Q


namespace Go.Proofs.Q
open Go.Sy
set_option maxRecDepth 4000
theorem zin : ∀ {zek : (List (List Tag))} {r : Bool}, zdA zek = some r → Ctr Tryd.prog 125 [isv (zek)] [] (fun R H => R = oneOf [isv (r)] ∧ H = []) := by
 intro zek r h
 unfold zdA at h
 refine zr Tryd.func125 rfl fun w0 S0 hT => wsr (oA rfl (rnf (wsr (oA rfl (rnf (zn (wsr ?_)))))))
 refine oA rfl (rnf (zu (zfj (zaQ) (za5 (ι := (List Tag) × Int) (γ := Tok) (fun q1 g1 => [(3, appv g1 (q1.1)), (4, isv (q1.2))]) (fun q1 g1 => [tokE g1]) h (none) (za (j := 3) rfl zbs (za (j := 4) rfl hI zd)) k1 (fun L2 q1 g1 Q55 h hL2 eL2 rL2 => zn (wsr (oM rfl (oM rfl ?_))))))))
 refine oV (za2 (l := zek) rfl hI sl179) (oV (zaj rfl rfl) (rnf (zf h rfl (fun _ h => ?_) (fun _ h => ?_))))
 ·refine wkf (zn (zu (wsr (oA rfl (rnf (zu (za5 (ι := (List Tag) × Int) (γ := Tok) (fun q29 g29 => [(3, appv g29 (q29.1)), (5, isv (q29.2))]) (fun q29 g29 => [tokE g29]) h (g1) (za (j := 3) rfl hI (za (j := 5) rfl hI zd)) k1 (fun L30 q29 g29 Q53 h hL30 eL30 rL30 => zn ?_))))))))
  refine wsr (oM rfl (oM rfl (oM rfl (zb h fun y42 hy42 h => oV (zaG (l := zek) rfl hI rfl sl179 hy42) (oV (zg ty48 rfl) (oV (za2 (l := y42) rfl hI sl48) (oV (zaj rfl rfl) ?_)))))))
  refine rnf (zf h rfl (fun _ h => ?_) (fun _ h => ?_))
  ·refine wkf (zn (zu (zn (wsr (oM rfl (oM rfl (oM rfl (zb h fun y43 hy43 h => ?_))))))))
   refine oV (zaG (l := zek) rfl hI rfl sl179 hy43) (oV (zg ty48 rfl) (oM rfl (zb h fun y44 hy44 h => oV (zaG (l := y43) rfl hI rfl sl48 hy44) (oV (zg ty57 rfl) (zb h fun y45 hy45 h => oT (zz (ziO hy45) hT (.cons rfl zK (s1 rfl)) .nil (rnf ?_)))))))
   refine zf h rfl (fun _ h => ?_) (fun _ h => ?_)
   ·refine wsr (oA rfl (rnf (zM (zB (zE (zB (rL30 _ (zE ?_))))))))
    refine zE (zB (rL2 _ (zE (zB ?_))))
    cases h
    exact zo (.tmp rfl .nil) .nil ⟨rfl, rfl⟩
   refine wkf (zj (oM rfl (oM rfl (oM rfl (zb h fun y46 hy46 h => oV (zaG (l := zek) rfl hI rfl sl179 hy46) (oV (zg ty48 rfl) (oM rfl ?_)))))))
   refine zb h fun y47 hy47 h => oV (zaG (l := y46) rfl hI rfl sl48 hy47) (oV (zg ty57 rfl) (oT (zQ (l := ([y47] : (List Tag))) el48 (.cons rfl hI .nil) rfl rfl (zZ h fun q50 h => oT (zbk (l := q29.1) (m := ([y47] : (List Tag))) zgu rfl hI rfl zK .here q50 fun t49 => oA rfl (zx (zk ?_)))))))
   exact zy (zj (oM rfl (zD h fun q51 h => oV (zaf rfl rfl q51) (oA rfl (zx (hL30 _ (t49) h _ (ze 32 rfl rfl (za (j := 3) rfl hI (za (j := 5) rfl hI zd)) k1)))))))
  refine zad (zU (eL30 _ _ (zH (zk (zy (zj (oM rfl (zD h fun q52 h => ?_))))))))
  exact oV (zaf rfl rfl q52) (oA rfl (zx (hL2 _ (g29) h _ (ze 19 rfl rfl (za (j := 3) rfl hI (za (j := 4) rfl hI zd)) k1))))
 refine zad (zU (eL2 _ _ (zH (zy (wsr (oA rfl (rnf (zM ?_))))))))
 cases h
 exact zo (.tmp rfl .nil) .nil ⟨rfl, rfl⟩


theorem zdU : ∀ {a_x : GMk} {a_l : (List GFld)} {zg6 : Bool} {zG : Nat} {z6 : Vt} {r : Bool × GMk}, zbv a_x a_l zg6 = some r → Ctr Tryd.prog 119 [ptrv zG (Fld.id (GMod × Vh × Int)), isv (a_l), isv (zg6)] [boxE zG ((a_x.m, (Vh.mk z6 a_x.l.length), a_x.e) : (GMod × Vh × Int)), vecE z6 (a_x.l : List GTyp)] (fun R H => R = oneOf [isv (r.1)] ∧ H = [boxE zG ((r.2.m, (Vh.mk z6 r.2.l.length), r.2.e)), vecE z6 (r.2.l)]) := by
 intro a_x a_l zg6 zG z6 r h
 unfold zbv at h
 refine zr Tryd.func119 rfl fun w0 S0 hT => wsr (oA rfl (rnf (wsr (oA rfl (rnf (zn (wsr ?_)))))))
 refine oA rfl (rnf (zu (zfj (zaQ) (za5 (ι := (List (List Tag)) × Int) (γ := Tok) (fun q2 g2 => [(0, ptrv zG (Fld.id (GMod × Vh × Int))), (7, appv g2 (q2.1)), (8, isv (q2.2))]) (fun q2 g2 => [tokE g2]) h (none) (za (j := 0) rfl hI (za (j := 7) rfl zbs (za (j := 8) rfl hI zd))) k1 (fun L3 q2 g2 Q43 h hL3 eL3 rL3 => zn (wsr (oM rfl (oM rfl ?_))))))))
 refine oV (za2 (l := a_l) rfl hI sl52) (oV (zaj rfl rfl) (rnf (zf h rfl (fun _ h => ?_) (fun _ h => ?_))))
 ·refine wkf (zn (zu (zn (zn (zcG 0 tH rfl (fun o23 hn24 => zW (.v 0 (.v 1 (.v 2 (.v 3 (.v 4 (.v 5 (.v 6 (.v 7 (.v 8 (.t 9 (.v 10 (.v 11 (.v 12 (.v 13 (.v 14 (.v 15 (.v 16 (.v 17 .nil)))))))))))))))))) moOrd (by kernel_rfl) ?_))))))
  refine rvm rfl rfl (zq rfl (zbr rfl) (zq rfl (zft rfl zbC zcl) (zq rfl (zcL (R := vecv z6 (a_x.l.length)) ty38 rfl (List.Mem.head _) isvV1) (rvm rfl rfl (rvm rfl rfl (zb h fun y25 hy25 h => zq rfl (zaG (l := a_l) rfl hI rfl sl52 hy25) (zq rfl (zac rfl GFld.f1 zc9 rfl (z := y25.ty)) ?_)))))))
  refine zq rfl (zg ty3 rfl) (zb h fun y26 hy26 h => zV rfl rfl (zz (zlW fuel hy26) hT (.cons rfl (fun _ _ h => vecvE (by first | rfl | simp) _ _ h) (s1 rfl)) (.cons tH .nil) ?_))
  refine rvm rfl rfl (zeg (jb 32) je .nil h 7 rfl (fun q27 g27 h => ?_) (fun J28 h hJ28 => ?_))
  ·refine zae (zaN 0 hn24 rfl (zy (zf h rfl (fun _ h => ?_) (fun _ h => ?_))))
   ·refine wsr (oA rfl (rnf (zM (zB (zE (zB (rL3 _ (zE ?_))))))))
    refine zB ?_
    cases h
    exact zo (.tmp rfl .nil) k2 ⟨rfl, rfl⟩
   refine wkf (zcG 0 .here rfl (fun o33 hn34 => zW (.v 0 (.v 1 (.v 2 (.v 3 (.v 4 (.v 5 (.v 6 (.v 7 (.v 8 (.v 9 (.t 10 (.t 11 (.t 12 (.v 13 .nil)))))))))))))) moOrd (by kernel_rfl) ?_))
   refine rvm rfl rfl (rvm rfl rfl (zq rfl (zbr rfl) (zq rfl (zft rfl zbC zcl) (zq rfl (zcL (R := vecv z6 (a_x.l.length)) ty38 rfl (List.Mem.head _) isvV1) (rvm rfl rfl (rvm rfl rfl (zb h fun y35 hy35 h => zq rfl (zaG (l := a_l) rfl hI rfl sl52 hy35) ?_)))))))
   refine zq rfl (zac rfl GFld.f1 zc9 rfl (z := y35.ty)) (zq rfl (zg ty3 rfl) (zb h fun y36 hy36 h => zV rfl rfl (zz (zkz fuel hy36) hT (.cons rfl (fun _ _ h => vecvE (by first | rfl | simp) _ _ h) (s1 rfl)) k1 ?_)))
   refine zV rfl rfl (zQ (l := ([y36] : (List (List Tag)))) el179 (.cons rfl hI .nil) rfl rfl (zZ h fun q39 h => zV rfl rfl (zbk (l := q2.1) (m := ([y36] : (List (List Tag)))) znz rfl hI rfl zK tH q39 fun t38 => zq rfl (za1 rfl) (zae (zaN 0 hn34 rfl (zk (zy (zj ?_))))))))
   exact oM rfl (zD h fun q40 h => oV (zaf rfl rfl q40) (oA rfl (zx (hL3 _ (t38) h _ (ze 40 rfl rfl (za (j := 0) rfl hI (za (j := 7) rfl hI (za (j := 8) rfl hI zd))) (.cons tH k2))))))
  refine zaT (j := 25) h rfl (fun g29 h => ?_) (fun g29 h => ?_)
  ·refine rvt 25 rfl rfl rfl g29 (zw rfl) (rvt 25 rfl rfl rfl g29 (zw rfl) (zeg (jb 31) je .nil h 4 rfl (fun q30 g30 h => ?_) (fun J31 h hJ31 => ?_)))
   ·exact zq rfl (zs rfl g29 rfl) (hJ28 _ () h _ (ze 4 rfl rfl (za (j := 32) rfl hI zd) k2))
   refine zaT (j := 27) h rfl (fun g32 h => ?_) (fun g32 h => ?_)
   ·exact rpv 27 rfl rfl rfl g32 (rpv 27 rfl rfl rfl g32 (rpv 27 rfl rfl rfl g32 (rvt 25 rfl rfl rfl g29 (zs rfl g32 rfl) (hJ31 _ () h _ (ze 4 rfl rfl (za (j := 31) rfl hI zd) k2)))))
   exact rvt 27 rfl rfl rfl g32 (zw rfl) (rvt 27 rfl rfl rfl g32 (za2 (l := a_l) rfl hI sl52) (rvt 27 rfl rfl rfl g32 (zbU rfl rfl) (rvt 25 rfl rfl rfl g29 (zt rfl g32 rfl) (hJ31 _ () h _ (ze 4 rfl rfl (za (j := 31) rfl hI zd) k2)))))
  exact rpv 25 rfl rfl rfl g29 (rpv 25 rfl rfl rfl g29 (zet rfl rfl (dj := 27) rfl (zet rfl rfl (dj := 27) rfl (zet rfl rfl (dj := 27) rfl (rpv 25 rfl rfl rfl g29 (zq rfl (zt rfl g29 rfl) (hJ28 _ () h _ (ze 7 rfl rfl (za (j := 32) rfl hI zd) k2))))))))
 refine zad (zU (eL3 _ _ (zH (zy (wsr (oM rfl (zb h fun y41 hy41 h => oT (zz (zin hy41) hT (.cons rfl zK .nil) .nil ?_))))))))
 refine oA rfl (rnf (zM ?_))
 cases h
 exact zo (.tmp rfl .nil) (.cons tH (.cons tH .nil)) ⟨rfl, rfl⟩


theorem zhU : ∀ {a_t : GTyp} {r : (List Bool)}, zex a_t = some r → Ctr Tryd.prog 120 [isv (a_t)] [] (fun R H => R = oneOf [isv (r)] ∧ H = []) := by
 intro a_t r h
 unfold zex at h
 refine zr Tryd.func120 rfl fun w0 S0 hT => wsr (oT (zbA (y := a_t) rfl hI (oA rfl (rnf (wsr (oA rfl (rnf (zn ?_))))))))
 refine wsr (oA rfl (rnf (zu (zfj (zaQ) (za5 (ι := (List Bool) × Int) (γ := Tok) (fun q1 g1 => [(3, appv g1 (q1.1)), (4, isv (q1.2))]) (fun q1 g1 => [tokE g1]) h (none) (za (j := 3) rfl zbs (za (j := 4) rfl hI zd)) k1 (fun L2 q1 g1 Q28 h hL2 eL2 rL2 => zn (wsr (oM rfl ?_))))))))
 refine oV (zac rfl GTyp.f4 zch rfl (z := a_t.fields)) (oV (zg ty52 rfl) (oV (za2 (l := a_t.fields) rfl hI sl52) (oV (zaj rfl rfl) (rnf (zf h rfl (fun _ h => ?_) (fun _ h => ?_))))))
 ·refine wkf (zn (zu (zj (oM rfl (oV (zac rfl GTyp.f4 zch rfl (z := a_t.fields)) (oV (zg ty52 rfl) (oM rfl (zb h fun y15 hy15 h => ?_))))))))
  refine oV (zaG (l := a_t.fields) rfl hI rfl sl52 hy15) (oV (zac rfl GFld.f2 zn9 rfl (z := y15.optional)) (oV (zg ty4 rfl) (oM rfl (zau (jb 26) je .nil h 7 rfl (fun q16 g16 h => ?_) (fun J17 h hJ17 => ?_)))))
  ·refine oM rfl (zau (jb 32) je .nil h 5 rfl (fun q20 g20 h => ?_) (fun J21 h hJ21 => ?_))
   ·refine oT (zQ (l := ([q20] : (List Bool))) el114 (.cons rfl hI .nil) rfl rfl (zZ h fun q25 h => oT (zbk (l := q1.1) (m := ([q20] : (List Bool))) znx rfl hI rfl zK .here q25 fun t24 => oA rfl (zx (zk (zy (zj (oM rfl ?_))))))))
    exact zD h fun q26 h => oV (zaf rfl rfl q26) (oA rfl (zx (hL2 _ (t24) h _ (ze 24 rfl rfl (za (j := 3) rfl hI (za (j := 4) rfl hI zd)) k1))))
   refine zC (j := 27) h rfl (fun g22 h => ?_) (fun g22 h => ?_)
   ·exact oP 27 rfl rfl g22 (oP 27 rfl rfl g22 (oP 27 rfl rfl g22 (oP 27 rfl rfl g22 (oV (zs rfl g22 rfl) (hJ21 _ () h _ (jk 5 32 rfl rfl rfl))))))
   exact oK 27 rfl rfl rfl g22 (zw rfl) (oK 27 rfl rfl rfl g22 (zac rfl GTyp.f5 zhw rfl (z := a_t.root)) (oK 27 rfl rfl rfl g22 (zg ty3 rfl) (oK 27 rfl rfl rfl g22 (ze4 rfl rfl) (oV (zt rfl g22 rfl) (hJ21 _ () h _ (jk 5 32 rfl rfl rfl))))))
  refine zC (j := 19) h rfl (fun g18 h => ?_) (fun g18 h => ?_)
  ·exact oP 19 rfl rfl g18 (oP 19 rfl rfl g18 (oP 19 rfl rfl g18 (oP 19 rfl rfl g18 (oP 19 rfl rfl g18 (oP 19 rfl rfl g18 (oV (zs rfl g18 rfl) (hJ17 _ () h _ (jk 7 26 rfl rfl rfl))))))))
  exact oK 19 rfl rfl rfl g18 (zac rfl GTyp.f4 zch rfl (z := a_t.fields)) (oK 19 rfl rfl rfl g18 (zg ty52 rfl) (oK 19 rfl rfl rfl g18 (zw rfl) (zb h fun y19 hy19 h => oK 19 rfl rfl rfl g18 (zaG (l := a_t.fields) rfl hI rfl sl52 hy19) (oK 19 rfl rfl rfl g18 (zac rfl GFld.f3 zmk rfl (z := y19.has)) (oK 19 rfl rfl rfl g18 (zg ty4 rfl) (oV (zt rfl g18 rfl) (hJ17 _ () h _ (jk 7 26 rfl rfl rfl))))))))
 refine zad (zU (eL2 _ _ (zH (zy (wsr (oM rfl (oA rfl (rnf ?_))))))))
 refine zM ?_
 cases h
 exact zo (.as rfl zK .nil) .nil ⟨rfl, rfl⟩


theorem zlK : ∀ {a_t : GTyp} {r : Int}, zgj a_t = some r → Ctr Tryd.prog 121 [isv (a_t)] [] (fun R H => R = oneOf [isv (r)] ∧ H = []) := by
 intro a_t r h
 unfold zgj at h
 refine zr Tryd.func121 rfl fun w0 S0 hT => wsr (oT (zbA (y := a_t) rfl hI (oA rfl (rnf (wsr (oV (zg ty54 rfl) (zb h fun y1 hy1 h => oT (zz (zhU hy1) hT (s1 rfl) .nil ?_))))))))
 refine oA rfl (rnf (wsr (oV (zac rfl GTyp.f5 zhw rfl (z := a_t.root)) (oV (zg ty3 rfl) (oA rfl (rnf (zn (zu ?_))))))))
 refine za5 (ι := Int) (γ := Unit) (fun q2 g2 => [(4, isv (q2))]) (fun q2 g2 => []) h () (za (j := 4) rfl hI zd) .nil (fun L3 q2 g2 Q16 h hL3 eL3 rL3 => zn (wsr (oM rfl (oV (zbU rfl rfl) (oM rfl (zau (jb 17) je .nil h 6 rfl (fun q10 g10 h => ?_) (fun J11 h hJ11 => ?_)))))))
 ·refine rnf (zf h rfl (fun _ h => ?_) (fun _ h => ?_))
  ·refine wkf (zu (zj (oM rfl (zD h fun q15 h => oV (zbO rfl rfl q15) (oA rfl (zx (zk ?_)))))))
   exact hL3 _ () h _ (ji 8 4 rfl rfl rfl)
  refine zad (zU (eL3 _ _ (zH (zy (wsr (oM rfl (oA rfl (rnf ?_))))))))
  refine zM ?_
  cases h
  exact zo (.tmp rfl .nil) .nil ⟨rfl, rfl⟩
 refine zC (j := 11) h rfl (fun g12 h => ?_) (fun g12 h => ?_)
 ·exact oK 11 rfl rfl rfl g12 (zw rfl) (oK 11 rfl rfl rfl g12 (zw rfl) (zD h fun q13 h => oK 11 rfl rfl rfl g12 (zbO rfl rfl q13) (zb h fun y14 hy14 h => oK 11 rfl rfl rfl g12 (zaG (l := y1) rfl hI rfl sl114 hy14) (oK 11 rfl rfl rfl g12 (zg ty4 rfl) (oV (zs rfl g12 rfl) (hJ11 _ () h _ (ji 6 17 rfl rfl rfl)))))))
 exact oP 11 rfl rfl g12 (oP 11 rfl rfl g12 (oP 11 rfl rfl g12 (oP 11 rfl rfl g12 (oP 11 rfl rfl g12 (oV (zt rfl g12 rfl) (hJ11 _ () h _ (ji 6 17 rfl rfl rfl)))))))


theorem zhm : ∀ {a_x : GMk} {a_t : GTyp} {zG : Nat} {z6 : Vt} {r : Bool × GMk}, zbl a_x a_t = some r → Ctr Tryd.prog 114 [ptrv zG (Fld.id (GMod × Vh × Int)), isv (a_t)] [boxE zG ((a_x.m, (Vh.mk z6 a_x.l.length), a_x.e) : (GMod × Vh × Int)), vecE z6 (a_x.l : List GTyp)] (fun R H => R = oneOf [isv (r.1)] ∧ H = [boxE zG ((r.2.m, (Vh.mk z6 r.2.l.length), r.2.e)), vecE z6 (r.2.l)]) := by
 intro a_x a_t zG z6 r h
 unfold zbl at h
 refine zr Tryd.func114 rfl fun w0 S0 hT => wsr (oT (zbA (y := a_t) rfl hI (oA rfl (rnf (zn (wsr (oV (zac rfl GTyp.f0 zeJ rfl (z := a_t.kind)) (oV (zg ty3 rfl) ?_))))))))
 refine oV (zb0 rfl rfl) (rnf (zf h rfl (fun _ h => ?_) (fun _ h => ?_)))
 ·refine wsr (oM rfl (oV (zac rfl GTyp.f4 zch rfl (z := a_t.fields)) (oV (zg ty52 rfl) (oV (zac rfl GTyp.f6 zjT rfl (z := a_t.more)) (oV (zg ty4 rfl) (zb h fun y2 hy2 h => oT (zz (zdU hy2) hT (s3 rfl rfl rfl) k2 (oA rfl ?_))))))))
  refine rnf (zM (zB ?_))
  cases h
  exact zo (.tmp rfl .nil) k2 ⟨rfl, rfl⟩
 refine wkf (wsr (oV (zg ty54 rfl) (zb h fun y3 hy3 h => oT (zz (zhU hy3) hT (s1 rfl) .nil (oA rfl (rnf (zn (wsr ?_))))))))
 refine oA rfl (rnf (zu (za5 (ι := Int × GMk) (γ := Unit) (fun q4 g4 => [(6, isv (q4.1))]) (fun q4 g4 => [boxE zG ((q4.2.m, (Vh.mk z6 q4.2.l.length), q4.2.e) : (GMod × Vh × Int)), vecE z6 (q4.2.l : List GTyp)]) h () (za (j := 6) rfl hI zd) k2 (fun L5 q4 g4 Q66 h hL5 eL5 rL5 => zn (wsr (oM rfl (oV (zac rfl GTyp.f4 zch rfl (z := a_t.fields)) (oV (zg ty52 rfl) ?_))))))))
 refine oV (za2 (l := a_t.fields) rfl hI sl52) (oV (zaj rfl rfl) (rnf (zf h rfl (fun _ h => ?_) (fun _ h => ?_))))
 ·refine wkf (zn (zc3 (ι := GMk) (γ := Unit) (fun q36 g36 => []) (fun q36 g36 => [boxE zG ((q36.m, (Vh.mk z6 q36.l.length), q36.e) : (GMod × Vh × Int)), vecE z6 (q36.l : List GTyp)]) k2 h (fun q36 g36 h => ?_) (fun J37 h hJ37 => ?_)))
  ·exact zj (oM rfl (zD h fun q59 h => oV (zaf rfl rfl q59) (oA rfl (zx (hL5 _ () h _ (ze 9 rfl rfl (za (j := 6) rfl hI zd) k2))))))
  refine zu (zn (wsr (oM rfl (oM rfl (zb h fun y38 hy38 h => oV (zaG (l := y3) rfl hI rfl sl114 hy38) (oV (zg ty4 rfl) (oV (zbG rfl) ?_)))))))
  refine rnf (zf h rfl (fun _ h => ?_) (fun _ h => ?_))
  ·exact zad (zU (zH (hJ37 _ () h _ (ze 5 rfl rfl zd k2))))
  refine wkf (wsr (oM rfl (zD h fun q39 h => oV (zaf rfl rfl q39) (oA rfl (rnf (zn (zu ?_)))))))
  refine za5 (ι := Int) (γ := Unit) (fun q40 g40 => [(7, isv (q40))]) (fun q40 g40 => []) h () (za (j := 7) rfl hI zd) .nil (fun L41 q40 g40 Q58 h hL41 eL41 rL41 => zn (wsr (oM rfl (oV (zac rfl GTyp.f4 zch rfl (z := a_t.fields)) (oV (zg ty52 rfl) (oV (za2 (l := a_t.fields) rfl hI sl52) (oV (zaj rfl rfl) (oM rfl ?_))))))))
  refine zau (jb 43) je .nil h 5 rfl (fun q50 g50 h => ?_) (fun J51 h hJ51 => ?_)
  ·refine rnf (zf h rfl (fun _ h => ?_) (fun _ h => ?_))
   ·refine wkf (zu (zj (oM rfl (zD h fun q54 h => oV (zaf rfl rfl q54) (oA rfl (zx (zk ?_)))))))
    exact hL41 _ () h _ (ze 11 rfl rfl (za (j := 7) rfl hI zd) k2)
   refine zad (zU (eL41 _ _ (zH (zy (wsr (oM rfl (oV (zac rfl GTyp.f4 zch rfl (z := a_t.fields)) (oV (zg ty52 rfl) ?_))))))))
   refine oM rfl (oM rfl (zD h fun q55 h => oV (zaf rfl rfl q55) (oV (zac rfl GTyp.f4 zch rfl (z := a_t.fields)) (oV (zg ty52 rfl) (oV (za2 (l := a_t.fields) rfl hI sl52) (oV (zpP rfl rfl) (zT h fun q56 h => ?_)))))))
   refine oV (zfX (l := a_t.fields) rfl hI sl52 (.inr ⟨_, rfl, rfl⟩) (.inr ⟨_, rfl, rfl⟩) q56.1 q56.2.1 q56.2.2) (zb h fun y57 hy57 h => oT (zz (zdU hy57) hT (s3 rfl rfl rfl) k2 (oV (zbG rfl) (rnf (zf h rfl (fun _ h => ?_) (fun _ h => ?_))))))
   ·refine wsr (oA rfl (rnf (zM (zE (zB (rL5 _ (zE (zB ?_))))))))
    cases h
    exact zo (.tmp rfl .nil) k2 ⟨rfl, rfl⟩
   exact zY (zk (hJ37 _ () h _ (ze 29 rfl rfl zd k2)))
  refine zC (j := 38) h rfl (fun g52 h => ?_) (fun g52 h => ?_)
  ·exact oK 38 rfl rfl rfl g52 (zw rfl) (oK 38 rfl rfl rfl g52 (zw rfl) (zb h fun y53 hy53 h => oK 38 rfl rfl rfl g52 (zaG (l := y3) rfl hI rfl sl114 hy53) (oK 38 rfl rfl rfl g52 (zg ty4 rfl) (oV (zs rfl g52 rfl) (hJ51 _ () h _ (ze 5 rfl rfl (za (j := 43) rfl hI zd) k2))))))
  exact oP 38 rfl rfl g52 (oP 38 rfl rfl g52 (oP 38 rfl rfl g52 (oP 38 rfl rfl g52 (oV (zt rfl g52 rfl) (hJ51 _ () h _ (ze 5 rfl rfl (za (j := 43) rfl hI zd) k2))))))
 refine zad (zU (eL5 _ _ (zH (zy (zn (zW (.v 0 (.v 1 (.v 2 (.v 3 (.v 4 (.v 5 (.v 6 (.v 7 (.t 8 (.v 9 (.t 10 (.v 11 (.v 12 .nil))))))))))))) moOrd (by kernel_rfl) ?_))))))
 refine zq rfl (zac rfl GTyp.f6 zjT rfl (z := a_t.more)) (zq rfl (zg ty4 rfl) (zq rfl (zbG rfl) (rvm rfl rfl (zeg (ι := Bool × GMk) (γ := Unit) (fun q60 g60 => [(70, isv (q60.1))]) (fun q60 g60 => [boxE zG ((q60.2.m, (Vh.mk z6 q60.2.l.length), q60.2.e) : (GMod × Vh × Int)), vecE z6 (q60.2.l : List GTyp)]) k2 h 8 rfl (fun q60 g60 h => ?_) (fun J61 h hJ61 => ?_)))))
 ·refine zq rfl (za1 rfl) (zae (zy (zM ?_)))
  cases h
  exact zo (.tmp rfl .nil) k2 ⟨rfl, rfl⟩
 refine zaT (j := 62) h rfl (fun g62 h => ?_) (fun g62 h => ?_)
 ·exact rpv 62 rfl rfl rfl g62 (rpv 62 rfl rfl rfl g62 (rpv 62 rfl rfl rfl g62 (rpv 62 rfl rfl rfl g62 (zdG rfl rfl (dj := 62) rfl g62 (rpv 62 rfl rfl rfl g62 (zdG rfl rfl (dj := 62) rfl g62 (zq rfl (zs rfl g62 rfl) (hJ61 _ () h _ (ze 8 rfl rfl (za (j := 70) rfl hI zd) k2)))))))))
 refine rvt 62 rfl rfl rfl g62 (zw rfl) (rvt 62 rfl rfl rfl g62 (zac rfl GTyp.f4 zch rfl (z := a_t.fields)) (rvt 62 rfl rfl rfl g62 (zg ty52 rfl) (rvt 62 rfl rfl rfl g62 (zg ty54 rfl) (zb h fun y63 hy63 h => zhb rfl rfl rfl (dj := 62) rfl g62 (zz (zlK hy63) hT (s1 rfl) .nil (zT h fun q64 h => rvt 62 rfl rfl rfl g62 (zfX (l := a_t.fields) rfl hI sl52 (.inr ⟨_, rfl, rfl⟩) (.inl ⟨rfl, rfl⟩) q64.1 q64.2.1 q64.2.2) (zb h fun y65 hy65 h => ?_)))))))
 exact zhb rfl rfl rfl (dj := 62) rfl g62 (zz (zdU hy65) hT (s3 rfl rfl rfl) k2 (zq rfl (zt rfl g62 rfl) (hJ61 _ () h _ (ze 8 rfl rfl (za (j := 70) rfl hI zd) k2))))


def zcx (f' : GMk → Int → GNode → Int → Option (GMk)) : Prop :=
 ∀ {a_x : GMk} {a_i : Int} {a_n_ : GNode} {zR : Int} {zG : Nat} {z6 : Vt} {r : GMk}, f' a_x a_i a_n_ zR = some r → Ctr Tryd.prog 104 [ptrv zG (Fld.id (GMod × Vh × Int)), isv (a_i), isv (a_n_), isv (zR)] [boxE zG ((a_x.m, (Vh.mk z6 a_x.l.length), a_x.e) : (GMod × Vh × Int)), vecE z6 (a_x.l : List GTyp)] (fun R H => ∃ u1 : Vt, R = oneOf [] ∧ H = [boxE zG ((r.m, (Vh.mk u1 r.l.length), r.e)), vecE u1 (r.l)])
def zcp (f' : GMk → Int → Int → Option (Int × GMk)) : Prop :=
 ∀ {a_x : GMk} {a_k : Int} {zR : Int} {zG : Nat} {z6 : Vt} {r : Int × GMk}, f' a_x a_k zR = some r → Ctr Tryd.prog 60 [ptrv zG (Fld.id (GMod × Vh × Int)), isv (a_k), isv (zR)] [boxE zG ((a_x.m, (Vh.mk z6 a_x.l.length), a_x.e) : (GMod × Vh × Int)), vecE z6 (a_x.l : List GTyp)] (fun R H => ∃ u1 : Vt, R = oneOf [isv (r.1)] ∧ H = [boxE zG ((r.2.m, (Vh.mk u1 r.2.l.length), r.2.e)), vecE u1 (r.2.l)])
def zcS (f' : GMk → GNode → Int → Option (Int × GMk)) : Prop :=
 ∀ {a_x : GMk} {a_n_ : GNode} {zR : Int} {zG : Nat} {z6 : Vt} {r : Int × GMk}, f' a_x a_n_ zR = some r → Ctr Tryd.prog 90 [ptrv zG (Fld.id (GMod × Vh × Int)), isv (a_n_), isv (zR)] [boxE zG ((a_x.m, (Vh.mk z6 a_x.l.length), a_x.e) : (GMod × Vh × Int)), vecE z6 (a_x.l : List GTyp)] (fun R H => ∃ u1 : Vt, R = oneOf [isv (r.1)] ∧ H = [boxE zG ((r.2.m, (Vh.mk u1 r.2.l.length), r.2.e)), vecE u1 (r.2.l)])
theorem zgE {zaE : GMk → Int → GNode → Int → Option (GMk)} {zaD : GMk → Int → Int → Option (Int × GMk)} {zaO : GMk → GNode → Int → Option (Int × GMk)} (zdc : zcx zaE) (zbK : zcp zaD) (zdW : zcS zaO) : ∀ {a_x : GMk} {a_i : Int} {a_n_ : GNode} {zR : Int} {zG : Nat} {z6 : Vt} {r : GMk}, zbn zaE zaD zaO a_x a_i a_n_ zR = some r → Ctr Tryd.prog 104 [ptrv zG (Fld.id (GMod × Vh × Int)), isv (a_i), isv (a_n_), isv (zR)] [boxE zG ((a_x.m, (Vh.mk z6 a_x.l.length), a_x.e) : (GMod × Vh × Int)), vecE z6 (a_x.l : List GTyp)] (fun R H => ∃ u1 : Vt, R = oneOf [] ∧ H = [boxE zG ((r.m, (Vh.mk u1 r.l.length), r.e)), vecE u1 (r.l)]) := by
 intro a_x a_i a_n_ zR zG z6 r h
 unfold zbn at h
 refine zr Tryd.func104 rfl fun w0 S0 hT => wsr (oT (zbA (y := a_n_) rfl hI (rnf (wsr (oM rfl (oV (zp rfl) (oV (z7 rfl zdP zfw) (oV (z7 rfl GMod.f1 zkD) ?_))))))))
 refine oT (zI (R := isv (a_x.m.tagging)) ty3 rfl .here hI (oV (zb0 rfl rfl) (oA rfl (rnf (zn (wsr (oA rfl (rnf (zu ?_)))))))))
 refine za5 (ι := Bool × Int) (γ := Unit) (fun q2 g2 => [(0, ptrv zG (Fld.id (GMod × Vh × Int))), (8, isv (q2.1)), (9, isv (q2.2))]) (fun q2 g2 => []) h () (za (j := 0) rfl hI (za (j := 8) rfl hI (za (j := 9) rfl hI zd))) .nil (fun L3 q2 g2 Q336 h hL3 eL3 rL3 => zn (wsr (oM rfl (oV (zac rfl GNode.f5 zcX rfl (z := a_n_.fields)) (oV (zg ty52 rfl) (oV (za2 (l := a_n_.fields) rfl hI sl52) (oV (zaj rfl rfl) (rnf ?_))))))))
 refine zf h rfl (fun _ h => ?_) (fun _ h => ?_)
 ·refine wkf (zn (zu (wsr (oV (zac rfl GNode.f5 zcX rfl (z := a_n_.fields)) (oV (zg ty52 rfl) (oM rfl (zb h fun y170 hy170 h => oV (zaG (l := a_n_.fields) rfl hI rfl sl52 hy170) ?_)))))))
  refine oV (zg ty65 rfl) (oT (zab _ ze65 fun b171 => oT (zi (y' := (y170 : GFld)) ty65 rfl rfl hI .here rfl (zX (zaq 10 .here rfl) (rnf (zcG 0 .here rfl (fun o172 hn173 => zW (.v 0 (.v 1 (.v 2 (.v 3 (.v 4 (.v 5 (.v 6 (.v 7 (.v 8 (.v 9 (.v 10 (.v 11 (.v 12 (.v 13 (.v 14 .nil))))))))))))))) moOrd (by kernel_rfl) ?_)))))))
  refine rvm rfl rfl (rvm rfl rfl (zeg (jb 46) je .nil h 12 rfl (fun q174 g174 h => ?_) (fun J175 h hJ175 => ?_)))
  ·refine zq rfl (za1 rfl) (zae (zaN 0 hn173 rfl (zk (zy (zj (oM rfl (zD h fun q178 h => oV (zaf rfl rfl q178) ?_)))))))
   exact oA rfl (zx (hL3 _ () h _ (ze 24 rfl rfl (za (j := 0) rfl hI (za (j := 8) rfl hI (za (j := 9) rfl hI zd))) k2)))
  refine zaT (j := 34) h rfl (fun g176 h => ?_) (fun g176 h => ?_)
  ·refine rpv 34 rfl rfl rfl g176 (rpv 34 rfl rfl rfl g176 (rpv 34 rfl rfl rfl g176 (rpv 34 rfl rfl rfl g176 (rpv 34 rfl rfl rfl g176 (rpv 34 rfl rfl rfl g176 (rpv 34 rfl rfl rfl g176 (rpv 34 rfl rfl rfl g176 (rpv 34 rfl rfl rfl g176 ?_))))))))
   exact rpv 34 rfl rfl rfl g176 (rpv 34 rfl rfl rfl g176 (zq rfl (zs rfl g176 rfl) (hJ175 _ () h _ (jk 12 46 rfl rfl rfl))))
  refine rvt 34 rfl rfl rfl g176 (zw rfl) (rvt 34 rfl rfl rfl g176 (zbr rfl) (rvt 34 rfl rfl rfl g176 (zft rfl zdP zfw) (rvt 34 rfl rfl rfl g176 (zft rfl GMod.f4 zfQ) (rvt 34 rfl rfl rfl g176 (zcL (R := isv (a_x.m.nodes)) ty28 rfl (List.Mem.head _) hI) (rvt 34 rfl rfl rfl g176 (zac rfl GFld.f1 zc9 rfl (z := y170.ty)) (rvt 34 rfl rfl rfl g176 (zg ty3 rfl) (zb h fun y177 hy177 h => rvt 34 rfl rfl rfl g176 (zaG (l := a_x.m.nodes) rfl hI rfl sl28 hy177) ?_)))))))
  exact rvt 34 rfl rfl rfl g176 (zac rfl GNode.f2 ze2 rfl (z := y177.mark)) (rvt 34 rfl rfl rfl g176 (zac rfl GMark.f0 zkd rfl (z := y177.mark.has)) (rvt 34 rfl rfl rfl g176 (zg ty4 rfl) (zq rfl (zt rfl g176 rfl) (hJ175 _ () h _ (jk 12 46 rfl rfl rfl)))))
 refine zad (zU (eL3 _ _ (zH (zy (zn (wsr (oV (zac rfl GNode.f0 zbE rfl (z := a_n_.kind)) (oV (zg ty3 rfl) ?_))))))))
 refine oV (zal rfl rfl) (oM rfl (zau (jb 55) je .nil h 5 rfl (fun q179 g179 h => ?_) (fun J180 h hJ180 => ?_)))
 ·refine oM rfl (zau (jb 60) je .nil h 4 rfl (fun q182 g182 h => ?_) (fun J183 h hJ183 => ?_))
  ·refine rnf (zc3 (ι := GMk) (γ := Unit) (fun q185 g185 => []) (fun q185 g185 => [boxE zG ((q185.m, (Vh.mk z6 q185.l.length), q185.e) : (GMod × Vh × Int)), vecE z6 (q185.l : List GTyp)]) k2 h (fun q185 g185 h => ?_) (fun J186 h hJ186 => ?_))
   ·refine wsr (oA rfl (rnf (zn (wsr (oA rfl (rnf (zu (zfj (zaQ) ?_))))))))
    refine za5 (ι := (List GFld) × Int × GMk) (γ := Tok × Vt) (fun q188 g188 => [(11, appv g188.1 (q188.1)), (12, isv (q188.2.1))]) (fun q188 g188 => [tokE g188.1, boxE zG ((q188.2.2.m, (Vh.mk g188.2 q188.2.2.l.length), q188.2.2.e) : (GMod × Vh × Int)), vecE g188.2 (q188.2.2.l : List GTyp)]) h (none, z6) (za (j := 11) rfl zbs (za (j := 12) rfl hI zd)) k3 (fun L189 q188 g188 Q335 h hL189 eL189 rL189 => zn (wsr (oM rfl (oV (zac rfl GNode.f5 zcX rfl (z := a_n_.fields)) (oV (zg ty52 rfl) (oV (za2 (l := a_n_.fields) rfl hI sl52) (oV (zaj rfl rfl) (oM rfl ?_))))))))
    refine zau (jb 74) je .nil h 6 rfl (fun q262 g262 h => ?_) (fun J263 h hJ263 => ?_)
    ·refine rnf (zf h rfl (fun _ h => ?_) (fun _ h => ?_))
     ·refine wkf (zn (zu (wsr (oV (zac rfl GNode.f5 zcX rfl (z := a_n_.fields)) (oV (zg ty52 rfl) (oM rfl (zb h fun y265 hy265 h => oV (zaG (l := a_n_.fields) rfl hI rfl sl52 hy265) ?_)))))))
      refine oV (zg ty65 rfl) (oT (zab _ ze65 fun b266 => oT (zi (y' := (y265 : GFld)) ty65 rfl rfl hI .here rfl (rnf (zn (wsr (oA rfl (rnf (zu ?_)))))))))
      refine za5 (ι := Int × GMk) (γ := Unit) (fun q267 g267 => [(13, ptrv b266 (Fld.id GFld)), (14, isv (q267.1))]) (fun q267 g267 => [boxE zG ((q267.2.m, (Vh.mk g188.2 q267.2.l.length), q267.2.e) : (GMod × Vh × Int)), vecE g188.2 (q267.2.l : List GTyp)]) h () (za (j := 13) rfl hI (za (j := 14) rfl hI zd)) (.cons tI (.cons tI .nil)) (fun L268 q267 g267 Q327 h hL268 eL268 rL268 => zn (wsr (oM rfl (oM rfl (oV (zaj rfl rfl) (rnf (zf h rfl (fun _ h => ?_) (fun _ h => ?_))))))))
      ·refine wkf (zn (zc3 (ι := GMk) (γ := Unit) (fun q298 g298 => [(13, ptrv b266 (Fld.id GFld))]) (fun q298 g298 => [boxE zG ((q298.m, (Vh.mk g188.2 q298.l.length), q298.e) : (GMod × Vh × Int)), vecE g188.2 (q298.l : List GTyp)]) k2 h (fun q298 g298 h => ?_) (fun J299 h hJ299 => ?_)))
       ·exact zj (oM rfl (zD h fun q304 h => oV (zaf rfl rfl q304) (oA rfl (zx (hL268 _ () h _ (ze 9 rfl rfl (za (j := 13) rfl hI (za (j := 14) rfl hI zd)) k4))))))
       refine zu (zn (zcG 13 tI rfl (fun o300 hn301 => zW (.v 0 (.v 1 (.v 2 (.v 3 (.v 4 (.v 5 (.v 6 (.v 7 (.v 8 .nil))))))))) moOrd (by kernel_rfl) ?_)))
       refine zq rfl (zac rfl GNode.f5 zcX rfl (z := a_n_.fields)) (zq rfl (zg ty52 rfl) (rvm rfl rfl (zb h fun y302 hy302 h => zq rfl (zaG (l := a_n_.fields) rfl hI rfl sl52 hy302) (zq rfl (zac rfl GFld.f0 zlR rfl (z := y302.name)) (zq rfl (zg ty9 rfl) (zq rfl (zft rfl GFld.f0 zlR) (zq rfl (zcL (R := isv (y265.name)) ty9 rfl (List.Mem.head _) hI) ?_)))))))
       refine zq rfl (zco eq9 rfl rfl) (zae (zaN 13 hn301 rfl (zy (zf h rfl (fun _ h => ?_) (fun _ h => ?_)))))
       ·exact zj (oM rfl (zb h fun y303 hy303 h => oT (zz (zbc hy303) hT (s2 rfl rfl) (.cons tH (.cons tH .nil)) (zx (zk (hJ299 _ () h _ (ze 13 rfl rfl (za (j := 13) rfl hI zd) k4)))))))
       exact zY (zk (hJ299 _ () h _ (ze 11 rfl rfl (za (j := 13) rfl hI zd) (.cons tH (.cons tH k2)))))
      refine zad (zU (eL268 _ _ (zH (zy (wsr (oM rfl (oV (z7 rfl GFld.f1 zc9) (oT (zI (R := isv (y265.ty)) ty3 rfl tI hI ?_)))))))))
      refine oM rfl (zD h fun q305 h => oV (zaf rfl rfl q305) (zb h fun y306 hy306 h => oT (zL (zbK hy306) hT (s3 rfl rfl rfl) k2 (fun R H' hR => ?_))))
      obtain ⟨v307, rfl, rfl⟩ := hR
      refine oV (z7 rfl GFld.f1 zc9) (oT (zi (y' := ({ y265 with ty := y306.1 } : GFld)) ty3 rfl rfl hI tI rfl (rnf (zn (wsr (oM rfl (oV (zp rfl) (oV (z7 rfl zb7 zc6) (oT (zI (R := isv (y306.2.e)) ty31 rfl tH hI ?_))))))))))
      refine oV (zal rfl rfl) (oM rfl (zau (jb 113) je .nil h 3 rfl (fun q308 g308 h => ?_) (fun J309 h hJ309 => ?_)))
      ·refine rnf (zc3 (ι := GFld × GMk) (γ := Unit) (fun q311 g311 => []) (fun q311 g311 => [boxE b266 (q311.1 : GFld), boxE zG ((q311.2.m, (Vh.mk v307 q311.2.l.length), q311.2.e) : (GMod × Vh × Int)), vecE v307 (q311.2.l : List GTyp)]) k3 h (fun q311 g311 h => ?_) (fun J312 h hJ312 => ?_))
       ·refine zn (wsr (oM rfl (oV (zp rfl) (oV (z7 rfl zb7 zc6) (oT (zI (R := isv (q311.2.e)) ty31 rfl tH hI (oV (zal rfl rfl) (oM rfl (zau (jb 129) je .nil h 3 rfl (fun q314 g314 h => ?_) (fun J315 h hJ315 => ?_))))))))))
        ·refine rnf (zc3 (ι := GMk) (γ := Unit) (fun q317 g317 => [(13, ptrv b266 (Fld.id GFld))]) (fun q317 g317 => [boxE zG ((q317.m, (Vh.mk v307 q317.l.length), q317.e) : (GMod × Vh × Int)), vecE v307 (q317.l : List GTyp)]) (.cons tH (.cons tH .nil)) h (fun q317 g317 h => ?_) (fun J318 h hJ318 => ?_))
         ·refine zj (oM rfl (oT (zI (R := isv (q311.1)) ty65 rfl tI hI (oT (zQ (l := ([q311.1] : (List GFld))) el52 (.cons rfl hI .nil) rfl rfl (zZ h fun q325 h => oT (zbk (l := q188.1) (m := ([q311.1] : (List GFld))) zj7 rfl hI rfl zK (.there tI) q325 fun t324 => oA rfl (zx (zk ?_)))))))))
          exact zy (zj (oM rfl (zD h fun q326 h => oV (zaf rfl rfl q326) (oA rfl (zx (hL189 _ (t324, v307) h _ (ze 51 rfl rfl (za (j := 11) rfl hI (za (j := 12) rfl hI zd)) k3)))))))
         refine zf h rfl (fun _ h => ?_) (fun _ h => ?_)
         ·refine zcG 13 .here rfl (fun o319 hn320 => zW (.v 0 (.v 1 (.v 2 (.v 3 (.v 4 (.v 5 (.v 6 (.t 7 (.t 8 .nil))))))))) moOrd (by kernel_rfl) ?_)
          refine rvm rfl rfl (zq rfl (zft rfl GFld.f1 zc9) (zq rfl (zcL (R := isv (q311.1.ty)) ty3 rfl (List.Mem.head _) hI) (rvm rfl rfl (rvm rfl rfl (zq rfl (zft rfl GFld.f1 zc9) (zq rfl (zcL (R := isv (q311.1.ty)) ty3 rfl (List.Mem.head _) hI) (zb h fun y321 hy321 h => zV rfl rfl (zz (zfk hy321) hT (s2 rfl rfl) k2 ?_))))))))
          exact zb h fun y322 hy322 h => zV rfl rfl (zz (zfs hy322) hT (s4 rfl rfl rfl rfl) k2 (zae (zaN 13 hn320 rfl (hJ318 _ () h _ (ze 11 rfl rfl (za (j := 13) rfl hI zd) (.cons tH (.cons tH k2)))))))
         exact zY (hJ318 _ () h _ (ze 0 rfl rfl (za (j := 13) rfl hI zd) (.cons tH (.cons tH k2))))
        refine zC (j := 126) h rfl (fun g316 h => ?_) (fun g316 h => ?_)
        ·exact oK 126 rfl rfl rfl g316 (zw rfl) (oK 126 rfl rfl rfl g316 (zbG rfl) (oV (zs rfl g316 rfl) (hJ315 _ () h _ (ze 3 rfl rfl (za (j := 129) rfl hI zd) k4))))
        exact oP 126 rfl rfl g316 (oP 126 rfl rfl g316 (oV (zt rfl g316 rfl) (hJ315 _ () h _ (ze 3 rfl rfl (za (j := 129) rfl hI zd) k4))))
       refine zf h rfl (fun _ h => ?_) (fun _ h => ?_)
       ·refine zj (oM rfl (oV (z7 rfl GFld.f1 zc9) (oT (zI (R := isv (y306.1)) ty3 rfl .here hI (oV (z7 rfl GFld.f4 zml) (oT (zI (R := isv (y265.dflt)) ty63 rfl .here hI (zb h fun y313 hy313 h => oT (zz (zgg hy313) hT (s3 rfl rfl rfl) (.cons tH (.cons tH .nil)) (oV (z7 rfl GFld.f4 zml) ?_))))))))))
        exact oT (zi (y' := ({ { y265 with ty := y306.1 } with dflt := y313.1 } : GFld)) ty63 rfl rfl hI tI rfl (zx (hJ312 _ () h _ (ze 7 rfl rfl zd k4))))
       exact zY (hJ312 _ () h _ (ze 0 rfl rfl zd k4))
      refine zC (j := 110) h rfl (fun g310 h => ?_) (fun g310 h => ?_)
      ·exact oK 110 rfl rfl rfl g310 (z7 rfl GFld.f3 zmk) (zat rfl rfl (dj := 110) rfl g310 (zI (R := isv (y265.has)) ty4 rfl .here hI (oV (zs rfl g310 rfl) (hJ309 _ () h _ (ze 3 rfl rfl (za (j := 113) rfl hI zd) k4)))))
      exact oP 110 rfl rfl g310 (oP 110 rfl rfl g310 (oV (zt rfl g310 rfl) (hJ309 _ () h _ (ze 3 rfl rfl (za (j := 113) rfl hI zd) k4))))
     refine zad (zU (eL189 _ _ (zH (zy (wsr (oM rfl (oV (zp rfl) (oV (z7 rfl zb7 zc6) ?_))))))))
     refine oT (zI (R := isv (q188.2.2.e)) ty31 rfl tH hI (oV (zal rfl rfl) (rnf (zf h rfl (fun _ h => ?_) (fun _ h => ?_)))))
     ·refine wsr (oM rfl (oV (zp rfl) (oV (z7 rfl zbC zcl) (oT (zI (R := vecv g188.2 (q188.2.2.l.length)) ty38 rfl tH isvV1 (oM rfl (oM rfl (zT h fun q328 h => oV (zaH (α := GTyp) sl38 rfl rfl q328.1 q328.2) ?_))))))))
      refine oV (zgI rfl GTyp.f4 zch) (zb h fun y329 hy329 h => zX (zai 153 rfl (zK)) (oT (za8 ty52 rfl rfl tI hy329 (zX (zgt (y := ((q188.2.2.m, (Vh.mk g188.2 (q188.2.2.l.set a_i.toNat ({ y329 with fields := q188.1 })).length), q188.2.2.e) : (GMod × Vh × Int))) tI (fun S => (Cv.pair Cv.id (Cv.pair (Cv.vhe (by first | rfl | simp)) Cv.id)))) ?_))))
      refine rnf (wsr (oM rfl (oM rfl (oV (zp rfl) (oV (z7 rfl zbC zcl) (oT (zI (R := vecv g188.2 ((q188.2.2.l.set a_i.toNat ({ y329 with fields := q188.1 })).length)) ty38 rfl .here isvV1 (oM rfl (zT h fun q330 h => ?_)))))))))
      refine oV (zaH (α := GTyp) sl38 rfl rfl q330.1 q330.2) (zb h fun y331 hy331 h => oT (zaU ty54 rfl tH hy331 ?_))
      refine zb h fun y332 hy332 h => oT (zz (zhm hy332) hT (s2 rfl rfl) k2 (oV (zbG rfl) (rnf (zf h rfl (fun _ h => ?_) (fun _ h => ?_)))))
      ·refine zj (oM rfl (zb h fun y333 hy333 h => oT (zz (zbc hy333) hT (s2 rfl rfl) k2 (zx (zan .nil k2 ?_)))))
       cases h
       exact ⟨g188.2, rfl, rfl⟩
      refine zY (zan .nil k2 ?_)
      cases h
      exact ⟨g188.2, rfl, rfl⟩
     refine zY (zan .nil (.cons tH (.cons tH .nil)) ?_)
     cases h
     exact ⟨g188.2, rfl, rfl⟩
    refine zC (j := 68) h rfl (fun g264 h => ?_) (fun g264 h => ?_)
    ·exact oK 68 rfl rfl rfl g264 (zw rfl) (oK 68 rfl rfl rfl g264 (zp rfl) (oK 68 rfl rfl rfl g264 (z7 rfl zb7 zc6) (zat rfl rfl (dj := 68) rfl g264 (zI (R := isv (q188.2.2.e)) ty31 rfl tH hI (oK 68 rfl rfl rfl g264 (zal rfl rfl) (oV (zs rfl g264 rfl) (hJ263 _ () h _ (ze 6 rfl rfl (za (j := 74) rfl hI zd) k3))))))))
    exact oP 68 rfl rfl g264 (oP 68 rfl rfl g264 (oP 68 rfl rfl g264 (oP 68 rfl rfl g264 (oP 68 rfl rfl g264 (oV (zt rfl g264 rfl) (hJ263 _ () h _ (ze 6 rfl rfl (za (j := 74) rfl hI zd) k3)))))))
   refine zf h rfl (fun _ h => ?_) (fun _ h => ?_)
   ·exact zj (oM rfl (zb h fun y187 hy187 h => oT (zz (zbc hy187) hT (s2 rfl rfl) k2 (zx (hJ186 _ () h _ (ze 2 rfl rfl zd k2))))))
   exact zY (hJ186 _ () h _ (ze 0 rfl rfl zd k2))
  refine zC (j := 56) h rfl (fun g184 h => ?_) (fun g184 h => ?_)
  ·exact oK 56 rfl rfl rfl g184 (zac rfl GNode.f7 zep rfl (z := a_n_.more)) (oK 56 rfl rfl rfl g184 (zg ty4 rfl) (oK 56 rfl rfl rfl g184 (zbG rfl) (oV (zs rfl g184 rfl) (hJ183 _ () h _ (ze 4 rfl rfl (za (j := 60) rfl hI zd) k2)))))
  exact oP 56 rfl rfl g184 (oP 56 rfl rfl g184 (oP 56 rfl rfl g184 (oV (zt rfl g184 rfl) (hJ183 _ () h _ (ze 4 rfl rfl (za (j := 60) rfl hI zd) k2)))))
 refine zC (j := 50) h rfl (fun g181 h => ?_) (fun g181 h => ?_)
 ·exact oK 50 rfl rfl rfl g181 (zac rfl GNode.f5 zcX rfl (z := a_n_.fields)) (oK 50 rfl rfl rfl g181 (zg ty52 rfl) (oK 50 rfl rfl rfl g181 (za2 (l := a_n_.fields) rfl hI sl52) (oK 50 rfl rfl rfl g181 (zal rfl rfl) (oV (zs rfl g181 rfl) (hJ180 _ () h _ (ze 5 rfl rfl (za (j := 55) rfl hI zd) k2))))))
 exact oP 50 rfl rfl g181 (oP 50 rfl rfl g181 (oP 50 rfl rfl g181 (oP 50 rfl rfl g181 (oV (zt rfl g181 rfl) (hJ180 _ () h _ (ze 5 rfl rfl (za (j := 55) rfl hI zd) k2))))))

theorem zhc {zaE : GMk → Int → GNode → Int → Option (GMk)} {zaD : GMk → Int → Int → Option (Int × GMk)} {zaO : GMk → GNode → Int → Option (Int × GMk)} (zdc : zcx zaE) (zbK : zcp zaD) (zdW : zcS zaO) : ∀ {a_x : GMk} {a_k : Int} {zR : Int} {zG : Nat} {z6 : Vt} {r : Int × GMk}, zbo zaE zaD zaO a_x a_k zR = some r → Ctr Tryd.prog 60 [ptrv zG (Fld.id (GMod × Vh × Int)), isv (a_k), isv (zR)] [boxE zG ((a_x.m, (Vh.mk z6 a_x.l.length), a_x.e) : (GMod × Vh × Int)), vecE z6 (a_x.l : List GTyp)] (fun R H => ∃ u1 : Vt, R = oneOf [isv (r.1)] ∧ H = [boxE zG ((r.2.m, (Vh.mk u1 r.2.l.length), r.2.e)), vecE u1 (r.2.l)]) := by
 intro a_x a_k zR zG z6 r h
 unfold zbo at h
 refine zr Tryd.func60 rfl fun w0 S0 hT => wsr (oA rfl (rnf (zn (wsr (oM rfl (oV (zp rfl) (oV (z7 rfl zb7 zc6) ?_)))))))
 refine oT (zI (R := isv (a_x.e)) ty31 rfl .here hI (oV (zb0 rfl rfl) (rnf (zf h rfl (fun _ h => ?_) (fun _ h => ?_)))))
 ·refine wsr (oA rfl (rnf (zM (zB (zo (.tmp rfl .nil) k2 ?_)))))
  cases h
  exact ⟨z6, rfl, rfl⟩
 refine wkf (wsr (oM rfl (oV (zp rfl) (oV (z7 rfl zdP zfw) (oV (z7 rfl GMod.f4 zfQ) (oT (zI (R := isv (a_x.m.nodes)) ty28 rfl .here hI (oM rfl (zb h fun y2 hy2 h => ?_)))))))))
 refine oV (zaG (l := a_x.m.nodes) rfl hI rfl sl28 hy2) (oV (zg ty108 rfl) (oT (zab _ ze108 fun b3 => oT (zi (y' := (y2 : GNode)) ty108 rfl rfl hI .here rfl (zX (zaq 7 .here rfl) (rnf (wsr (oA rfl (rnf ?_)))))))))
 refine zn (wsr (oV (zac rfl GNode.f0 zbE rfl (z := y2.kind)) (oV (zg ty3 rfl) (oV (zal rfl rfl) (rnf (zc3 (ι := Int × GMk) (γ := Vt) (fun q4 g4 => [(8, isv (q4.1))]) (fun q4 g4 => [boxE zG ((q4.2.m, (Vh.mk g4 q4.2.l.length), q4.2.e) : (GMod × Vh × Int)), vecE g4 (q4.2.l : List GTyp)]) k2 h (fun q4 g4 h => ?_) (fun J5 h hJ5 => ?_)))))))
 ·refine zn (wsr (oM rfl (oV (zp rfl) (oV (z7 rfl zb7 zc6) (oT (zI (R := isv (q4.2.e)) ty31 rfl .here hI (oV (zal rfl rfl) (oM rfl (zau (jb 56) je .nil h 4 rfl (fun q14 g14 h => ?_) (fun J15 h hJ15 => ?_))))))))))
  ·refine rnf (zc3 (ι := GMk) (γ := Unit) (fun q17 g17 => []) (fun q17 g17 => [boxE zG ((q17.m, (Vh.mk g4 q17.l.length), q17.e) : (GMod × Vh × Int)), vecE g4 (q17.l : List GTyp)]) k2 h (fun q17 g17 h => ?_) (fun J18 h hJ18 => ?_))
   ·refine wsr (oM rfl (oA rfl (rnf (zM (zo (.tmp rfl .nil) k2 ?_)))))
    cases h
    exact ⟨g4, rfl, rfl⟩
   refine zf h rfl (fun _ h => ?_) (fun _ h => ?_)
   ·refine wsr (oA rfl (rnf (zn (zc3 (ι := Int × GMk) (γ := Unit) (fun q19 g19 => [(9, isv (q19.1))]) (fun q19 g19 => [boxE zG ((q19.2.m, (Vh.mk g4 q19.2.l.length), q19.2.e) : (GMod × Vh × Int)), vecE g4 (q19.2.l : List GTyp)]) k2 h (fun q19 g19 h => ?_) (fun J20 h hJ20 => ?_)))))
    ·refine zj (oM rfl (oM rfl (oV (zac rfl GNode.f2 ze2 rfl (z := y2.mark)) (oV (zac rfl GMark.f1 zmv rfl (z := y2.mark.number)) (oV (zg ty3 rfl) (oM rfl (zb h fun y25 hy25 h => oT (zz (zfs hy25) hT (s4 rfl rfl rfl rfl) k2 ?_))))))))
     exact zx (hJ18 _ () h _ (ze 9 rfl rfl zd k2))
    refine zu (wsr (oV (zac rfl GNode.f2 ze2 rfl (z := y2.mark)) (oV (zac rfl GMark.f2 zid rfl (z := y2.mark.mode)) (oV (zg ty3 rfl) (oV (zal rfl rfl) (oA rfl (rnf (zf h rfl (fun _ h => ?_) (fun _ h => ?_)))))))))
    ·exact zj (oA rfl (zx (zk (hJ20 _ () h _ (ze 6 rfl rfl (za (j := 9) rfl hI zd) k2)))))
    refine wsr (oV (zac rfl GNode.f2 ze2 rfl (z := y2.mark)) (oV (zac rfl GMark.f2 zid rfl (z := y2.mark.mode)) (oV (zg ty3 rfl) (oV (zal rfl rfl) (oM rfl (zau (jb 74) je .nil h 7 rfl (fun q21 g21 h => ?_) (fun J22 h hJ22 => ?_)))))))
    ·refine oA rfl (rnf (zf h rfl (fun _ h => ?_) (fun _ h => ?_)))
     ·exact zj (oM rfl (oM rfl (zb h fun y24 hy24 h => oT (zz (zfk hy24) hT (s2 rfl rfl) k2 (oA rfl (zx (zk (hJ20 _ () h _ (ze 16 rfl rfl (za (j := 9) rfl hI zd) k2)))))))))
     exact zY (zk (hJ20 _ () h _ (ze 12 rfl rfl (za (j := 9) rfl hI zd) k2)))
    refine zC (j := 67) h rfl (fun g23 h => ?_) (fun g23 h => ?_)
    ·exact oK 67 rfl rfl rfl g23 (zw rfl) (oK 67 rfl rfl rfl g23 (zp rfl) (oK 67 rfl rfl rfl g23 (z7 rfl zdP zfw) (oK 67 rfl rfl rfl g23 (z7 rfl GMod.f1 zkD) (zat rfl rfl (dj := 67) rfl g23 (zI (R := isv (q4.2.m.tagging)) ty3 rfl .here hI (oK 67 rfl rfl rfl g23 (zb0 rfl rfl) (oV (zs rfl g23 rfl) (hJ22 _ () h _ (ze 7 rfl rfl (za (j := 74) rfl hI zd) k2)))))))))
    exact oP 67 rfl rfl g23 (oP 67 rfl rfl g23 (oP 67 rfl rfl g23 (oP 67 rfl rfl g23 (oP 67 rfl rfl g23 (oP 67 rfl rfl g23 (oV (zt rfl g23 rfl) (hJ22 _ () h _ (ze 7 rfl rfl (za (j := 74) rfl hI zd) k2))))))))
   exact zY (hJ18 _ () h _ (ze 0 rfl rfl zd k2))
  refine zC (j := 52) h rfl (fun g16 h => ?_) (fun g16 h => ?_)
  ·exact oK 52 rfl rfl rfl g16 (zac rfl GNode.f2 ze2 rfl (z := y2.mark)) (oK 52 rfl rfl rfl g16 (zac rfl GMark.f0 zkd rfl (z := y2.mark.has)) (oK 52 rfl rfl rfl g16 (zg ty4 rfl) (oV (zs rfl g16 rfl) (hJ15 _ () h _ (ze 4 rfl rfl (za (j := 56) rfl hI zd) k2)))))
  exact oP 52 rfl rfl g16 (oP 52 rfl rfl g16 (oP 52 rfl rfl g16 (oV (zt rfl g16 rfl) (hJ15 _ () h _ (ze 4 rfl rfl (za (j := 56) rfl hI zd) k2)))))
 refine zf h rfl (fun _ h => ?_) (fun _ h => ?_)
 ·refine zW (.v 0 (.v 1 (.v 2 (.v 3 (.v 4 (.v 6 (.v 7 (.v 8 (.v 10 (.v 11 (.v 15 (.alt 5 (.t 9 (.t 12 (.v 13 (.v 14 (.t 16 (.v 17 .nil)))))) (.t 9 (.alt 5 (.t 12 (.v 13 (.v 14 (.t 16 (.v 17 .nil))))) (.t 12 (.t 5 (.v 13 (.v 14 (.t 16 (.v 17 .nil)))))))))))))))))))) moOrd (by kernel_rfl) ?_
  refine rvm rfl rfl (rvm rfl rfl (zq rfl (zp rfl) (zq rfl (z7 rfl zdP zfw) (zq rfl (z7 rfl GMod.f3 zi0) (rvm rfl rfl (zq rfl (zp rfl) (zq rfl (z7 rfl zdP zfw) (zq rfl (zac rfl GNode.f1 zkc rfl (z := y2.name)) ?_))))))))
  refine zq rfl (zg ty9 rfl) (rvm rfl rfl (zb h fun y6 hy6 h => zb h fun y7 hy7 h => zb h fun y8 hy8 h => zbP ?_ ?_))
  ·refine zV rfl rfl (zI (R := isv (a_x.m.types)) ty22 rfl .here hI (zV rfl rfl (zI (R := isv (a_x.m)) ty30 rfl .here hI (zV rfl rfl (zz (zfL hy6) hT (s2 rfl rfl) .nil (zq rfl (zaG (l := a_x.m.types) rfl hI rfl sl22 hy7) (zq rfl (zg ty3 rfl) (zV rfl rfl (zL (zbK hy8) hT (s3 rfl rfl rfl) k2 (fun R H' hR => ?_))))))))))
   obtain ⟨v9, rfl, rfl⟩ := hR
   exact zq rfl (za1 rfl) (zae (hJ5 _ (v9) h _ (ze 18 rfl rfl (za (j := 8) rfl hI zd) k2)))
  refine zV rfl rfl (zI (R := isv (a_x.m)) ty30 rfl .here hI (zbP ?_ ?_))
  ·refine zV rfl rfl (zI (R := isv (a_x.m.types)) ty22 rfl .here hI (zV rfl rfl (zz (zfL hy6) hT (s2 rfl rfl) .nil (zq rfl (zaG (l := a_x.m.types) rfl hI rfl sl22 hy7) (zq rfl (zg ty3 rfl) (zV rfl rfl (zL (zbK hy8) hT (s3 rfl rfl rfl) k2 (fun R H' hR => ?_))))))))
   obtain ⟨v10, rfl, rfl⟩ := hR
   exact zq rfl (za1 rfl) (zae (hJ5 _ (v10) h _ (ze 18 rfl rfl (za (j := 8) rfl hI zd) k2)))
  refine zV rfl rfl (zz (zfL hy6) hT (s2 rfl rfl) .nil (zV rfl rfl (zI (R := isv (a_x.m.types)) ty22 rfl .here hI (zq rfl (zaG (l := a_x.m.types) rfl hI rfl sl22 hy7) (zq rfl (zg ty3 rfl) (zV rfl rfl (zL (zbK hy8) hT (s3 rfl rfl rfl) k2 (fun R H' hR => ?_))))))))
  obtain ⟨v11, rfl, rfl⟩ := hR
  exact zq rfl (za1 rfl) (zae (hJ5 _ (v11) h _ (ze 18 rfl rfl (za (j := 8) rfl hI zd) k2)))
 refine zj (oM rfl (oV (zg ty108 rfl) (oM rfl (zb h fun y12 hy12 h => oT (zL (zdW hy12) hT (s3 rfl rfl rfl) k2 (fun R H' hR => ?_))))))
 obtain ⟨v13, rfl, rfl⟩ := hR
 exact oA rfl (zx (hJ5 _ (v13) h _ (ze 5 rfl rfl (za (j := 8) rfl hI zd) k2)))

theorem zhj {zaE : GMk → Int → GNode → Int → Option (GMk)} {zaD : GMk → Int → Int → Option (Int × GMk)} {zaO : GMk → GNode → Int → Option (Int × GMk)} (zdc : zcx zaE) (zbK : zcp zaD) (zdW : zcS zaO) : ∀ {a_x : GMk} {a_n_ : GNode} {zR : Int} {zG : Nat} {z6 : Vt} {r : Int × GMk}, zbp zaE zaD zaO a_x a_n_ zR = some r → Ctr Tryd.prog 90 [ptrv zG (Fld.id (GMod × Vh × Int)), isv (a_n_), isv (zR)] [boxE zG ((a_x.m, (Vh.mk z6 a_x.l.length), a_x.e) : (GMod × Vh × Int)), vecE z6 (a_x.l : List GTyp)] (fun R H => ∃ u1 : Vt, R = oneOf [isv (r.1)] ∧ H = [boxE zG ((r.2.m, (Vh.mk u1 r.2.l.length), r.2.e)), vecE u1 (r.2.l)]) := by
 intro a_x a_n_ zR zG z6 r h
 unfold zbp at h
 refine zr Tryd.func90 rfl fun w0 S0 hT => wsr (oT (zbA (y := a_n_) rfl hI (oA rfl (rnf (zn (wsr (oM rfl (oV (zbU rfl rfl) ?_))))))))
 refine oM rfl (zau (jb 20) je .nil h 7 rfl (fun q2 g2 h => ?_) (fun J3 h hJ3 => ?_))
 ·refine rnf (zf h rfl (fun _ h => ?_) (fun _ h => ?_))
  ·refine wsr (oM rfl (zb h fun y5 hy5 h => oT (zz (zbc hy5) hT (s2 rfl rfl) k2 (rnf (wsr (oA rfl (rnf (zM ?_))))))))
   refine zB (zo (.tmp rfl .nil) k2 ?_)
   cases h
   exact ⟨z6, rfl, rfl⟩
  refine wkf (wsr (oM rfl (oV (zp rfl) (oV (z7 rfl zbC zcl) (oT (zI (R := vecv z6 (a_x.l.length)) ty38 rfl .here isvV1 (oV (zgZ sl38 rfl) (oA rfl (rnf ?_)))))))))
  refine wsr (oV (zac rfl GNode.f0 zbE rfl (z := a_n_.kind)) (oV (zg ty3 rfl) (oV (zac rfl GNode.f3 zgA rfl (z := a_n_.con)) (oV (zg ty50 rfl) (oV (zac rfl GNode.f6 zeZ rfl (z := a_n_.root)) (oV (zg ty3 rfl) (oV (zac rfl GNode.f7 zep rfl (z := a_n_.more)) (oV (zg ty4 rfl) ?_))))))))
  refine oV (zaw (z := (GTyp.mk a_n_.kind ([] : (List Tag)) a_n_.con ([] : (List GItem)) ([] : (List GFld)) a_n_.root a_n_.more (0 : Int))) rfl bu54 ze54 (.cons GTyp.f0 zeJ rfl hI (.cons GTyp.f2 zlY rfl hI (.cons GTyp.f5 zhw rfl hI (.cons GTyp.f6 zjT rfl hI .nil))))) (oT (zab _ ze54 fun b6 => oT (zi (y' := ((GTyp.mk a_n_.kind ([] : (List Tag)) a_n_.con ([] : (List GItem)) ([] : (List GFld)) a_n_.root a_n_.more (0 : Int)) : GTyp)) ty54 rfl rfl hI .here rfl (rnf (zn (wsr (oV (zac rfl GNode.f0 zbE rfl (z := a_n_.kind)) (oV (zg ty3 rfl) (oV (zb0 rfl rfl) ?_)))))))))
  refine rnf (zc3 (ι := GTyp) (γ := Unit) (fun q7 g7 => []) (fun q7 g7 => [boxE b6 (q7 : GTyp)]) k1 h (fun q7 g7 h => ?_) (fun J8 h hJ8 => ?_))
  ·refine zn (zc3 (ι := GMk) (γ := Vt) (fun q11 g11 => [(8, anyv)]) (fun q11 g11 => [boxE zG ((q11.m, (Vh.mk g11 q11.l.length), q11.e) : (GMod × Vh × Int)), vecE g11 (q11.l : List GTyp)]) (.cons tH (.cons tH .nil)) h (fun q11 g11 h => ?_) (fun J12 h hJ12 => ?_))
   ·refine zn (wsr (oV (zac rfl GNode.f0 zbE rfl (z := a_n_.kind)) (oV (zg ty3 rfl) (rnf (zc3 (ι := GMk) (γ := Vt) (fun q20 g20 => []) (fun q20 g20 => [boxE zG ((q20.m, (Vh.mk g20 q20.l.length), q20.e) : (GMod × Vh × Int)), vecE g20 (q20.l : List GTyp)]) k2 h (fun q20 g20 h => ?_) (fun J21 h hJ21 => ?_))))))
    ·refine wsr (oM rfl (oA rfl (rnf (zM (zo (.tmp rfl .nil) k2 ?_)))))
     cases h
     exact ⟨g20, rfl, rfl⟩
    refine zu (zn (wsr (oV (zal rfl rfl) (oA rfl (rnf (zc3 (jb 57) je .nil h (fun q22 g22 h => ?_) (fun J23 h hJ23 => ?_)))))))
    ·refine zf h rfl (fun _ h => ?_) (fun _ h => ?_)
     ·refine wsr (oV (zac rfl GNode.f3 zgA rfl (z := a_n_.con)) (oV (zg ty50 rfl) (oV (zac rfl GNode.f0 zbE rfl (z := a_n_.kind)) (oV (zg ty3 rfl) (oV (zb0 rfl rfl) (zb h fun y24 hy24 h => oT (zz (zk3 hy24) hT (s2 rfl rfl) .nil (oA rfl ?_))))))))
      refine rnf (zn (wsr (oM rfl (oV (zb0 rfl rfl) (rnf (zc3 (ι := GMk) (γ := Unit) (fun q25 g25 => []) (fun q25 g25 => [boxE zG ((q25.m, (Vh.mk g11 q25.l.length), q25.e) : (GMod × Vh × Int)), vecE g11 (q25.l : List GTyp)]) k2 h (fun q25 g25 h => ?_) (fun J26 h hJ26 => ?_)))))))
      ·refine wsr (oV (zac rfl GNode.f0 zbE rfl (z := a_n_.kind)) (oV (zg ty3 rfl) (oV (zal rfl rfl) (rnf (zf h rfl (fun _ h => ?_) (fun _ h => ?_))))))
       ·refine wsr (oM rfl (oV (zac rfl GNode.f8 zjZ rfl (z := a_n_.of)) (oV (zg ty3 rfl) (oM rfl (zD h fun q28 h => oV (zaf rfl rfl q28) (zb h fun y29 hy29 h => oT (zL (zbK hy29) hT (s3 rfl rfl rfl) k2 (fun R H' hR => ?_))))))))
        obtain ⟨v30, rfl, rfl⟩ := hR
        refine oA rfl (rnf (wsr (oM rfl (oV (zp rfl) (oV (z7 rfl zb7 zc6) (oT (zI (R := isv (y29.2.e)) ty31 rfl .here hI (oV (zal rfl rfl) (rnf ?_)))))))))
        refine zf h rfl (fun _ h => ?_) (fun _ h => ?_)
        ·refine zj (oM rfl (oV (zp rfl) (oV (z7 rfl zbC zcl) (oT (zI (R := vecv v30 (y29.2.l.length)) ty38 rfl .here isvV1 (oM rfl (oM rfl (zT h fun q31 h => oV (zaH (α := GTyp) sl38 rfl rfl q31.1 q31.2) ?_))))))))
         refine oV (zgI rfl GTyp.f7 zpX) (zb h fun y32 hy32 h => oT (za8 ty3 rfl rfl tH hy32 (zX (zgt (y := ((y29.2.m, (Vh.mk v30 (y29.2.l.set (((a_x.l.length : Nat) : Int).toNat) ({ y32 with of := y29.1 })).length), y29.2.e) : (GMod × Vh × Int))) tH (fun S => (Cv.pair Cv.id (Cv.pair (Cv.vhe (by first | rfl | simp)) Cv.id)))) ?_)))
         exact zx (zk (hJ21 _ (v30) h _ (ze 35 rfl rfl zd k3)))
        exact zY (zk (hJ21 _ (v30) h _ (ze 27 rfl rfl zd k3)))
       exact zY (zk (hJ21 _ (g11) h _ (ze 15 rfl rfl zd k3)))
      refine zf h rfl (fun _ h => ?_) (fun _ h => ?_)
      ·exact zj (oM rfl (oM rfl (zb h fun y27 hy27 h => oT (zz (zbc hy27) hT (s2 rfl rfl) k2 (zx (hJ26 _ () h _ (ze 3 rfl rfl zd k3)))))))
      exact zY (hJ26 _ () h _ (ze 0 rfl rfl zd k3))
     refine wsr (oV (zal rfl rfl) (oA rfl (rnf (zf h rfl (fun _ h => ?_) (fun _ h => ?_)))))
     ·refine zW (.v 0 (.v 1 (.v 2 (.v 4 (.v 5 (.v 6 (.alt 3 (.t 7 (.v 8 (.v 9 (.t 10 .nil)))) (.t 7 (.t 3 (.v 8 (.v 9 (.t 10 .nil)))))))))))) moOrd (by kernel_rfl) ?_
      refine rvm rfl rfl (zq rfl (zp rfl) (zq rfl (z7 rfl zbC zcl) (rvm rfl rfl (rvm rfl rfl (zq rfl (zg ty108 rfl) (zb h fun y33 hy33 h => zT h fun q34 h => zT h fun q35 h => ?_))))))
      refine zb h fun y36 hy36 h => zbP ?_ ?_
      ·refine zV rfl rfl (zI (R := vecv g11 (q11.l.length)) ty38 rfl .here isvV1 (zV rfl rfl (zz (ze1 hy33) hT (s2 rfl rfl) k2 (zq rfl (zaH (α := GTyp) sl38 rfl rfl q35.1 q35.2) (zq rfl (zgI rfl GTyp.f3 zka) (zV rfl rfl (za8 ty51 rfl rfl tH hy36 (zbh (zgt (y := ((y33.2.m, (Vh.mk g11 (y33.2.l.set (((a_x.l.length : Nat) : Int).toNat) ({ y36 with items := y33.1 })).length), y33.2.e) : (GMod × Vh × Int))) tH (fun S => (Cv.pair Cv.id (Cv.pair (Cv.vhe (by first | rfl | simp)) Cv.id)))) ?_))))))))
       exact zae (zk (hJ21 _ (g11) h _ (ze 15 rfl rfl zd k3)))
      refine zV rfl rfl (zz (ze1 hy33) hT (s2 rfl rfl) k2 (zV rfl rfl (zI (R := vecv g11 (y33.2.l.length)) ty38 rfl .here isvV1 (zq rfl (zaH (α := GTyp) sl38 rfl rfl (by omega) (by omega)) ?_))))
      refine zq rfl (zgI rfl GTyp.f3 zka) (zV rfl rfl (za8 ty51 rfl rfl tH hy36 (zbh (zgt (y := ((y33.2.m, (Vh.mk g11 (y33.2.l.set (((a_x.l.length : Nat) : Int).toNat) ({ y36 with items := y33.1 })).length), y33.2.e) : (GMod × Vh × Int))) tH (fun S => (Cv.pair Cv.id (Cv.pair (Cv.vhe (by first | rfl | simp)) Cv.id)))) ?_)))
      exact zae (zk (hJ21 _ (g11) h _ (ze 15 rfl rfl zd k3)))
     refine zn (wsr (oV (zal rfl rfl) (oA rfl (rnf (zc3 (jb 107) je .nil h (fun q37 g37 h => ?_) (fun J38 h hJ38 => ?_))))))
     ·refine zf h rfl (fun _ h => ?_) (fun _ h => ?_)
      ·refine zj (oM rfl (oM rfl (oV (zg ty108 rfl) (oM rfl (zb h fun y39 hy39 h => oT (zL (zdc hy39) hT (s4 rfl rfl rfl rfl) k2 (fun R H' hR => ?_)))))))
       obtain ⟨v40, rfl, rfl⟩ := hR
       exact zx (zk (hJ21 _ (v40) h _ (ze 13 rfl rfl zd k3)))
      exact zY (zk (hJ21 _ (g11) h _ (ze 8 rfl rfl zd k3)))
     refine zf h rfl (fun _ h => ?_) (fun _ h => ?_)
     ·exact zY (hJ38 _ () h _ (ze 0 rfl rfl (za (j := 107) rfl hI zd) k3))
     refine wsr (oV (zal rfl rfl) (oA rfl (rnf (zf h rfl (fun _ h => ?_) (fun _ h => ?_)))))
     ·exact zY (hJ38 _ () h _ (ze 2 rfl rfl (za (j := 107) rfl hI zd) k3))
     exact zj (oV (zal rfl rfl) (oA rfl (zx (hJ38 _ () h _ (ze 4 rfl rfl (za (j := 107) rfl hI zd) k3)))))
    refine zf h rfl (fun _ h => ?_) (fun _ h => ?_)
    ·exact zY (hJ23 _ () h _ (ze 0 rfl rfl (za (j := 57) rfl hI zd) k3))
    refine wsr (oV (zal rfl rfl) (oA rfl (rnf (zf h rfl (fun _ h => ?_) (fun _ h => ?_)))))
    ·exact zY (hJ23 _ () h _ (ze 2 rfl rfl (za (j := 57) rfl hI zd) k3))
    refine wsr (oV (zal rfl rfl) (oA rfl (rnf (zf h rfl (fun _ h => ?_) (fun _ h => ?_)))))
    ·exact zY (hJ23 _ () h _ (ze 4 rfl rfl (za (j := 57) rfl hI zd) k3))
    exact zj (oV (zal rfl rfl) (oA rfl (zx (hJ23 _ () h _ (ze 6 rfl rfl (za (j := 57) rfl hI zd) k3)))))
   refine zcG 8 .here rfl (fun o13 hn14 => zW (.v 0 (.v 1 (.v 2 (.v 3 (.v 5 (.alt 4 (.t 6 (.t 7 (.v 8 (.v 9 (.t 10 .nil))))) (.t 6 (.t 4 (.t 7 (.v 8 (.v 9 (.t 10 .nil)))))))))))) moOrd (by kernel_rfl) ?_)
   refine rvm rfl rfl (rvm rfl rfl (zq rfl (zp rfl) (zq rfl (z7 rfl zbC zcl) (zq rfl (zcL (R := isv (q7)) ty54 rfl (List.Mem.head _) hI) (zZ h fun q17 h => zbP ?_ ?_)))))
   ·refine zV rfl rfl (zI (R := vecv z6 (a_x.l.length)) ty38 rfl .here isvV1 (zV rfl rfl (zQ (l := ([q7] : (List GTyp))) el38 (.cons rfl hI .nil) rfl rfl (zV rfl rfl (zgz (m := ([q7] : (List GTyp))) zmO rfl rfl zK tH (by first | rfl | simp) q17 fun v16 => ?_)))))
    exact zq rfl (zp rfl) (zq rfl (z7 rfl zbC zcl) (zV rfl rfl (zi (y' := ((a_x.m, (Vh.mk v16 (a_x.l ++ ([q7] : (List GTyp))).length), a_x.e) : (GMod × Vh × Int))) ty38 rfl rfl isvV2 tH rfl (zae (zaN 8 hn14 rfl (hJ12 _ (v16) h _ (ze 12 rfl rfl (za (j := 8) rfl (fun _ _ _ => trivial) zd) (.cons tH (.cons tH k1)))))))))
   refine zV rfl rfl (zQ (l := ([q7] : (List GTyp))) el38 (.cons rfl hI .nil) rfl rfl (zV rfl rfl (zI (R := vecv z6 (a_x.l.length)) ty38 rfl .here isvV1 (zV rfl rfl (zgz (m := ([q7] : (List GTyp))) zmO rfl rfl zK tH (by first | rfl | simp) q17 fun v19 => ?_)))))
   exact zq rfl (zp rfl) (zq rfl (z7 rfl zbC zcl) (zV rfl rfl (zi (y' := ((a_x.m, (Vh.mk v19 (a_x.l ++ ([q7] : (List GTyp))).length), a_x.e) : (GMod × Vh × Int))) ty38 rfl rfl isvV2 tH rfl (zae (zaN 8 hn14 rfl (hJ12 _ (v19) h _ (ze 12 rfl rfl (za (j := 8) rfl (fun _ _ _ => trivial) zd) (.cons tH (.cons tH k1)))))))))
  refine zf h rfl (fun _ h => ?_) (fun _ h => ?_)
  ·refine zj (oV (zac rfl GNode.f0 zbE rfl (z := a_n_.kind)) (oV (zg ty3 rfl) (zb h fun y9 hy9 h => oT (zz (zh7 hy9) hT (s1 rfl) .nil (oT (zQ (l := ([y9] : (List Tag))) el48 (.cons rfl hI .nil) rfl rfl (oV (z7 rfl GTyp.f1 ze7) (oT (zi (y' := ((GTyp.mk a_n_.kind ([y9] : (List Tag)) a_n_.con ([] : (List GItem)) ([] : (List GFld)) a_n_.root a_n_.more (0 : Int)) : GTyp)) ty48 rfl rfl zK .here rfl (zx ?_))))))))))
   exact hJ8 _ () h _ (ze 5 rfl rfl zd k3)
  exact zY (hJ8 _ () h _ (ze 0 rfl rfl zd k3))
 refine zC (j := 13) h rfl (fun g4 h => ?_) (fun g4 h => ?_)
 ·exact oP 13 rfl rfl g4 (oP 13 rfl rfl g4 (oP 13 rfl rfl g4 (oP 13 rfl rfl g4 (oP 13 rfl rfl g4 (oP 13 rfl rfl g4 (oV (zs rfl g4 rfl) (hJ3 _ () h _ (ze 7 rfl rfl (za (j := 20) rfl hI zd) k2))))))))
 exact oK 13 rfl rfl rfl g4 (zw rfl) (oK 13 rfl rfl rfl g4 (zp rfl) (oK 13 rfl rfl rfl g4 (z7 rfl zbC zcl) (zat rfl rfl (dj := 13) rfl g4 (zI (R := vecv z6 (a_x.l.length)) ty38 rfl .here isvV1 (oK 13 rfl rfl rfl g4 (zgZ sl38 rfl) (oK 13 rfl rfl rfl g4 (ze4 rfl rfl) (oV (zt rfl g4 rfl) (hJ3 _ () h _ (ze 7 rfl rfl (za (j := 20) rfl hI zd) k2)))))))))

theorem zdH : ∀ n, zcx (zbd n) ∧ zcp (zbu n) ∧ zcS (zbx n)
 | 0 => ⟨fun h => (by cases h), fun h => (by cases h), fun h => (by cases h)⟩
 | n + 1 => by
  obtain ⟨h0, h1, h2⟩ := zdH n
  exact ⟨zgE h0 h1 h2, zhc h0 h1 h2, zhj h0 h1 h2⟩
theorem zfd (n : Nat) : zcp (zbu n) := (zdH n).2.1
theorem zlO : ∀ {a_m : GMod} {r : GTab × Int × Int}, zc1 a_m = some r → Ctr Tryd.prog 35 [isv (a_m)] [] (fun R H => R = oneOf [isv (r.1), isv (r.2.1), isv (r.2.2)] ∧ H = []) := by
 intro a_m r h
 unfold zc1 at h
 refine zr Tryd.func35 rfl fun w0 S0 hT => wsr (oT (zbA (y := a_m) rfl hI (oT (zab _ ze40 fun b1 => oA rfl (oA rfl (rnf (wsr (oV (zg ty30 rfl) ?_))))))))
 refine zb h fun y2 hy2 h => oT (zz (zlz hy2) hT (s1 rfl) .nil (oM rfl (oV (zav rfl rfl) (oV (zav rfl rfl) (oV (zav rfl rfl) (oA rfl (oA rfl (oA rfl ?_))))))))
 refine rnf (zn (wsr (oM rfl (oV (zb0 rfl rfl) (rnf (zf h rfl (fun _ h => ?_) (fun _ h => ?_)))))))
 ·refine wsr (oV (zaw (z := (GTab.mk (Str.mk []) ([] : (List Str)) ([] : (List Int)) ([] : (List GTyp)))) rfl bu40 ze40 .nil) (oM rfl (oM rfl (oT (zi (y' := ((GTab.mk (Str.mk []) ([] : (List Str)) ([] : (List Int)) ([] : (List GTyp))) : GTab)) ty40 rfl rfl hI .here rfl (oA rfl (oA rfl (rnf (zM ?_)))))))))
  refine zB ?_
  cases h
  exact zo (.cell rfl .here ty40 (.tmp rfl (.tmp rfl .nil))) .nil ⟨rfl, rfl⟩
 refine wkf (wsr (oV (zg ty30 rfl) (oV (zaw (z := ((a_m, (Vh.mk none 0), (0 : Int)) : (GMod × Vh × Int))) rfl bu120 zpc (.cons zdP zfw rfl hI .nil)) (oT (zko (y := ((a_m, (Vh.mk none 0), (0 : Int)) : (GMod × Vh × Int))) rfl hI fun b3 => zX (ze5 (α := GTyp)) (oA rfl (rnf (zn ?_))))))))
 refine zc3 (ι := GTab) (γ := Nat × Tok) (fun q5 g5 => [(9, ptrv g5.1 (Fld.id (Str × (List Str) × (TList Int) × (List GTyp))))]) (fun q5 g5 => [boxE g5.1 ((q5.name, q5.names, (TList.mk g5.2 q5.roots), q5.types) : (Str × (List Str) × (TList Int) × (List GTyp))), tokE g5.2]) .nil h (fun q5 g5 h => ?_) (fun J6 h hJ6 => ?_)
 ·refine zn (wsr (oA rfl (rnf (zu (za5 (ι := Int × GTab × GMk) (γ := Tok × Vt) (fun q16 g16 => [(10, isv (q16.1))]) (fun q16 g16 => [boxE g5.1 ((q16.2.1.name, q16.2.1.names, (TList.mk g16.1 q16.2.1.roots), q16.2.1.types) : (Str × (List Str) × (TList Int) × (List GTyp))), tokE g16.1, boxE b3 ((q16.2.2.m, (Vh.mk g16.2 q16.2.2.l.length), q16.2.2.e) : (GMod × Vh × Int)), vecE g16.2 (q16.2.2.l : List GTyp)]) h (g5.2, none) (za (j := 10) rfl hI zd) (.cons .here (.cons .here (.cons tH k1))) (fun L17 q16 g16 Q50 h hL17 eL17 rL17 => zn (wsr (oM rfl ?_))))))))
  refine oV (zac rfl GMod.f2 zdD rfl (z := a_m.names)) (oV (zg ty27 rfl) (oV (za2 (l := a_m.names) rfl hI sl27) (oV (zaj rfl rfl) (rnf (zf h rfl (fun _ h => ?_) (fun _ h => ?_))))))
  ·refine wkf (zn (zu (zn (zc3 (ι := GTab × GMk) (γ := Tok × Vt) (fun q34 g34 => []) (fun q34 g34 => [boxE g5.1 ((q34.1.name, q34.1.names, (TList.mk g34.1 q34.1.roots), q34.1.types) : (Str × (List Str) × (TList Int) × (List GTyp))), tokE g34.1, boxE b3 ((q34.2.m, (Vh.mk g34.2 q34.2.l.length), q34.2.e) : (GMod × Vh × Int)), vecE g34.2 (q34.2.l : List GTyp)]) (.cons .here (.cons tH k2)) h (fun q34 g34 h => ?_) (fun J35 h hJ35 => ?_)))))
   ·refine wsr (oM rfl (oV (zp rfl) (oV (z7 rfl zb7 zc6) (oT (zI (R := isv (q34.2.e)) ty31 rfl tI hI (oV (zb0 rfl rfl) (rnf (zf h rfl (fun _ h => ?_) (fun _ h => ?_)))))))))
    ·refine zn (zcG 8 tI rfl (fun o47 hn48 => zW (.v 0 (.v 1 (.v 2 (.v 3 (.v 4 (.v 5 (.t 6 (.v 7 (.v 8 .nil))))))))) moOrd (by kernel_rfl) ?_))
     refine zq rfl (zaw (z := (GTab.mk (Str.mk []) ([] : (List Str)) ([] : (List Int)) ([] : (List GTyp)))) rfl bu40 ze40 .nil) (rvm rfl rfl (rvm rfl rfl (zq rfl (zbr rfl) (zq rfl (zft rfl zb7 zc6) (zq rfl (zcL (R := isv (q34.2.e)) ty31 rfl (List.Mem.head _) hI) (zV rfl rfl (zi (y' := ((GTab.mk (Str.mk []) ([] : (List Str)) ([] : (List Int)) ([] : (List GTyp))) : GTab)) ty40 rfl rfl hI (.there tI) rfl (zq rfl (za1 rfl) (zq rfl (za1 rfl) ?_)))))))))
     refine zae (zaN 8 hn48 rfl (zy (zM (zE (zB (rL17 _ (zE (zB ?_))))))))
     cases h
     exact zo (.cell rfl tH ty40 (.tmp rfl (.tmp rfl .nil))) .nil ⟨rfl, rfl⟩
    refine zY (zk (zy (zj (oM rfl (zD h fun q49 h => oV (zaf rfl rfl q49) (oA rfl (zx ?_)))))))
    exact hL17 _ (g34.1, g34.2) h _ (ze 14 rfl rfl (za (j := 10) rfl hI zd) (.cons .here k4))
   refine zW (.v 0 (.v 2 (.v 3 (.v 4 (.v 5 (.v 6 (.v 7 (.alt 1 (.t 8 (.t 9 (.t 10 (.v 11 (.t 12 .nil))))) (.t 8 (.alt 1 (.t 9 (.t 10 (.v 11 (.t 12 .nil)))) (.t 9 (.t 1 (.t 10 (.v 11 (.t 12 .nil))))))))))))))) moOrd (by kernel_rfl) ?_
   refine zq rfl (z7 rfl zhk zky) (rvm rfl rfl (zq rfl (zac rfl GMod.f3 zi0 rfl (z := a_m.types)) (zq rfl (zg ty22 rfl) (rvm rfl rfl (zb h fun y36 hy36 h => zq rfl (zaG (l := a_m.types) rfl hI rfl sl22 hy36) (zq rfl (zg ty3 rfl) (zb h fun y37 hy37 h => ?_)))))))
   refine zZ h fun q41 h => zbP ?_ ?_
   ·refine zV rfl rfl (zI (R := appv g16.1 (q16.2.1.roots)) ty22 rfl .here isvT1 (zV rfl rfl (zL (zfd fuel hy37) hT (s3 rfl rfl rfl) (.cons tI (.cons tI .nil)) (fun R H' hR => ?_))))
    obtain ⟨v38, rfl, rfl⟩ := hR
    exact zV rfl rfl (zQ (l := ([y37.1] : (List Int))) el22 (.cons rfl hI .nil) rfl rfl (zV rfl rfl (zbk (l := q16.2.1.roots) (m := ([y37.1] : (List Int))) zcW rfl hI rfl zK (.there tI) q41 fun t40 => zq rfl (z7 rfl zhk zky) (zV rfl rfl (zi (y' := ((q16.2.1.name, q16.2.1.names, (TList.mk t40 (q16.2.1.roots ++ ([y37.1] : (List Int)))), q16.2.1.types) : (Str × (List Str) × (TList Int) × (List GTyp)))) ty22 rfl rfl isvT2 (.there tI) rfl (zae (hJ35 _ (t40, v38) h _ (ze 12 rfl rfl zd (.cons .here k4)))))))))
   refine zV rfl rfl (zL (zfd fuel hy37) hT (s3 rfl rfl rfl) (.cons tI (.cons tI .nil)) (fun R H' hR => ?_))
   obtain ⟨v42, rfl, rfl⟩ := hR
   refine zbP ?_ ?_
   ·exact zV rfl rfl (zI (R := appv g16.1 (q16.2.1.roots)) ty22 rfl tI isvT1 (zV rfl rfl (zQ (l := ([y37.1] : (List Int))) el22 (.cons rfl hI .nil) rfl rfl (zV rfl rfl (zbk (l := q16.2.1.roots) (m := ([y37.1] : (List Int))) zcW rfl hI rfl zK (.there tI) q41 fun t44 => zq rfl (z7 rfl zhk zky) (zV rfl rfl (zi (y' := ((q16.2.1.name, q16.2.1.names, (TList.mk t44 (q16.2.1.roots ++ ([y37.1] : (List Int)))), q16.2.1.types) : (Str × (List Str) × (TList Int) × (List GTyp)))) ty22 rfl rfl isvT2 (.there tI) rfl (zae (hJ35 _ (t44, v42) h _ (ze 12 rfl rfl zd (.cons .here k4)))))))))))
   exact zV rfl rfl (zQ (l := ([y37.1] : (List Int))) el22 (.cons rfl hI .nil) rfl rfl (zV rfl rfl (zI (R := appv g16.1 (q16.2.1.roots)) ty22 rfl tI isvT1 (zV rfl rfl (zbk (l := q16.2.1.roots) (m := ([y37.1] : (List Int))) zcW rfl hI rfl zK (.there tI) q41 fun t46 => zq rfl (z7 rfl zhk zky) (zV rfl rfl (zi (y' := ((q16.2.1.name, q16.2.1.names, (TList.mk t46 (q16.2.1.roots ++ ([y37.1] : (List Int)))), q16.2.1.types) : (Str × (List Str) × (TList Int) × (List GTyp)))) ty22 rfl rfl isvT2 (.there tI) rfl (zae (hJ35 _ (t46, v42) h _ (ze 12 rfl rfl zd (.cons .here k4)))))))))))
  refine zad (zU (eL17 _ _ (zH (zy (wsr (oM rfl (oV (zp rfl) (oV (z7 rfl zbC zcl) ?_))))))))
  refine oT (zI (R := vecv g16.2 (q16.2.2.l.length)) ty38 rfl tI isvV1 (oV (z7 rfl zoj zja) (zX (zfq 64 (.there tI) rfl (by first | rfl | simp)) ?_)))
  refine oT (zi (y' := ((q16.2.1.name, q16.2.1.names, (TList.mk g16.1 q16.2.1.roots), q16.2.2.l) : (Str × (List Str) × (TList Int) × (List GTyp)))) ty38 rfl rfl hI .here rfl (rnf (wsr (oT (zI (y := ((q16.2.1.name, q16.2.1.names, (TList.mk g16.1 q16.2.1.roots), q16.2.2.l) : (Str × (List Str) × (TList Int) × (List GTyp)))) (R := isv (((q16.2.1.name, q16.2.1.names, (TList.mk g16.1 q16.2.1.roots), q16.2.2.l)) : ((Str × (List Str) × (TList Int) × (List GTyp))))) ty40 rfl .here (by exact hI) ?_)))))
  refine zX (zai (R' := isv ((GTab.mk q16.2.1.name q16.2.1.names q16.2.1.roots q16.2.2.l))) 66 rfl (Cv.isv rfl fun S => (fun cs h => GTab.cv (x := (GTab.mk q16.2.1.name q16.2.1.names q16.2.1.roots q16.2.2.l)) cs (((Cv.pair Cv.id (Cv.pair Cv.id (Cv.pair Cv.tl Cv.id))) : Cv S ((q16.2.1.name, q16.2.1.names, (TList.mk g16.1 q16.2.1.roots), q16.2.2.l) : (Str × (List Str) × (TList Int) × (List GTyp))) (GTab.to (GTab.mk q16.2.1.name q16.2.1.names q16.2.1.roots q16.2.2.l))) cs h)))) (oT (zi (y' := ((GTab.mk q16.2.1.name q16.2.1.names q16.2.1.roots q16.2.2.l) : GTab)) ty40 rfl rfl hI (.there tI) rfl (oA rfl (oA rfl (rnf (zM ?_))))))
  cases h
  exact zo (.cell rfl .here ty40 (.tmp rfl (.tmp rfl .nil))) .nil ⟨rfl, rfl⟩
 refine zW (.v 0 (.v 1 (.v 2 (.v 3 (.alt 4 (.v 5 (.t 6 (.t 7 .nil))) (.t 6 (.t 4 (.v 5 (.t 7 .nil))))))))) moOrd (by kernel_rfl) ?_
 refine zq rfl (zac rfl GMod.f0 znH rfl (z := a_m.name)) (zq rfl (zg ty9 rfl) (zq rfl (zac rfl GMod.f2 zdD rfl (z := a_m.names)) (zq rfl (zg ty27 rfl) (zZ h fun q8 h => zbP ?_ ?_))))
 ·exact zV rfl rfl (zlX (m := a_m.names) zkC rfl rfl hI q8 fun t7 => zq rfl (zaw (z := ((a_m.name, (([] : (List Str)) ++ a_m.names), (TList.mk none ([] : (List Int))), ([] : (List GTyp))) : (Str × (List Str) × (TList Int) × (List GTyp)))) rfl bu40 zjP (.cons zkN znU rfl hI (.cons zk4 zoy rfl zK .nil))) (zV rfl rfl (zab _ zjP fun b9 => zbh (zaQ) (zbh (zaQ) (zV rfl rfl (zi (y' := ((a_m.name, (([] : (List Str)) ++ a_m.names), (TList.mk none ([] : (List Int))), ([] : (List GTyp))) : (Str × (List Str) × (TList Int) × (List GTyp)))) ty40 rfl rfl hI tI rfl (zae (hJ6 _ (b9, none) h _ (ze 7 rfl rfl (za (j := 9) rfl hI zd) (.cons .here (.cons .here (.cons tI (.cons tI (.cons tI .nil))))))))))))))
 exact zV rfl rfl (zab _ zjP fun b12 => zbh (zaQ) (zV rfl rfl (zlX (m := a_m.names) zkC rfl rfl hI q8 fun t14 => zq rfl (zaw (z := ((a_m.name, (([] : (List Str)) ++ a_m.names), (TList.mk none ([] : (List Int))), ([] : (List GTyp))) : (Str × (List Str) × (TList Int) × (List GTyp)))) rfl bu40 zjP (.cons zkN znU rfl hI (.cons zk4 zoy rfl zK .nil))) (zbh (zaQ) (zV rfl rfl (zi (y' := ((a_m.name, (([] : (List Str)) ++ a_m.names), (TList.mk none ([] : (List Int))), ([] : (List GTyp))) : (Str × (List Str) × (TList Int) × (List GTyp)))) ty40 rfl rfl hI (.there tI) rfl (zae (hJ6 _ (b12, none) h _ (ze 7 rfl rfl (za (j := 9) rfl hI zd) (.cons .here (.cons .here (.cons tI (.cons tI (.cons tI .nil))))))))))))))


theorem zeV : ∀ {zbe : Str} {r : GTab × Bool}, zaX zbe = some r → Ctr Tryd.prog 13 [isv (zbe)] [] (fun R H => R = oneOf [isv (r.1), isv (r.2)] ∧ H = []) := by
 intro zbe r h
 unfold zaX at h
 refine zr Tryd.func13 rfl fun w0 S0 hT => wsr (oT (zab _ ze40 fun b1 => oA rfl (rnf (zn (wsr (oM rfl (oV (zdb st9 rfl) ?_)))))))
 refine oV (zbU rfl rfl) (rnf (zf h rfl (fun _ h => ?_) (fun _ h => ?_)))
 ·refine wsr (oV (zaw (z := (GTab.mk (Str.mk []) ([] : (List Str)) ([] : (List Int)) ([] : (List GTyp)))) rfl bu40 ze40 .nil) (oT (zi (y' := ((GTab.mk (Str.mk []) ([] : (List Str)) ([] : (List Int)) ([] : (List GTyp))) : GTab)) ty40 rfl rfl hI .here rfl (oA rfl (rnf (zM (zB ?_)))))))
  cases h
  exact zo (.cell rfl .here ty40 (.tmp rfl .nil)) .nil ⟨rfl, rfl⟩
 refine wkf (wsr (oM rfl (zb h fun y2 hy2 h => oT (zz (zkP hy2) hT (s1 rfl) .nil (oM rfl (oV (zav rfl rfl) (oV (zav rfl rfl) (oV (zav rfl rfl) ?_))))))))
 refine oT (zab _ ze30 fun b3 => oT (zi (y' := (y2.1 : GMod)) ty30 rfl rfl hI .here rfl (zX (zaq 4 .here rfl) (oA rfl (oA rfl (rnf (zn (wsr (oM rfl ?_)))))))))
 refine oV (zb0 rfl rfl) (rnf (zf h rfl (fun _ h => ?_) (fun _ h => ?_)))
 ·refine wsr (oV (zaw (z := (GTab.mk (Str.mk []) ([] : (List Str)) ([] : (List Int)) ([] : (List GTyp)))) rfl bu40 ze40 .nil) (oT (zi (y' := ((GTab.mk (Str.mk []) ([] : (List Str)) ([] : (List Int)) ([] : (List GTyp))) : GTab)) ty40 rfl rfl hI .here rfl (oA rfl (rnf (zM (zB ?_)))))))
  cases h
  exact zo (.cell rfl .here ty40 (.tmp rfl .nil)) .nil ⟨rfl, rfl⟩
 refine wkf (wsr (oV (zg ty30 rfl) (zb h fun y4 hy4 h => oT (zz (zlO hy4) hT (s1 rfl) .nil (oM rfl (oV (zav rfl rfl) (oV (zav rfl rfl) (oV (zav rfl rfl) ?_))))))))
 refine oT (zab _ ze40 fun b5 => oT (zi (y' := (y4.1 : GTab)) ty40 rfl rfl hI .here rfl (zX (zaq 7 .here rfl) (oA rfl (oA rfl (rnf (zn (zW (.v 0 (.v 1 (.v 2 (.v 3 (.v 4 (.v 5 (.v 6 (.v 7 (.v 8 (.t 9 (.v 10 .nil))))))))))) moOrd (by kernel_rfl) ?_))))))))
 refine zq rfl (zg ty40 rfl) (rvm rfl rfl (zq rfl (zal rfl rfl) (rvm rfl rfl (zeg (jb 37) je .nil h 5 rfl (fun q6 g6 h => ?_) (fun J7 h hJ7 => ?_)))))
 ·refine zV rfl rfl (zi (y' := (y4.1 : GTab)) ty40 rfl rfl hI .here rfl (zq rfl (za1 rfl) (zae (zy (zM ?_)))))
  cases h
  exact zo (.cell rfl .here ty40 (.tmp rfl .nil)) .nil ⟨rfl, rfl⟩
 refine zaT (j := 32) h rfl (fun g8 h => ?_) (fun g8 h => ?_)
 ·exact rvt 32 rfl rfl rfl g8 (zac rfl GTab.f3 zja rfl (z := y4.1.types)) (rvt 32 rfl rfl rfl g8 (zg ty38 rfl) (rvt 32 rfl rfl rfl g8 (za2 (l := y4.1.types) rfl hI sl38) (rvt 32 rfl rfl rfl g8 (zlp rfl rfl) (zq rfl (zs rfl g8 rfl) (hJ7 _ () h _ (jk 5 37 rfl rfl rfl))))))
 exact rpv 32 rfl rfl rfl g8 (rpv 32 rfl rfl rfl g8 (rpv 32 rfl rfl rfl g8 (rpv 32 rfl rfl rfl g8 (zq rfl (zt rfl g8 rfl) (hJ7 _ () h _ (jk 5 37 rfl rfl rfl))))))

end Go.Proofs.Q


namespace Go.Proofs.Q
open Go.Sy
set_option maxRecDepth 4000
theorem zgL : ∀ {a_t : GTab} {a_i : Int} {r : GTyp}, zdj a_t a_i = some r → Ctr Tryd.prog 36 [isv (a_t), isv (a_i)] [] (fun R H => R = oneOf [isv (r)] ∧ H = []) := by
 intro a_t a_i r h
 unfold zdj at h
 refine zr Tryd.func36 rfl fun w0 S0 hT => wsr (oT (zbA (y := a_t) rfl hI (oT (zab _ ze54 fun b1 => rnf (zn (wsr (oM rfl (oV (zaj rfl rfl) ?_))))))))
 refine oM rfl (zau (jb 13) je .nil h 6 rfl (fun q2 g2 h => ?_) (fun J3 h hJ3 => ?_))
 ·refine rnf (zf h rfl (fun _ h => ?_) (fun _ h => ?_))
  ·refine wsr (oV (zaw (z := (GTyp.mk (0 : Int) ([] : (List Tag)) (GCon.mk false false false false (0 : Int) (0 : Int)) ([] : (List GItem)) ([] : (List GFld)) (0 : Int) false (0 : Int))) rfl bu54 ze54 .nil) (oT (zi (y' := ((GTyp.mk (0 : Int) ([] : (List Tag)) (GCon.mk false false false false (0 : Int) (0 : Int)) ([] : (List GItem)) ([] : (List GFld)) (0 : Int) false (0 : Int)) : GTyp)) ty54 rfl rfl hI .here rfl (rnf (zM (zB ?_))))))
   cases h
   exact zo (.cell rfl .here ty54 .nil) .nil ⟨rfl, rfl⟩
  refine wkf (wsr (oV (zac rfl GTab.f3 zja rfl (z := a_t.types)) (oV (zg ty38 rfl) (oM rfl (zb h fun y5 hy5 h => oV (zaG (l := a_t.types) rfl hI rfl sl38 hy5) (oV (zg ty54 rfl) (oT (zi (y' := (y5 : GTyp)) ty54 rfl rfl hI .here rfl ?_))))))))
  refine rnf (zM ?_)
  cases h
  exact zo (.cell rfl .here ty54 .nil) .nil ⟨rfl, rfl⟩
 refine zC (j := 7) h rfl (fun g4 h => ?_) (fun g4 h => ?_)
 ·exact oP 7 rfl rfl g4 (oP 7 rfl rfl g4 (oP 7 rfl rfl g4 (oP 7 rfl rfl g4 (oP 7 rfl rfl g4 (oV (zs rfl g4 rfl) (hJ3 _ () h _ (jk 6 13 rfl rfl rfl)))))))
 exact oK 7 rfl rfl rfl g4 (zw rfl) (oK 7 rfl rfl rfl g4 (zac rfl GTab.f3 zja rfl (z := a_t.types)) (oK 7 rfl rfl rfl g4 (zg ty38 rfl) (oK 7 rfl rfl rfl g4 (za2 (l := a_t.types) rfl hI sl38) (oK 7 rfl rfl rfl g4 (ze4 rfl rfl) (oV (zt rfl g4 rfl) (hJ3 _ () h _ (jk 6 13 rfl rfl rfl)))))))


theorem zds : ∀ {zdI : Int} {a_to : Int} {r : (List Int)}, zcf zdI a_to = some r → Ctr Tryd.prog 37 [isv (zdI), isv (a_to)] [] (fun R H => ∃ u1 : Vt, R = oneOf [vecv u1 ((r).length)] ∧ H = [vecE u1 (r)]) := by
 intro zdI a_to r h
 unfold zcf at h
 refine zr Tryd.func37 rfl fun w0 S0 hT => wsr (oA rfl (zX (ze5 (α := Int)) (zX (zai 4 rfl nilvV) (rnf (wsr (oA rfl (zX (ze5 (α := Int)) ?_)))))))
 refine zX (zai 5 rfl nilvV) (rnf (zn (wsr (oM rfl (oA rfl (rnf (zu (za5 (ι := (List Int) × Int) (γ := Vt) (fun q3 g3 => [(5, vecv g3 (q3.1.length)), (6, isv (q3.2))]) (fun q3 g3 => [vecE g3 (q3.1 : List Int)]) h (none) (za (j := 5) rfl (vecvE (by first | rfl | simp)) (za (j := 6) rfl hI zd)) k1 (fun L4 q3 g3 Q13 h hL4 eL4 rL4 => ?_)))))))))
 refine zn (wsr (oM rfl (oM rfl (oV (zaj rfl rfl) (rnf (zf h rfl (fun _ h => ?_) (fun _ h => ?_)))))))
 ·refine wkf (zn (zu (zj (oM rfl (oM rfl (oT (zQ (l := ([q3.2] : (List Int))) el22 (.cons rfl hI .nil) rfl rfl (zZ h fun q11 h => oT (zgz (m := ([q3.2] : (List Int))) zcW rfl rfl zK .here (by first | rfl | simp) q11 fun v10 => ?_)))))))))
  refine oA rfl (zx (zk (zy (zj (oM rfl (zD h fun q12 h => oV (zaf rfl rfl q12) (oA rfl ?_)))))))
  exact zx (hL4 _ (v10) h _ (ze 13 rfl rfl (za (j := 5) rfl (vecvE (by first | rfl | simp)) (za (j := 6) rfl hI zd)) k2))
 refine zad (zU (eL4 _ _ (zH (zy (wsr (oM rfl (oA rfl (rnf ?_))))))))
 refine zM (zo (.as rfl (vecvE (by first | rfl | simp)) .nil) k1 ?_)
 cases h
 exact ⟨g3, rfl, rfl⟩


theorem zfp : ∀ {a_x : GTyp} {a_a1 : (List Tag)} {zkp : Nat} {t_a_a11 : Tok} {r : (List Tag)}, zcH a_x a_a1 = some r → Ctr Tryd.prog 109 [isv (a_x), ptrv zkp (Fld.id (TList Tag))] [boxE zkp ((TList.mk t_a_a11 a_a1) : (TList Tag)), tokE t_a_a11] (fun R H => ∃ u1 : Tok, R = oneOf [] ∧ H = [boxE zkp ((TList.mk u1 r)), tokE u1]) := by
 intro a_x a_a1 zkp t_a_a11 r h
 unfold zcH at h
 refine zr Tryd.func109 rfl fun w0 S0 hT => wsr (oT (zbA (y := a_x) rfl hI (rnf (wsr (oV (zac rfl GTyp.f1 ze7 rfl (z := a_x.tags)) (oV (zg ty48 rfl) (oV (za2 (l := a_x.tags) rfl hI sl48) (oV (zbU rfl rfl) ?_))))))))
 refine rnf (zf h rfl (fun _ h => ?_) (fun _ h => ?_))
 ·refine zW (.v 1 (.v 2 (.v 3 (.v 4 (.alt 0 (.t 5 (.t 6 (.t 7 .nil))) (.t 5 (.t 0 (.t 6 (.t 7 .nil))))))))) moOrd (by kernel_rfl) ?_
  refine zq rfl (zac rfl GTyp.f1 ze7 rfl (z := a_x.tags)) (zq rfl (zg ty48 rfl) (zb h fun y2 hy2 h => zq rfl (zaG (l := a_x.tags) rfl hI rfl sl48 hy2) (zq rfl (zg ty57 rfl) (zZ h fun q5 h => zbP ?_ ?_))))
  ·refine zV rfl rfl (zI (R := appv t_a_a11 (a_a1)) ty48 rfl .here isvT1 (zV rfl rfl (zQ (l := ([y2] : (List Tag))) el48 (.cons rfl hI .nil) rfl rfl (zV rfl rfl (zbk (l := a_a1) (m := ([y2] : (List Tag))) zgu rfl hI rfl zK tH q5 fun t4 => zV rfl rfl (zi (y' := ((TList.mk t4 (a_a1 ++ ([y2] : (List Tag)))) : (TList Tag))) ty48 rfl rfl isvT2 tH rfl (zae (zan .nil k2 ?_))))))))
   cases h
   exact ⟨t4, rfl, rfl⟩
  refine zV rfl rfl (zQ (l := ([y2] : (List Tag))) el48 (.cons rfl hI .nil) rfl rfl (zV rfl rfl (zI (R := appv t_a_a11 (a_a1)) ty48 rfl .here isvT1 (zV rfl rfl (zbk (l := a_a1) (m := ([y2] : (List Tag))) zgu rfl hI rfl zK tH q5 fun t7 => zV rfl rfl (zi (y' := ((TList.mk t7 (a_a1 ++ ([y2] : (List Tag)))) : (TList Tag))) ty48 rfl rfl isvT2 tH rfl (zae (zan .nil k2 ?_))))))))
  cases h
  exact ⟨t7, rfl, rfl⟩
 refine zY (zan .nil k2 ?_)
 cases h
 exact ⟨t_a_a11, rfl, rfl⟩


def zcZ (f' : GTys → Int → Int → (List Tag) → Option (GTys × Int × (List Tag))) : Prop :=
 ∀ {a_t : GTys} {zem : Int} {zdg : Int} {zeo : (List Tag)} {zeS : Nat} {zdv : Nat} {zcT : Nat} {t_a_do__01 : Tok} {r : GTys × Int × (List Tag)}, f' a_t zem zdg zeo = some r → Ctr Tryd.prog 108 [ptrv zeS (Fld.id GTys), isv (zem), ptrv zdv (Fld.id Int), clov 109 [ptrv zcT (Fld.id (TList Tag))]] [boxE zeS (a_t : GTys), boxE zdv (zdg : Int), boxE zcT ((TList.mk t_a_do__01 zeo) : (TList Tag)), tokE t_a_do__01] (fun R H => ∃ u1 : Tok, R = oneOf [] ∧ H = [boxE zeS (r.1), boxE zdv (r.2.1), boxE zcT ((TList.mk u1 r.2.2)), tokE u1])
theorem zf6 {zcv : GTys → Int → Int → (List Tag) → Option (GTys × Int × (List Tag))} (zgH : zcZ zcv) : ∀ {a_t : GTys} {zem : Int} {zdg : Int} {zeo : (List Tag)} {zeS : Nat} {zdv : Nat} {zcT : Nat} {t_a_do__01 : Tok} {r : GTys × Int × (List Tag)}, zc0 zcv a_t zem zdg zeo = some r → Ctr Tryd.prog 108 [ptrv zeS (Fld.id GTys), isv (zem), ptrv zdv (Fld.id Int), clov 109 [ptrv zcT (Fld.id (TList Tag))]] [boxE zeS (a_t : GTys), boxE zdv (zdg : Int), boxE zcT ((TList.mk t_a_do__01 zeo) : (TList Tag)), tokE t_a_do__01] (fun R H => ∃ u1 : Tok, R = oneOf [] ∧ H = [boxE zeS (r.1), boxE zdv (r.2.1), boxE zcT ((TList.mk u1 r.2.2)), tokE u1]) := by
 intro a_t zem zdg zeo zeS zdv zcT t_a_do__01 r h
 unfold zc0 at h
 refine zr Tryd.func108 rfl fun w0 S0 hT => zn (wsr (oM rfl (oV (zaj rfl rfl) (oM rfl (zau (jb 21) je .nil h 8 rfl (fun q2 g2 h => ?_) (fun J3 h hJ3 => ?_))))))
 ·refine oM rfl (zau (jb 27) je .nil h 5 rfl (fun q5 g5 h => ?_) (fun J6 h hJ6 => ?_))
  ·refine rnf (zf h rfl (fun _ h => ?_) (fun _ h => ?_))
   ·refine zM (zB (zo .nil k4 ?_))
    cases h
    exact ⟨t_a_do__01, rfl, rfl⟩
   refine wkf (wsr (oM rfl (oV (zp rfl) (oT (zI (R := isv (zdg)) ty3 rfl tH hI (zD h fun q8 h => oV (zbO rfl rfl q8) (oV (zp rfl) (oT (zi (y' := ((zdg - (1 : Int)) : Int)) ty3 rfl rfl hI tH rfl ?_)))))))))
   refine rnf (wsr (oM rfl (oV (zp rfl) (oV (z7 rfl GTys.f0 zkn) (oT (zI (R := isv (a_t.l)) ty38 rfl tH hI (oM rfl (zb h fun y9 hy9 h => oV (zaG (l := a_t.l) rfl hI rfl sl38 hy9) ?_))))))))
   refine oV (zg ty54 rfl) (oT (zab _ ze54 fun b10 => oT (zi (y' := (y9 : GTyp)) ty54 rfl rfl hI .here rfl (zX (zaq 8 .here rfl) (rnf (wsr (oM rfl (oV (zg ty54 rfl) (zb h fun y11 hy11 h => ?_)))))))))
   refine oT (zd5 rfl (s1 rfl) (zfp hy11) hT (.cons tI (.cons tI .nil)) (fun R H' hR => ?_))
   obtain ⟨t12, rfl, rfl⟩ := hR
   refine rnf (zn (wsr (oV (zac rfl GTyp.f1 ze7 rfl (z := y9.tags)) (oV (zg ty48 rfl) (oV (za2 (l := y9.tags) rfl hI sl48) (oV (zbU rfl rfl) (rnf (zf h rfl (fun _ h => ?_) (fun _ h => ?_)))))))))
   ·refine zM (zB (zo .nil (.cons (.there tI) (.cons tI k2)) ?_))
    cases h
    exact ⟨t12, rfl, rfl⟩
   refine wkf (wsr (oV (zac rfl GTyp.f4 zch rfl (z := y9.fields)) (oV (zg ty52 rfl) (oV (za2 (l := y9.fields) rfl hI sl52) (oM rfl (rnf (zu (za5 (ι := Int × (List Tag) × Int × GTys) (γ := Tok) (fun q13 g13 => [(50, isv (q13.1))]) (fun q13 g13 => [boxE zcT ((TList.mk g13 q13.2.1) : (TList Tag)), tokE g13, boxE zdv (q13.2.2.1 : Int), boxE zeS (q13.2.2.2 : GTys)]) h (t12) (za (j := 50) rfl hI zd) k4 (fun L14 q13 g13 Q25 h hL14 eL14 rL14 => ?_)))))))))
   refine wsr (oV (zaj rfl rfl) (rnf (zn (zf h rfl (fun _ h => ?_) (fun _ h => ?_)))))
   ·refine wkf (zn (zu (wsr (zb h fun y20 hy20 h => oV (zaG (l := y9.fields) rfl hI rfl sl52 hy20) (oV (zg ty65 rfl) (oT (zab _ ze65 fun b21 => oT (zi (y' := (y20 : GFld)) ty65 rfl rfl hI .here rfl ?_))))))))
    refine zX (zaq 10 .here rfl) (rnf (zj (oM rfl (oV (zac rfl GFld.f1 zc9 rfl (z := y20.ty)) (oV (zg ty3 rfl) (oM rfl (oM rfl (zb h fun y22 hy22 h => ?_))))))))
    refine oT (zL (zgH hy22) hT (s4 rfl rfl rfl rfl) (.cons (.there tI) (.cons tI k2)) (fun R H' hR => ?_))
    obtain ⟨t23, rfl, rfl⟩ := hR
    exact zx (zk (zy (zj (zD h fun q24 h => oV (zaf rfl rfl q24) (oM rfl (zx (hL14 _ (t23) h _ (ze 14 rfl rfl (za (j := 50) rfl hI zd) (.cons tI (.cons tI (.cons tH k1)))))))))))
   refine zad (zU (eL14 _ _ (zH (zan .nil (.cons (.there tI) (.cons tI k2)) ?_))))
   cases h
   exact ⟨g13, rfl, rfl⟩
  refine zC (j := 22) h rfl (fun g7 h => ?_) (fun g7 h => ?_)
  ·exact oP 22 rfl rfl g7 (oP 22 rfl rfl g7 (oP 22 rfl rfl g7 (oP 22 rfl rfl g7 (oV (zs rfl g7 rfl) (hJ6 _ () h _ (ze 5 rfl rfl (za (j := 27) rfl hI zd) k4))))))
  exact oK 22 rfl rfl rfl g7 (zw rfl) (oK 22 rfl rfl rfl g7 (zp rfl) (zat rfl rfl (dj := 22) rfl g7 (zI (R := isv (zdg)) ty3 rfl tH hI (oK 22 rfl rfl rfl g7 (zal rfl rfl) (oV (zt rfl g7 rfl) (hJ6 _ () h _ (ze 5 rfl rfl (za (j := 27) rfl hI zd) k4)))))))
 refine zC (j := 13) h rfl (fun g4 h => ?_) (fun g4 h => ?_)
 ·exact oP 13 rfl rfl g4 (oP 13 rfl rfl g4 (oP 13 rfl rfl g4 (oP 13 rfl rfl g4 (oP 13 rfl rfl g4 (oP 13 rfl rfl g4 (oP 13 rfl rfl g4 (oV (zs rfl g4 rfl) (hJ3 _ () h _ (ze 8 rfl rfl (za (j := 21) rfl hI zd) k4)))))))))
 exact oK 13 rfl rfl rfl g4 (zw rfl) (oK 13 rfl rfl rfl g4 (zw rfl) (oK 13 rfl rfl rfl g4 (zp rfl) (oK 13 rfl rfl rfl g4 (z7 rfl GTys.f0 zkn) (zat rfl rfl (dj := 13) rfl g4 (zI (R := isv (a_t.l)) ty38 rfl .here hI (oK 13 rfl rfl rfl g4 (za2 (l := a_t.l) rfl hI sl38) (oK 13 rfl rfl rfl g4 (ze4 rfl rfl) (oV (zt rfl g4 rfl) (hJ3 _ () h _ (ze 8 rfl rfl (za (j := 21) rfl hI zd) k4))))))))))

theorem zdn : ∀ n, zcZ (zdB n)
 | 0 => fun h => (by cases h)
 | n + 1 => zf6 (zdn n)
theorem zgK (n : Nat) : zcZ (zdB n) := (zdn n)

theorem zgk : ∀ {a_t : GTys} {zem : Int} {zeS : Nat} {r : (List Tag) × GTys}, zdh a_t zem = some r → Ctr Tryd.prog 94 [ptrv zeS (Fld.id GTys), isv (zem)] [boxE zeS (a_t : GTys)] (fun R H => R = oneOf [isv (r.1)] ∧ H = [boxE zeS (r.2)]) := by
 intro a_t zem zeS r h
 unfold zdh at h
 refine zr Tryd.func94 rfl fun w0 S0 hT => wsr (oA rfl (rnf (wsr (oT (zab _ zp0 fun b1 => zX (zaQ) (rnf (wsr ?_)))))))
 refine oT (zab _ ze3 fun b3 => oT (zi (y' := ((300 : Int) : Int)) ty3 rfl rfl hI .here rfl (rnf (wsr (oM rfl (oM rfl (oV (zg2 (s1 rfl)) (zb h fun y4 hy4 h => oT (zL (zgK fuel hy4) hT (s4 rfl rfl rfl rfl) (.cons (.there tI) (.cons .here (.cons tH k1))) (fun R H' hR => ?_))))))))))
 obtain ⟨t5, rfl, rfl⟩ := hR
 refine rnf (wsr (oT (zI (R := appv t5 (y4.2.2)) ty48 rfl tI isvT1 (oA rfl (rnf (zM ?_))))))
 cases h
 exact zo (.as rfl zK .nil) k1 ⟨rfl, rfl⟩


theorem zio : ∀ {a_t : GTab} {a_i : Int} {r : (List Tag)}, zfE a_t a_i = some r → Ctr Tryd.prog 62 [isv (a_t), isv (a_i)] [] (fun R H => R = oneOf [isv (r)] ∧ H = []) := by
 intro a_t a_i r h
 unfold zfE at h
 refine zr Tryd.func62 rfl fun w0 S0 hT => wsr (oT (zbA (y := a_t) rfl hI (oA rfl (rnf (wsr (oV (zac rfl GTab.f3 zja rfl (z := a_t.types)) (oV (zg ty38 rfl) (oV (zaw (z := (GTys.mk a_t.types)) rfl bu146 ze146 (.cons GTys.f0 zkn rfl hI .nil)) ?_))))))))
 refine oT (zko (y := (GTys.mk a_t.types)) rfl hI fun b1 => oA rfl (rnf (wsr (oM rfl (oM rfl (zb h fun y2 hy2 h => oT (zz (zgk hy2) hT (s2 rfl rfl) k1 (oA rfl ?_))))))))
 refine rnf (zM ?_)
 cases h
 exact zo (.tmp rfl .nil) .nil ⟨rfl, rfl⟩


theorem zf9 : ∀ {a_a : Tag} {a_b : Tag} {r : Bool}, zfm a_a a_b = some r → Ctr Tryd.prog 41 [isv (a_a), isv (a_b)] [] (fun R H => R = oneOf [isv (r)] ∧ H = []) := by
 intro a_a a_b r h
 unfold zfm at h
 refine zr Tryd.func41 rfl fun w0 S0 hT => wsr (oT (zbA (y := a_a) rfl hI (oT (zbA (y := a_b) rfl hI (oA rfl (rnf (zn (wsr (oV (zac rfl Tag.f0 zi8 rfl (z := a_a.cls)) ?_)))))))))
 refine oV (zg ty3 rfl) (oV (zac rfl Tag.f0 zi8 rfl (z := a_b.cls)) (oV (zg ty3 rfl) (oV (zb0 rfl rfl) (rnf (zf h rfl (fun _ h => ?_) (fun _ h => ?_))))))
 ·refine wsr (oV (zac rfl Tag.f0 zi8 rfl (z := a_a.cls)) (oV (zg ty3 rfl) (oV (zac rfl Tag.f0 zi8 rfl (z := a_b.cls)) (oV (zg ty3 rfl) (oV (zaj rfl rfl) (oA rfl (rnf (zM ?_))))))))
  refine zB ?_
  cases h
  exact zo (.tmp rfl .nil) .nil ⟨rfl, rfl⟩
 refine wkf (wsr (oV (zac rfl Tag.f1 zeN rfl (z := a_a.num)) (oV (zg ty3 rfl) (oV (zac rfl Tag.f1 zeN rfl (z := a_b.num)) (oV (zg ty3 rfl) (oV (zaj rfl rfl) (oA rfl (rnf ?_))))))))
 refine zM ?_
 cases h
 exact zo (.tmp rfl .nil) .nil ⟨rfl, rfl⟩


theorem zaI : ∀ {a_t : GTab} {a_i : Int} {r : Tag}, ze0 a_t a_i = some r → Ctr Tryd.prog 40 [isv (a_t), isv (a_i)] [] (fun R H => R = oneOf [isv (r)] ∧ H = []) := by
 intro a_t a_i r h
 unfold ze0 at h
 refine zr Tryd.func40 rfl fun w0 S0 hT => wsr (oT (zbA (y := a_t) rfl hI (oT (zab _ ze57 fun b1 => rnf (wsr (oV (zg ty40 rfl) (oM rfl (zb h fun y2 hy2 h => ?_))))))))
 refine oT (zz (zio hy2) hT (s2 rfl rfl) .nil (oA rfl (rnf (zn (wsr (oM rfl (oV (za2 (l := y2) rfl hI sl48) (oV (zal rfl rfl) (rnf ?_)))))))))
 refine zf h rfl (fun _ h => ?_) (fun _ h => ?_)
 ·refine wsr (oV (zaw (z := (Tag.mk (0 : Int) (0 : Int))) rfl bu57 ze57 .nil) (oT (zi (y' := ((Tag.mk (0 : Int) (0 : Int)) : Tag)) ty57 rfl rfl hI .here rfl (rnf (zM (zB ?_))))))
  cases h
  exact zo (.cell rfl .here ty57 .nil) .nil ⟨rfl, rfl⟩
 refine wkf (wsr (oM rfl (zb h fun y3 hy3 h => oV (zaG (l := y2) rfl hI rfl sl48 hy3) (oV (zg ty57 rfl) (oT (zab _ ze57 fun b4 => oT (zi (y' := (y3 : Tag)) ty57 rfl rfl hI .here rfl (rnf ?_))))))))
 refine zn (wsr (oM rfl (oV (za2 (l := y2) rfl hI sl48) (oM rfl (rnf (zu (za5 (ι := Int × Tag) (γ := Unit) (fun q5 g5 => [(21, isv (q5.1))]) (fun q5 g5 => [boxE b4 (q5.2 : Tag)]) h () (za (j := 21) rfl hI zd) k1 (fun L6 q5 g5 Q19 h hL6 eL6 rL6 => wsr ?_))))))))
 refine oV (zaj rfl rfl) (rnf (zn (zf h rfl (fun _ h => ?_) (fun _ h => ?_))))
 ·refine wkf (zn (zc3 (ι := Tag) (γ := Unit) (fun q13 g13 => []) (fun q13 g13 => [boxE b4 (q13 : Tag)]) k1 h (fun q13 g13 h => ?_) (fun J14 h hJ14 => ?_)))
  ·exact zj (zD h fun q18 h => oV (zaf rfl rfl q18) (oM rfl (zx (hL6 _ () h _ (ze 4 rfl rfl (za (j := 21) rfl hI zd) k2)))))
  refine zu (wsr (zb h fun y15 hy15 h => oV (zaG (l := y2) rfl hI rfl sl48 hy15) (oV (zg ty57 rfl) (oT (zab _ ze57 fun b16 => oT (zi (y' := (y15 : Tag)) ty57 rfl rfl hI .here rfl (zX (zaq 8 .here rfl) (rnf ?_))))))))
  refine wsr (oV (zg ty57 rfl) (oT (zI (R := isv (q5.2)) ty57 rfl .here hI (zb h fun y17 hy17 h => oT (zz (zf9 hy17) hT (s2 rfl rfl) .nil (rnf (zf h rfl (fun _ h => ?_) (fun _ h => ?_))))))))
  ·exact zj (oV (zg ty57 rfl) (oT (zi (y' := (y15 : Tag)) ty57 rfl rfl hI .here rfl (zx (zk (hJ14 _ () h _ (ze 8 rfl rfl zd k2)))))))
  exact zY (zk (hJ14 _ () h _ (ze 7 rfl rfl zd k2)))
 refine zad (zU (eL6 _ _ (zH (zy (wsr (oT (zI (R := isv (q5.2)) ty57 rfl .here hI (oT (zi (y' := (q5.2 : Tag)) ty57 rfl rfl hI tH rfl (rnf ?_))))))))))
 refine zM ?_
 cases h
 exact zo (.cell rfl .here ty57 .nil) .nil ⟨rfl, rfl⟩


theorem zcK : ∀ {a_a : Int} {a_b : Int} {a_a2 : GTab} {a_a3 : GTyp} {r : Int}, zb9 a_a a_b a_a2 a_a3 = some r → Ctr Tryd.prog 39 [isv (a_a), isv (a_b), immv (a_a2), immv (a_a3)] [] (fun R H => R = oneOf [isv (r)] ∧ H = []) := by
 intro a_a a_b a_a2 a_a3 r h
 unfold zb9 at h
 refine zr Tryd.func39 rfl fun w0 S0 hT => wsr (oA rfl (rnf (zn (zc3 (ι := Tag × Tag) (γ := Unit) (fun q1 g1 => [(7, immv (q1.1)), (8, immv (q1.2))]) (fun q1 g1 => []) .nil h (fun q1 g1 h => ?_) (fun J2 h hJ2 => ?_)))))
 ·refine zn (zu (wsr (oV (zg ty57 rfl) (oV (zg ty57 rfl) (zb h fun y25 hy25 h => oT (zz (zf9 hy25) hT (s2 rfl rfl) .nil (oA rfl (rnf ?_))))))))
  refine zf h rfl (fun _ h => ?_) (fun _ h => ?_)
  ·refine wsr (oA rfl (rnf (zM (zE (zB ?_)))))
   cases h
   exact zo (.tmp rfl .nil) .nil ⟨rfl, rfl⟩
  refine wsr (oV (zg ty57 rfl) (oV (zg ty57 rfl) (zb h fun y26 hy26 h => oT (zz (zf9 hy26) hT (s2 rfl rfl) .nil (oA rfl (rnf (zf h rfl (fun _ h => ?_) (fun _ h => ?_))))))))
  ·refine wsr (oA rfl (rnf (zM (zE (zB ?_)))))
   cases h
   exact zo (.tmp rfl .nil) .nil ⟨rfl, rfl⟩
  refine zY (zk (zy (wsr (oA rfl (rnf (zM ?_))))))
  cases h
  exact zo (.tmp rfl .nil) .nil ⟨rfl, rfl⟩
 refine zW (.v 0 (.v 1 (.v 2 (.v 3 (.v 4 (.v 5 (.v 6 (.v 8 (.v 9 (.v 10 (.v 11 (.v 12 (.v 13 (.v 14 (.alt 7 (.alt 15 (.alt 16 (.t 17 (.t 18 (.t 19 .nil))) (.t 17 (.t 16 (.t 18 (.t 19 .nil))))) (.alt 16 (.alt 15 (.t 17 (.t 18 (.t 19 .nil))) (.t 17 (.t 15 (.t 18 (.t 19 .nil))))) (.t 17 (.alt 15 (.t 16 (.t 18 (.t 19 .nil))) (.t 16 (.t 15 (.t 18 (.t 19 .nil)))))))) (.alt 16 (.alt 7 (.alt 15 (.t 17 (.t 18 (.t 19 .nil))) (.t 17 (.t 15 (.t 18 (.t 19 .nil))))) (.t 17 (.t 7 (.t 15 (.t 18 (.t 19 .nil)))))) (.t 17 (.alt 7 (.alt 15 (.t 16 (.t 18 (.t 19 .nil))) (.t 16 (.t 15 (.t 18 (.t 19 .nil))))) (.t 16 (.t 7 (.t 15 (.t 18 (.t 19 .nil))))))))))))))))))))))) moOrd (by kernel_rfl) ?_
 refine zq rfl (zg ty40 rfl) (zq rfl (zac rfl GTyp.f4 zch rfl (z := a_a3.fields)) (zq rfl (zg ty52 rfl) (rvm rfl rfl (zb h fun y3 hy3 h => zq rfl (zaG (l := a_a3.fields) rfl hI rfl sl52 hy3) (zq rfl (zac rfl GFld.f1 zc9 rfl (z := y3.ty)) (zq rfl (zg ty3 rfl) (zq rfl (zg ty40 rfl) ?_)))))))
 refine zq rfl (zac rfl GTyp.f4 zch rfl (z := a_a3.fields)) (zq rfl (zg ty52 rfl) (rvm rfl rfl (zb h fun y4 hy4 h => zq rfl (zaG (l := a_a3.fields) rfl hI rfl sl52 hy4) (zq rfl (zac rfl GFld.f1 zc9 rfl (z := y4.ty)) (zq rfl (zg ty3 rfl) (zb h fun y5 hy5 h => zb h fun y6 hy6 h => ?_))))))
 refine zbP ?_ (zbP ?_ ?_)
 ·refine zV rfl rfl (zz (zaI hy5) hT (s2 rfl rfl) .nil (zbP ?_ (zbP ?_ ?_)))
  ·refine zV rfl rfl (zz (zaI hy6) hT (s2 rfl rfl) .nil (zbP ?_ ?_))
   ·exact zV rfl rfl (zab _ ze57 fun b7 => zV rfl rfl (zab _ ze57 fun b8 => zV rfl rfl (zi (y' := (y5 : Tag)) ty57 rfl rfl hI tH rfl (zbh (zaq 7 .here rfl) (zV rfl rfl (zi (y' := (y6 : Tag)) ty57 rfl rfl hI .here rfl (zbh (zaq 8 .here rfl) (zae (hJ2 _ () h _ (ze 20 rfl rfl (za (j := 7) rfl hI (za (j := 8) rfl hI zd)) .nil))))))))))
   exact zV rfl rfl (zab _ ze57 fun b9 => zV rfl rfl (zab _ ze57 fun b10 => zV rfl rfl (zi (y' := (y5 : Tag)) ty57 rfl rfl hI .here rfl (zbh (zaq 7 .here rfl) (zV rfl rfl (zi (y' := (y6 : Tag)) ty57 rfl rfl hI .here rfl (zbh (zaq 8 .here rfl) (zae (hJ2 _ () h _ (ze 20 rfl rfl (za (j := 7) rfl hI (za (j := 8) rfl hI zd)) .nil))))))))))
  ·refine zV rfl rfl (zab _ ze57 fun b11 => zbP ?_ ?_)
   ·exact zV rfl rfl (zz (zaI hy6) hT (s2 rfl rfl) .nil (zV rfl rfl (zab _ ze57 fun b12 => zV rfl rfl (zi (y' := (y5 : Tag)) ty57 rfl rfl hI tH rfl (zbh (zaq 7 .here rfl) (zV rfl rfl (zi (y' := (y6 : Tag)) ty57 rfl rfl hI .here rfl (zbh (zaq 8 .here rfl) (zae (hJ2 _ () h _ (ze 20 rfl rfl (za (j := 7) rfl hI (za (j := 8) rfl hI zd)) .nil)))))))))))
   exact zV rfl rfl (zab _ ze57 fun b13 => zV rfl rfl (zz (zaI hy6) hT (s2 rfl rfl) .nil (zV rfl rfl (zi (y' := (y5 : Tag)) ty57 rfl rfl hI tH rfl (zbh (zaq 7 .here rfl) (zV rfl rfl (zi (y' := (y6 : Tag)) ty57 rfl rfl hI .here rfl (zbh (zaq 8 .here rfl) (zae (hJ2 _ () h _ (ze 20 rfl rfl (za (j := 7) rfl hI (za (j := 8) rfl hI zd)) .nil)))))))))))
  refine zV rfl rfl (zab _ ze57 fun b14 => zbP ?_ ?_)
  ·exact zV rfl rfl (zz (zaI hy6) hT (s2 rfl rfl) .nil (zV rfl rfl (zab _ ze57 fun b15 => zV rfl rfl (zi (y' := (y5 : Tag)) ty57 rfl rfl hI .here rfl (zbh (zaq 7 .here rfl) (zV rfl rfl (zi (y' := (y6 : Tag)) ty57 rfl rfl hI .here rfl (zbh (zaq 8 .here rfl) (zae (hJ2 _ () h _ (ze 20 rfl rfl (za (j := 7) rfl hI (za (j := 8) rfl hI zd)) .nil)))))))))))
  exact zV rfl rfl (zab _ ze57 fun b16 => zV rfl rfl (zz (zaI hy6) hT (s2 rfl rfl) .nil (zV rfl rfl (zi (y' := (y5 : Tag)) ty57 rfl rfl hI .here rfl (zbh (zaq 7 .here rfl) (zV rfl rfl (zi (y' := (y6 : Tag)) ty57 rfl rfl hI .here rfl (zbh (zaq 8 .here rfl) (zae (hJ2 _ () h _ (ze 20 rfl rfl (za (j := 7) rfl hI (za (j := 8) rfl hI zd)) .nil)))))))))))
 ·refine zV rfl rfl (zab _ ze57 fun b17 => zbP ?_ ?_)
  ·refine zV rfl rfl (zz (zaI hy5) hT (s2 rfl rfl) .nil (zbP ?_ ?_))
   ·exact zV rfl rfl (zz (zaI hy6) hT (s2 rfl rfl) .nil (zV rfl rfl (zab _ ze57 fun b18 => zV rfl rfl (zi (y' := (y5 : Tag)) ty57 rfl rfl hI tH rfl (zbh (zaq 7 .here rfl) (zV rfl rfl (zi (y' := (y6 : Tag)) ty57 rfl rfl hI .here rfl (zbh (zaq 8 .here rfl) (zae (hJ2 _ () h _ (ze 20 rfl rfl (za (j := 7) rfl hI (za (j := 8) rfl hI zd)) .nil)))))))))))
   exact zV rfl rfl (zab _ ze57 fun b19 => zV rfl rfl (zz (zaI hy6) hT (s2 rfl rfl) .nil (zV rfl rfl (zi (y' := (y5 : Tag)) ty57 rfl rfl hI tH rfl (zbh (zaq 7 .here rfl) (zV rfl rfl (zi (y' := (y6 : Tag)) ty57 rfl rfl hI .here rfl (zbh (zaq 8 .here rfl) (zae (hJ2 _ () h _ (ze 20 rfl rfl (za (j := 7) rfl hI (za (j := 8) rfl hI zd)) .nil)))))))))))
  exact zV rfl rfl (zab _ ze57 fun b20 => zV rfl rfl (zz (zaI hy5) hT (s2 rfl rfl) .nil (zV rfl rfl (zz (zaI hy6) hT (s2 rfl rfl) .nil (zV rfl rfl (zi (y' := (y5 : Tag)) ty57 rfl rfl hI tH rfl (zbh (zaq 7 .here rfl) (zV rfl rfl (zi (y' := (y6 : Tag)) ty57 rfl rfl hI .here rfl (zbh (zaq 8 .here rfl) (zae (hJ2 _ () h _ (ze 20 rfl rfl (za (j := 7) rfl hI (za (j := 8) rfl hI zd)) .nil)))))))))))))
 refine zV rfl rfl (zab _ ze57 fun b21 => zbP ?_ ?_)
 ·refine zV rfl rfl (zz (zaI hy5) hT (s2 rfl rfl) .nil (zbP ?_ ?_))
  ·exact zV rfl rfl (zz (zaI hy6) hT (s2 rfl rfl) .nil (zV rfl rfl (zab _ ze57 fun b22 => zV rfl rfl (zi (y' := (y5 : Tag)) ty57 rfl rfl hI .here rfl (zbh (zaq 7 .here rfl) (zV rfl rfl (zi (y' := (y6 : Tag)) ty57 rfl rfl hI .here rfl (zbh (zaq 8 .here rfl) (zae (hJ2 _ () h _ (ze 20 rfl rfl (za (j := 7) rfl hI (za (j := 8) rfl hI zd)) .nil)))))))))))
  exact zV rfl rfl (zab _ ze57 fun b23 => zV rfl rfl (zz (zaI hy6) hT (s2 rfl rfl) .nil (zV rfl rfl (zi (y' := (y5 : Tag)) ty57 rfl rfl hI .here rfl (zbh (zaq 7 .here rfl) (zV rfl rfl (zi (y' := (y6 : Tag)) ty57 rfl rfl hI .here rfl (zbh (zaq 8 .here rfl) (zae (hJ2 _ () h _ (ze 20 rfl rfl (za (j := 7) rfl hI (za (j := 8) rfl hI zd)) .nil)))))))))))
 exact zV rfl rfl (zab _ ze57 fun b24 => zV rfl rfl (zz (zaI hy5) hT (s2 rfl rfl) .nil (zV rfl rfl (zz (zaI hy6) hT (s2 rfl rfl) .nil (zV rfl rfl (zi (y' := (y5 : Tag)) ty57 rfl rfl hI .here rfl (zbh (zaq 7 .here rfl) (zV rfl rfl (zi (y' := (y6 : Tag)) ty57 rfl rfl hI .here rfl (zbh (zaq 8 .here rfl) (zae (hJ2 _ () h _ (ze 20 rfl rfl (za (j := 7) rfl hI (za (j := 8) rfl hI zd)) .nil)))))))))))))


theorem zb5 : ∀ {zaS : (List Int)} {a_a : Int} {a_b : Int} {zao : GTab} {zap : GTyp} {zaa : Vt} {r : (List Int)}, za6 zaS a_a a_b zao zap = some r → Ctr Tryd.prog 106 [vecv zaa (zaS.length), isv (a_a), isv (a_b), clov 39 [immv (zao), immv (zap)]] [vecE zaa (zaS : List Int)] (fun R H => R = oneOf [] ∧ H = [vecE zaa (r)]) := by
 intro zaS a_a a_b zao zap zaa r h
 unfold za6 at h
 refine zr Tryd.func106 rfl fun w0 S0 hT => wsr (oM rfl (zD h fun q1 h => oV (zaf rfl rfl q1) (oA rfl (rnf (zu (za5 (ι := (List Int) × Int) (γ := Unit) (fun q2 g2 => [(8, isv (q2.2)), (0, vecv zaa (q2.1.length))]) (fun q2 g2 => [vecE zaa (q2.1 : List Int)]) h () (za (j := 8) rfl hI (za (j := 0) rfl (vecvE (by first | rfl | simp)) zd)) k1 (fun L3 q2 g2 Q94 h hL3 eL3 rL3 => ?_)))))))
 refine zn (wsr (oM rfl (oM rfl (oV (zaj rfl rfl) (rnf (zf h rfl (fun _ h => ?_) (fun _ h => ?_)))))))
 ·refine wkf (zn (zu (wsr (oM rfl (oA rfl (rnf (zu (za5 (ι := (List Int) × Int) (γ := Unit) (fun q49 g49 => [(9, isv (q49.2)), (0, vecv zaa (q49.1.length))]) (fun q49 g49 => [vecE zaa (q49.1 : List Int)]) h () (za (j := 9) rfl hI (za (j := 0) rfl (vecvE (by first | rfl | simp)) zd)) k1 (fun L50 q49 g49 Q93 h hL50 eL50 rL50 => ?_)))))))))
  refine zn (zn (zkE 0 .here rfl (by first | rfl | simp) (fun o72 hn73 => ?_)))
  refine zW (.v 0 (.v 1 (.v 2 (.v 3 (.v 4 (.v 5 (.v 6 (.v 7 (.v 8 (.v 9 (.v 10 (.v 11 (.v 12 (.v 13 (.t 14 (.v 15 (.v 16 .nil))))))))))))))))) moOrd (by kernel_rfl) ?_
  refine rvm rfl rfl (rvm rfl rfl (zq rfl (zbU rfl rfl) (rvm rfl rfl (zeg (jb 34) je .nil h 13 rfl (fun q74 g74 h => ?_) (fun J75 h hJ75 => ?_)))))
  ·refine zae (zfP 0 hn73 rfl (zy (zf h rfl (fun _ h => ?_) (fun _ h => ?_))))
   ·refine wkf (zn (zu (zW (.v 0 (.v 1 (.v 2 (.v 3 (.v 4 (.v 5 (.v 6 (.v 7 (.v 8 (.v 10 (.v 11 (.v 12 (.alt 9 (.t 13 (.v 14 (.t 15 (.v 16 (.t 17 .nil))))) (.t 13 (.t 9 (.v 14 (.t 15 (.v 16 (.t 17 .nil))))))))))))))))))) moOrd (by kernel_rfl) ?_)))
    refine rvm rfl rfl (rvm rfl rfl (rvm rfl rfl (rvm rfl rfl (zD h fun q81 h => zq rfl (zbO rfl rfl q81) (rvm rfl rfl (rvm rfl rfl (zD h fun q82 h => ?_)))))))
    refine zq rfl (zbO rfl rfl q82) (zT h fun q83 h => zq rfl (zaH (α := Int) sl22 rfl rfl q83.1 q83.2) (rvm rfl rfl (rvm rfl rfl (zT h fun q84 h => zq rfl (zaH (α := Int) sl22 rfl rfl q84.1 q84.2) (zb h fun y85 hy85 h => zb h fun y86 hy86 h => ?_)))))
    refine zT h fun q87 h => zb h fun y88 hy88 h => zT h fun q89 h => zb h fun y90 hy90 h => zD h fun q91 h => zbP ?_ ?_
    ·refine zV rfl rfl (zaU ty3 rfl .here hy85 ?_)
     refine zV rfl rfl (zaU ty3 rfl .here hy86 ?_)
     refine zq rfl (zaH (α := Int) sl22 rfl rfl q87.1 q87.2) (zV rfl rfl (za8 ty3 rfl rfl .here hy88 (zq rfl (zaH (α := Int) sl22 rfl rfl q89.1 q89.2) (zV rfl rfl (za8 ty3 rfl rfl .here hy90 (zae (zk (zy (zj (oM rfl ?_))))))))))
     exact oV (zbO rfl rfl q91) (oA rfl (zx (hL50 _ () h _ (ze 28 rfl rfl (za (j := 9) rfl hI (za (j := 0) rfl (vecvE (by first | rfl | simp)) zd)) k1))))
    refine zV rfl rfl (zaU ty3 rfl .here hy86 ?_)
    refine zV rfl rfl (zaU ty3 rfl .here hy85 ?_)
    refine zq rfl (zaH (α := Int) sl22 rfl rfl q87.1 q87.2) (zV rfl rfl (za8 ty3 rfl rfl .here hy88 (zq rfl (zaH (α := Int) sl22 rfl rfl q89.1 q89.2) (zV rfl rfl (za8 ty3 rfl rfl .here hy90 (zae (zk (zy (zj (oM rfl ?_))))))))))
    exact oV (zbO rfl rfl q91) (oA rfl (zx (hL50 _ () h _ (ze 28 rfl rfl (za (j := 9) rfl hI (za (j := 0) rfl (vecvE (by first | rfl | simp)) zd)) k1))))
   refine zad (zU (eL50 _ _ (zH (zk (zy (zj (oM rfl (zD h fun q92 h => ?_))))))))
   exact oV (zaf rfl rfl q92) (oA rfl (zx (hL3 _ () h _ (ze 19 rfl rfl (za (j := 8) rfl hI (za (j := 0) rfl (vecvE (by first | rfl | simp)) zd)) k1))))
  refine zaT (j := 21) h rfl (fun g76 h => ?_) (fun g76 h => ?_)
  ·refine rvt 21 rfl rfl rfl g76 (zw rfl) (rvt 21 rfl rfl rfl g76 (zw rfl) (rvt 21 rfl rfl rfl g76 (zw rfl) (zb h fun y77 hy77 h => rvt 21 rfl rfl rfl g76 (zhW (α := Int) sl22 rfl rfl hy77) (rvt 21 rfl rfl rfl g76 (zh2 ty3 rfl zeT) (rvt 21 rfl rfl rfl g76 (zw rfl) (rvt 21 rfl rfl rfl g76 (zw rfl) (zD h fun q78 h => ?_)))))))
   refine rvt 21 rfl rfl rfl g76 (zbO rfl rfl q78) (zb h fun y79 hy79 h => rvt 21 rfl rfl rfl g76 (zhW (α := Int) sl22 rfl rfl hy79) (rvt 21 rfl rfl rfl g76 (zh2 ty3 rfl zeT) (zb h fun y80 hy80 h => zhb rfl rfl rfl (dj := 21) rfl g76 (zd5 rfl (s2 rfl rfl) (zcK hy80) hT .nil (fun R H' hR => ?_)))))
   obtain ⟨rfl, rfl⟩ := hR
   exact rvt 21 rfl rfl rfl g76 (zaj rfl rfl) (zq rfl (zs rfl g76 rfl) (hJ75 _ () h _ (ji 13 34 rfl rfl rfl)))
  refine rpv 21 rfl rfl rfl g76 (rpv 21 rfl rfl rfl g76 (rpv 21 rfl rfl rfl g76 (rpv 21 rfl rfl rfl g76 (rpv 21 rfl rfl rfl g76 (rpv 21 rfl rfl rfl g76 (rpv 21 rfl rfl rfl g76 (rpv 21 rfl rfl rfl g76 (rpv 21 rfl rfl rfl g76 ?_))))))))
  exact rpv 21 rfl rfl rfl g76 (zdG rfl rfl (dj := 21) rfl g76 (rpv 21 rfl rfl rfl g76 (zq rfl (zt rfl g76 rfl) (hJ75 _ () h _ (ji 13 34 rfl rfl rfl)))))
 refine zad (zU (eL3 _ _ (zH (zan .nil k1 ?_))))
 cases h
 exact ⟨rfl, rfl⟩


theorem zbQ : ∀ {zaS : (List Int)} {a_a : Int} {a_b : Int} {a_n_ : Int} {zao : GTab} {zap : GTyp} {zaa : Vt} {r : (List Int)}, za0 zaS a_a a_b a_n_ zao zap = some r → Ctr Tryd.prog 122 [vecv zaa (zaS.length), isv (a_a), isv (a_b), isv (a_n_), clov 39 [immv (zao), immv (zap)]] [vecE zaa (zaS : List Int)] (fun R H => R = oneOf [] ∧ H = [vecE zaa (r)]) := by
 intro zaS a_a a_b a_n_ zao zap zaa r h
 unfold za0 at h
 refine zr Tryd.func122 rfl fun w0 S0 hT => wsr (oA rfl (rnf (zu (za5 (ι := (List Int) × Int) (γ := Unit) (fun q1 g1 => [(10, isv (q1.2)), (0, vecv zaa (q1.1.length))]) (fun q1 g1 => [vecE zaa (q1.1 : List Int)]) h () (za (j := 10) rfl hI (za (j := 0) rfl (vecvE (by first | rfl | simp)) zd)) k1 (fun L2 q1 g1 Q42 h hL2 eL2 rL2 => ?_)))))
 refine zn (wsr (oM rfl (oM rfl (oV (zaj rfl rfl) (rnf (zf h rfl (fun _ h => ?_) (fun _ h => ?_)))))))
 ·refine wkf (zn (zu (zW (.v 0 (.v 1 (.v 2 (.v 3 (.v 4 (.v 5 (.v 6 (.v 7 (.v 8 (.v 9 (.v 10 (.v 11 (.v 12 (.v 14 (.v 15 (.v 16 (.v 17 (.v 18 (.alt 13 (.t 19 (.v 20 (.t 21 (.v 22 (.t 23 .nil))))) (.t 19 (.t 13 (.v 20 (.t 21 (.v 22 (.t 23 .nil))))))))))))))))))))))))) moOrd (by kernel_rfl) ?_)))
  refine rvm rfl rfl (rvm rfl rfl (rvm rfl rfl (zD h fun q29 h => zq rfl (zaf rfl rfl q29) (rvm rfl rfl (rvm rfl rfl (rvm rfl rfl (zD h fun q30 h => ?_)))))))
  refine zq rfl (zaf rfl rfl q30) (rvm rfl rfl (rvm rfl rfl (rvm rfl rfl (zD h fun q31 h => zq rfl (zaf rfl rfl q31) (zT h fun q32 h => zq rfl (zaH (α := Int) sl22 rfl rfl q32.1 q32.2) (rvm rfl rfl ?_))))))
  refine rvm rfl rfl (rvm rfl rfl (zD h fun q33 h => zq rfl (zaf rfl rfl q33) (zT h fun q34 h => zq rfl (zaH (α := Int) sl22 rfl rfl q34.1 q34.2) (zb h fun y35 hy35 h => zb h fun y36 hy36 h => zT h fun q37 h => ?_))))
  refine zb h fun y38 hy38 h => zT h fun q39 h => zb h fun y40 hy40 h => zD h fun q41 h => zbP ?_ ?_
  ·refine zV rfl rfl (zaU ty3 rfl .here hy35 ?_)
   refine zV rfl rfl (zaU ty3 rfl .here hy36 ?_)
   refine zq rfl (zaH (α := Int) sl22 rfl rfl q37.1 q37.2) (zV rfl rfl (za8 ty3 rfl rfl .here hy38 (zq rfl (zaH (α := Int) sl22 rfl rfl q39.1 q39.2) (zV rfl rfl (za8 ty3 rfl rfl .here hy40 (zae (zk (zy (zj (oM rfl ?_))))))))))
   exact oV (zaf rfl rfl q41) (oA rfl (zx (hL2 _ () h _ (ze 30 rfl rfl (za (j := 10) rfl hI (za (j := 0) rfl (vecvE (by first | rfl | simp)) zd)) k1))))
  refine zV rfl rfl (zaU ty3 rfl .here hy36 ?_)
  refine zV rfl rfl (zaU ty3 rfl .here hy35 ?_)
  refine zq rfl (zaH (α := Int) sl22 rfl rfl q37.1 q37.2) (zV rfl rfl (za8 ty3 rfl rfl .here hy38 (zq rfl (zaH (α := Int) sl22 rfl rfl q39.1 q39.2) (zV rfl rfl (za8 ty3 rfl rfl .here hy40 (zae (zk (zy (zj (oM rfl ?_))))))))))
  exact oV (zaf rfl rfl q41) (oA rfl (zx (hL2 _ () h _ (ze 30 rfl rfl (za (j := 10) rfl hI (za (j := 0) rfl (vecvE (by first | rfl | simp)) zd)) k1))))
 refine zad (zU (eL2 _ _ (zH (zan .nil k1 ?_))))
 cases h
 exact ⟨rfl, rfl⟩


theorem zeA : ∀ {zaS : (List Int)} {a_a : Int} {a_m : Int} {a_b : Int} {zao : GTab} {zap : GTyp} {zaa : Vt} {r : (List Int)}, zci zaS a_a a_m a_b zao zap = some r → Ctr Tryd.prog 115 [vecv zaa (zaS.length), isv (a_a), isv (a_m), isv (a_b), clov 39 [immv (zao), immv (zap)]] [vecE zaa (zaS : List Int)] (fun R H => R = oneOf [] ∧ H = [vecE zaa (r)]) := by
 intro zaS a_a a_m a_b zao zap zaa r h
 unfold zci at h
 refine zr Tryd.func115 rfl fun w0 S0 hT => wsr (oM rfl (oM rfl (zD h fun q1 h => oV (zbO rfl rfl q1) (oA rfl (rnf (wsr ?_))))))
 refine oM rfl (oM rfl (zD h fun q2 h => oV (zbO rfl rfl q2) (oA rfl (rnf (zn (zu (za5 (ι := (List Int) × Int × Int) (γ := Unit) (fun q3 g3 => [(10, isv (q3.2.1)), (11, isv (q3.2.2)), (0, vecv zaa (q3.1.length))]) (fun q3 g3 => [vecE zaa (q3.1 : List Int)]) h () (za (j := 10) rfl hI (za (j := 11) rfl hI (za (j := 0) rfl (vecvE (by first | rfl | simp)) zd))) k1 (fun L4 q3 g3 Q31 h hL4 eL4 rL4 => ?_))))))))
 refine zn (wsr (oM rfl (oM rfl (oV (zb0 rfl rfl) (rnf (zf h rfl (fun _ h => ?_) (fun _ h => ?_)))))))
 ·refine wkf (zu (wsr (oM rfl (oM rfl (oV (zbU rfl rfl) (rnf (zf h rfl (fun _ h => ?_) (fun _ h => ?_))))))))
  ·refine wsr (oM rfl (oM rfl (oM rfl (zD h fun q18 h => oV (zbO rfl rfl q18) (oM rfl (oM rfl (oM rfl ?_)))))))
   refine zb h fun y19 hy19 h => oT (zz (zbQ hy19) hT (.cons rfl (fun _ _ h => vecvE (by first | rfl | simp) _ _ h) (s4 rfl rfl rfl rfl)) k1 ?_)
   refine zT h fun q20 h => zX (zai 0 rfl (vecvE q20.symm)) (zX (zai 24 rfl (vecvE q20.symm)) (rnf (zj (oM rfl (oM rfl (zD h fun q21 h => oV (zbO rfl rfl q21) ?_))))))
   exact oA rfl (zx (zk (hL4 _ () h _ (ze 23 rfl rfl (za (j := 10) rfl hI (za (j := 11) rfl hI (za (j := 0) rfl (vecvE (by first | rfl | simp)) zd))) k1))))
  refine wsr (oM rfl (oM rfl (oM rfl (zD h fun q22 h => oV (zbO rfl rfl q22) (oM rfl (oM rfl (zD h fun q23 h => ?_)))))))
  refine oV (zaf rfl rfl q23) (oM rfl (zD h fun q24 h => oV (zbO rfl rfl q24) (oM rfl (oM rfl (zb h fun y25 hy25 h => oT (zz (zbQ hy25) hT (.cons rfl (fun _ _ h => vecvE (by first | rfl | simp) _ _ h) (s4 rfl rfl rfl rfl)) k1 ?_))))))
  refine zT h fun q26 h => zX (zai 0 rfl (vecvE q26.symm)) (zX (zai 35 rfl (vecvE q26.symm)) (rnf (zj (oM rfl (oM rfl (zD h fun q27 h => oV (zbO rfl rfl q27) ?_))))))
  exact oA rfl (zx (zk (hL4 _ () h _ (ze 27 rfl rfl (za (j := 10) rfl hI (za (j := 11) rfl hI (za (j := 0) rfl (vecvE (by first | rfl | simp)) zd))) k1))))
 refine zad (zU (eL4 _ _ (zH (zy (zj (oM rfl (oM rfl (oM rfl ?_))))))))
 refine zD h fun q28 h => oV (zbO rfl rfl q28) (oM rfl (oM rfl (oM rfl (zb h fun y29 hy29 h => oT (zz (zbQ hy29) hT (.cons rfl (fun _ _ h => vecvE (by first | rfl | simp) _ _ h) (s4 rfl rfl rfl rfl)) k1 ?_)))))
 refine zT h fun q30 h => zX (zai 0 rfl (vecvE q30.symm)) (zX (zai 50 rfl (vecvE q30.symm)) (zx (zan .nil k1 ?_)))
 cases h
 exact ⟨rfl, rfl⟩


def zbV (f' : (List Int) → Int → Int → Int → GTab → GTyp → Option ((List Int))) : Prop :=
 ∀ {zaS : (List Int)} {a_a : Int} {a_m : Int} {a_b : Int} {zao : GTab} {zap : GTyp} {zaa : Vt} {r : (List Int)}, f' zaS a_a a_m a_b zao zap = some r → Ctr Tryd.prog 107 [vecv zaa (zaS.length), isv (a_a), isv (a_m), isv (a_b), clov 39 [immv (zao), immv (zap)]] [vecE zaa (zaS : List Int)] (fun R H => R = oneOf [] ∧ H = [vecE zaa (r)])
theorem zef {za3 : (List Int) → Int → Int → Int → GTab → GTyp → Option ((List Int))} (zcA : zbV za3) : ∀ {zaS : (List Int)} {a_a : Int} {a_m : Int} {a_b : Int} {zao : GTab} {zap : GTyp} {zaa : Vt} {r : (List Int)}, zbW za3 zaS a_a a_m a_b zao zap = some r → Ctr Tryd.prog 107 [vecv zaa (zaS.length), isv (a_a), isv (a_m), isv (a_b), clov 39 [immv (zao), immv (zap)]] [vecE zaa (zaS : List Int)] (fun R H => R = oneOf [] ∧ H = [vecE zaa (r)]) := by
 intro zaS a_a a_m a_b zao zap zaa r h
 unfold zbW at h
 refine zr Tryd.func107 rfl fun w0 S0 hT => zn (wsr (oM rfl (oM rfl (zD h fun q1 h => oV (zbO rfl rfl q1) (oV (zal rfl rfl) (rnf ?_))))))
 refine zf h rfl (fun _ h => ?_) (fun _ h => ?_)
 ·refine wsr (oM rfl (oA rfl (rnf (wsr (oM rfl (oA rfl (rnf (zn ?_))))))))
  refine zu (za5 (ι := (List Int) × Int × Int) (γ := Unit) (fun q2 g2 => [(10, isv (q2.2.1)), (11, isv (q2.2.2)), (0, vecv zaa (q2.1.length))]) (fun q2 g2 => [vecE zaa (q2.1 : List Int)]) h () (za (j := 10) rfl hI (za (j := 11) rfl hI (za (j := 0) rfl (vecvE (by first | rfl | simp)) zd))) k1 (fun L3 q2 g2 Q145 h hL3 eL3 rL3 => ?_))
  refine zn (wsr (oM rfl (oM rfl (oV (zaj rfl rfl) (rnf (zf h rfl (fun _ h => ?_) (fun _ h => ?_)))))))
  ·refine wkf (zu (wsr (oM rfl (oM rfl (zD h fun q98 h => oV (zaf rfl rfl q98) (oV (zhT Tryd.underlying3 Tryd.underlying24 rfl) (oV (zic (q := (1 : UInt64)) rfl rfl (by decide)) ?_)))))))
   refine zD h fun q99 h => oV (zga Tryd.underlying24 Tryd.underlying3 rfl q99) (oA rfl (rnf (zn (zkE 0 .here rfl (by first | rfl | simp) (fun o100 hn101 => ?_)))))
   refine zW (.v 0 (.v 1 (.v 2 (.v 3 (.v 4 (.v 5 (.v 6 (.v 7 (.v 8 (.t 9 (.v 10 .nil))))))))))) moOrd (by kernel_rfl) ?_
   refine rvm rfl rfl (rvm rfl rfl (rvm rfl rfl (zb h fun y102 hy102 h => zq rfl (zhW (α := Int) sl22 rfl rfl hy102) (zq rfl (zh2 ty3 rfl zeT) (rvm rfl rfl (rvm rfl rfl (zb h fun y103 hy103 h => ?_)))))))
   refine zq rfl (zhW (α := Int) sl22 rfl rfl hy103) (zq rfl (zh2 ty3 rfl zeT) (zb h fun y104 hy104 h => zV rfl rfl (zd5 rfl (s2 rfl rfl) (zcK hy104) hT .nil (fun R H' hR => ?_))))
   obtain ⟨rfl, rfl⟩ := hR
   refine zq rfl (zaj rfl rfl) (zae (zfP 0 hn101 rfl (zy (zf h rfl (fun _ h => ?_) (fun _ h => ?_)))))
   ·exact zj (oM rfl (zD h fun q105 h => oV (zaf rfl rfl q105) (oA rfl (zx (zk (hL3 _ () h _ (ze 29 rfl rfl (za (j := 10) rfl hI (za (j := 11) rfl hI (za (j := 0) rfl (vecvE (by first | rfl | simp)) zd))) k1)))))))
   exact zj (oM rfl (oA rfl (zx (zk (hL3 _ () h _ (ze 28 rfl rfl (za (j := 10) rfl hI (za (j := 11) rfl hI (za (j := 0) rfl (vecvE (by first | rfl | simp)) zd))) k1))))))
  refine zad (zU (eL3 _ _ (zH (zy (zn (wsr (oM rfl (oA rfl ?_))))))))
  refine rnf (zu (za5 (ι := (List Int) × Int) (γ := Unit) (fun q106 g106 => [(13, isv (q106.2)), (0, vecv zaa (q106.1.length))]) (fun q106 g106 => [vecE zaa (q106.1 : List Int)]) h () (za (j := 13) rfl hI (za (j := 0) rfl (vecvE (by first | rfl | simp)) zd)) k1 (fun L107 q106 g106 Q144 h hL107 eL107 rL107 => ?_)))
  refine zn (wsr (oM rfl (oM rfl (zD h fun q132 h => oV (zbO rfl rfl q132) (oV (zaj rfl rfl) (rnf (zf h rfl (fun _ h => ?_) (fun _ h => ?_))))))))
  ·refine wkf (zn (zu (zW (.v 0 (.v 1 (.v 2 (.v 3 (.v 4 (.v 5 (.v 6 (.v 7 (.v 8 (.v 10 (.v 11 (.v 12 (.alt 9 (.t 13 (.v 14 (.t 15 (.v 16 (.t 17 .nil))))) (.t 13 (.t 9 (.v 14 (.t 15 (.v 16 (.t 17 .nil))))))))))))))))))) moOrd (by kernel_rfl) ?_)))
   refine rvm rfl rfl (rvm rfl rfl (rvm rfl rfl (rvm rfl rfl (zD h fun q133 h => zq rfl (zaf rfl rfl q133) (rvm rfl rfl (rvm rfl rfl (zD h fun q134 h => ?_)))))))
   refine zq rfl (zaf rfl rfl q134) (zT h fun q135 h => zq rfl (zaH (α := Int) sl22 rfl rfl q135.1 q135.2) (rvm rfl rfl (rvm rfl rfl (zT h fun q136 h => zq rfl (zaH (α := Int) sl22 rfl rfl q136.1 q136.2) (zb h fun y137 hy137 h => zb h fun y138 hy138 h => ?_)))))
   refine zT h fun q139 h => zb h fun y140 hy140 h => zT h fun q141 h => zb h fun y142 hy142 h => zD h fun q143 h => zbP ?_ ?_
   ·refine zV rfl rfl (zaU ty3 rfl .here hy137 ?_)
    refine zV rfl rfl (zaU ty3 rfl .here hy138 ?_)
    refine zq rfl (zaH (α := Int) sl22 rfl rfl q139.1 q139.2) (zV rfl rfl (za8 ty3 rfl rfl .here hy140 (zq rfl (zaH (α := Int) sl22 rfl rfl q141.1 q141.2) (zV rfl rfl (za8 ty3 rfl rfl .here hy142 (zae (zk (zy (zj (oM rfl ?_))))))))))
    exact oV (zaf rfl rfl q143) (oA rfl (zx (hL107 _ () h _ (ze 25 rfl rfl (za (j := 13) rfl hI (za (j := 0) rfl (vecvE (by first | rfl | simp)) zd)) k1))))
   refine zV rfl rfl (zaU ty3 rfl .here hy138 ?_)
   refine zV rfl rfl (zaU ty3 rfl .here hy137 ?_)
   refine zq rfl (zaH (α := Int) sl22 rfl rfl q139.1 q139.2) (zV rfl rfl (za8 ty3 rfl rfl .here hy140 (zq rfl (zaH (α := Int) sl22 rfl rfl q141.1 q141.2) (zV rfl rfl (za8 ty3 rfl rfl .here hy142 (zae (zk (zy (zj (oM rfl ?_))))))))))
   exact oV (zaf rfl rfl q143) (oA rfl (zx (hL107 _ () h _ (ze 25 rfl rfl (za (j := 13) rfl hI (za (j := 0) rfl (vecvE (by first | rfl | simp)) zd)) k1))))
  refine zad (zU (eL107 _ _ (zH (zy (zM (zB ?_))))))
  cases h
  exact zo .nil k1 ⟨rfl, rfl⟩
 refine wkf (zn (wsr (oM rfl (oM rfl (zD h fun q146 h => oV (zbO rfl rfl q146) (oV (zal rfl rfl) (rnf ?_)))))))
 refine zf h rfl (fun _ h => ?_) (fun _ h => ?_)
 ·refine wsr (oM rfl (oA rfl (rnf (wsr (oM rfl (oA rfl (rnf (zn ?_))))))))
  refine zu (za5 (ι := (List Int) × Int × Int) (γ := Unit) (fun q147 g147 => [(14, isv (q147.2.1)), (15, isv (q147.2.2)), (0, vecv zaa (q147.1.length))]) (fun q147 g147 => [vecE zaa (q147.1 : List Int)]) h () (za (j := 14) rfl hI (za (j := 15) rfl hI (za (j := 0) rfl (vecvE (by first | rfl | simp)) zd))) k1 (fun L148 q147 g147 Q281 h hL148 eL148 rL148 => ?_))
  refine zn (wsr (oM rfl (oM rfl (oV (zaj rfl rfl) (rnf (zf h rfl (fun _ h => ?_) (fun _ h => ?_)))))))
  ·refine wkf (zu (wsr (oM rfl (oM rfl (zD h fun q237 h => oV (zaf rfl rfl q237) (oV (zhT Tryd.underlying3 Tryd.underlying24 rfl) (oV (zic (q := (1 : UInt64)) rfl rfl (by decide)) ?_)))))))
   refine zD h fun q238 h => oV (zga Tryd.underlying24 Tryd.underlying3 rfl q238) (oA rfl (rnf (zn (zkE 0 .here rfl (by first | rfl | simp) (fun o239 hn240 => ?_)))))
   refine zW (.v 0 (.v 1 (.v 2 (.v 3 (.v 4 (.v 5 (.v 6 (.v 7 (.v 8 (.t 9 (.v 10 (.v 11 .nil)))))))))))) moOrd (by kernel_rfl) ?_
   refine rvm rfl rfl (rvm rfl rfl (rvm rfl rfl (zb h fun y241 hy241 h => zq rfl (zhW (α := Int) sl22 rfl rfl hy241) (zq rfl (zh2 ty3 rfl zeT) (rvm rfl rfl (rvm rfl rfl (zb h fun y242 hy242 h => ?_)))))))
   refine zq rfl (zhW (α := Int) sl22 rfl rfl hy242) (zq rfl (zh2 ty3 rfl zeT) (zb h fun y243 hy243 h => zV rfl rfl (zd5 rfl (s2 rfl rfl) (zcK hy243) hT .nil (fun R H' hR => ?_))))
   obtain ⟨rfl, rfl⟩ := hR
   refine zq rfl (zaj rfl rfl) (zq rfl (zbG rfl) (zae (zfP 0 hn240 rfl (zy (zf h rfl (fun _ h => ?_) (fun _ h => ?_))))))
   ·exact zj (oM rfl (zD h fun q244 h => oV (zaf rfl rfl q244) (oA rfl (zx (zk (hL148 _ () h _ (ze 30 rfl rfl (za (j := 14) rfl hI (za (j := 15) rfl hI (za (j := 0) rfl (vecvE (by first | rfl | simp)) zd))) k1)))))))
   exact zj (oM rfl (oA rfl (zx (zk (hL148 _ () h _ (ze 29 rfl rfl (za (j := 14) rfl hI (za (j := 15) rfl hI (za (j := 0) rfl (vecvE (by first | rfl | simp)) zd))) k1))))))
  refine zad (zU (eL148 _ _ (zH (zy (zn (wsr (oM rfl (oA rfl ?_))))))))
  refine rnf (zu (za5 (ι := (List Int) × Int) (γ := Unit) (fun q245 g245 => [(17, isv (q245.2)), (0, vecv zaa (q245.1.length))]) (fun q245 g245 => [vecE zaa (q245.1 : List Int)]) h () (za (j := 17) rfl hI (za (j := 0) rfl (vecvE (by first | rfl | simp)) zd)) k1 (fun L246 q245 g245 Q280 h hL246 eL246 rL246 => ?_)))
  refine zn (wsr (oM rfl (oM rfl (oV (zbU rfl rfl) (rnf (zf h rfl (fun _ h => ?_) (fun _ h => ?_)))))))
  ·refine wkf (zn (zu (zW (.v 0 (.v 1 (.v 2 (.v 3 (.v 4 (.v 5 (.v 6 (.v 7 (.v 8 (.v 10 (.v 11 (.v 12 (.alt 9 (.t 13 (.v 14 (.t 15 (.v 16 (.t 17 .nil))))) (.t 13 (.t 9 (.v 14 (.t 15 (.v 16 (.t 17 .nil))))))))))))))))))) moOrd (by kernel_rfl) ?_)))
   refine rvm rfl rfl (rvm rfl rfl (rvm rfl rfl (rvm rfl rfl (zD h fun q269 h => zq rfl (zbO rfl rfl q269) (rvm rfl rfl (rvm rfl rfl (zD h fun q270 h => ?_)))))))
   refine zq rfl (zbO rfl rfl q270) (zT h fun q271 h => zq rfl (zaH (α := Int) sl22 rfl rfl q271.1 q271.2) (rvm rfl rfl (rvm rfl rfl (zT h fun q272 h => zq rfl (zaH (α := Int) sl22 rfl rfl q272.1 q272.2) (zb h fun y273 hy273 h => zb h fun y274 hy274 h => ?_)))))
   refine zT h fun q275 h => zb h fun y276 hy276 h => zT h fun q277 h => zb h fun y278 hy278 h => zD h fun q279 h => zbP ?_ ?_
   ·refine zV rfl rfl (zaU ty3 rfl .here hy273 ?_)
    refine zV rfl rfl (zaU ty3 rfl .here hy274 ?_)
    refine zq rfl (zaH (α := Int) sl22 rfl rfl q275.1 q275.2) (zV rfl rfl (za8 ty3 rfl rfl .here hy276 (zq rfl (zaH (α := Int) sl22 rfl rfl q277.1 q277.2) (zV rfl rfl (za8 ty3 rfl rfl .here hy278 (zae (zk (zy (zj (oM rfl ?_))))))))))
    exact oV (zbO rfl rfl q279) (oA rfl (zx (hL246 _ () h _ (ze 24 rfl rfl (za (j := 17) rfl hI (za (j := 0) rfl (vecvE (by first | rfl | simp)) zd)) k1))))
   refine zV rfl rfl (zaU ty3 rfl .here hy274 ?_)
   refine zV rfl rfl (zaU ty3 rfl .here hy273 ?_)
   refine zq rfl (zaH (α := Int) sl22 rfl rfl q275.1 q275.2) (zV rfl rfl (za8 ty3 rfl rfl .here hy276 (zq rfl (zaH (α := Int) sl22 rfl rfl q277.1 q277.2) (zV rfl rfl (za8 ty3 rfl rfl .here hy278 (zae (zk (zy (zj (oM rfl ?_))))))))))
   exact oV (zbO rfl rfl q279) (oA rfl (zx (hL246 _ () h _ (ze 24 rfl rfl (za (j := 17) rfl hI (za (j := 0) rfl (vecvE (by first | rfl | simp)) zd)) k1))))
  refine zad (zU (eL246 _ _ (zH (zy (zM (zB ?_))))))
  cases h
  exact zo .nil k1 ⟨rfl, rfl⟩
 refine wkf (wsr (oM rfl (oM rfl (zD h fun q282 h => oV (zaf rfl rfl q282) (oV (zhT Tryd.underlying3 Tryd.underlying24 rfl) (oV (zic (q := (1 : UInt64)) rfl rfl (by decide)) ?_))))))
 refine zD h fun q283 h => oV (zga Tryd.underlying24 Tryd.underlying3 rfl q283) (oA rfl (rnf (wsr (oM rfl (oM rfl (zD h fun q284 h => oV (zaf rfl rfl q284) ?_))))))
 refine oA rfl (rnf (wsr (oA rfl (oA rfl (rnf (zn (wsr (oM rfl ?_))))))))
 refine oM rfl (oV (zbU rfl rfl) (rnf (zc3 (ι := Int × Int) (γ := Unit) (fun q285 g285 => [(20, isv (q285.1)), (21, isv (q285.2))]) (fun q285 g285 => []) .nil h (fun q285 g285 h => ?_) (fun J286 h hJ286 => ?_))))
 ·refine wsr (oM rfl (zD h fun q288 h => oV (zbO rfl rfl q288) (oA rfl (rnf (zn (zu (za5 (ι := (List Int) × Int × Int) (γ := Unit) (fun q289 g289 => [(20, isv (q289.2.1)), (21, isv (q289.2.2)), (0, vecv zaa (q289.1.length))]) (fun q289 g289 => [vecE zaa (q289.1 : List Int)]) h () (za (j := 20) rfl hI (za (j := 21) rfl hI (za (j := 0) rfl (vecvE (by first | rfl | simp)) zd))) k1 (fun L290 q289 g289 Q378 h hL290 eL290 rL290 => ?_))))))))
  refine zn (wsr (oM rfl (oM rfl (oV (zaj rfl rfl) (rnf (zf h rfl (fun _ h => ?_) (fun _ h => ?_)))))))
  ·refine wkf (zu (wsr (oM rfl (oM rfl (zD h fun q349 h => oV (zaf rfl rfl q349) (oV (zhT Tryd.underlying3 Tryd.underlying24 rfl) (oV (zic (q := (1 : UInt64)) rfl rfl (by decide)) ?_)))))))
   refine zD h fun q350 h => oV (zga Tryd.underlying24 Tryd.underlying3 rfl q350) (oA rfl (rnf (zn (zkE 0 .here rfl (by first | rfl | simp) (fun o351 hn352 => ?_)))))
   refine zW (.v 0 (.v 1 (.v 2 (.v 3 (.v 4 (.v 5 (.v 6 (.v 7 (.v 8 (.v 9 (.v 10 (.t 11 (.v 12 (.v 13 .nil)))))))))))))) moOrd (by kernel_rfl) ?_
   refine rvm rfl rfl (rvm rfl rfl (rvm rfl rfl (rvm rfl rfl (zD h fun q353 h => zq rfl (zbO rfl rfl q353) (zb h fun y354 hy354 h => zq rfl (zhW (α := Int) sl22 rfl rfl hy354) (zq rfl (zh2 ty3 rfl zeT) ?_))))))
   refine rvm rfl rfl (rvm rfl rfl (zb h fun y355 hy355 h => zq rfl (zhW (α := Int) sl22 rfl rfl hy355) (zq rfl (zh2 ty3 rfl zeT) (zb h fun y356 hy356 h => zV rfl rfl (zd5 rfl (s2 rfl rfl) (zcK hy356) hT .nil (fun R H' hR => ?_))))))
   obtain ⟨rfl, rfl⟩ := hR
   refine zq rfl (zaj rfl rfl) (zq rfl (zbG rfl) (zae (zfP 0 hn352 rfl (zy (zf h rfl (fun _ h => ?_) (fun _ h => ?_))))))
   ·exact zj (oM rfl (zD h fun q357 h => oV (zaf rfl rfl q357) (oA rfl (zx (zk (hL290 _ () h _ (ze 32 rfl rfl (za (j := 20) rfl hI (za (j := 21) rfl hI (za (j := 0) rfl (vecvE (by first | rfl | simp)) zd))) k1)))))))
   exact zj (oM rfl (oA rfl (zx (zk (hL290 _ () h _ (ze 31 rfl rfl (za (j := 20) rfl hI (za (j := 21) rfl hI (za (j := 0) rfl (vecvE (by first | rfl | simp)) zd))) k1))))))
  refine zad (zU (eL290 _ _ (zH (zy (wsr (oM rfl (oM rfl (zD h fun q358 h => ?_))))))))
  refine oV (zbO rfl rfl q358) (oA rfl (rnf (zn (wsr (oM rfl (oM rfl (oV (zaj rfl rfl) (oM rfl ?_))))))))
  refine zau (jb 185) je .nil h 4 rfl (fun q359 g359 h => ?_) (fun J360 h hJ360 => ?_)
  ·refine rnf (zc3 (ι := (List Int)) (γ := Unit) (fun q362 g362 => [(0, vecv zaa (q362.length))]) (fun q362 g362 => [vecE zaa (q362 : List Int)]) k1 h (fun q362 g362 h => ?_) (fun J363 h hJ363 => ?_))
   ·refine zn (wsr (oM rfl (oM rfl (oV (zaj rfl rfl) (oM rfl (zau (jb 199) je .nil h 4 rfl (fun q366 g366 h => ?_) (fun J367 h hJ367 => ?_)))))))
    ·refine rnf (zc3 (ι := (List Int)) (γ := Unit) (fun q369 g369 => [(0, vecv zaa (q369.length))]) (fun q369 g369 => [vecE zaa (q369 : List Int)]) k1 h (fun q369 g369 h => ?_) (fun J370 h hJ370 => ?_))
     ·refine wsr (oM rfl (oM rfl (oV (zaj rfl rfl) (oM rfl (zau (jb 213) je .nil h 4 rfl (fun q373 g373 h => ?_) (fun J374 h hJ374 => ?_))))))
      ·refine rnf (zf h rfl (fun _ h => ?_) (fun _ h => ?_))
       ·refine zj (oM rfl (oM rfl (oM rfl (oM rfl (oM rfl (zb h fun y376 hy376 h => oT (zz (zcA hy376) hT (.cons rfl (fun _ _ h => vecvE (by first | rfl | simp) _ _ h) (s4 rfl rfl rfl rfl)) k1 ?_)))))))
        refine zT h fun q377 h => zX (zai 0 rfl (vecvE q377.symm)) (zX (zai 214 rfl (vecvE q377.symm)) (zx (zan .nil k1 ?_)))
        cases h
        exact ⟨rfl, rfl⟩
       refine zY (zan .nil k1 ?_)
       cases h
       exact ⟨rfl, rfl⟩
      refine zC (j := 209) h rfl (fun g375 h => ?_) (fun g375 h => ?_)
      ·exact oK 209 rfl rfl rfl g375 (zw rfl) (oK 209 rfl rfl rfl g375 (zw rfl) (oK 209 rfl rfl rfl g375 (zaj rfl rfl) (oV (zs rfl g375 rfl) (hJ374 _ () h _ (jk 4 213 rfl rfl rfl)))))
      exact oP 209 rfl rfl g375 (oP 209 rfl rfl g375 (oP 209 rfl rfl g375 (oV (zt rfl g375 rfl) (hJ374 _ () h _ (jk 4 213 rfl rfl rfl)))))
     refine zf h rfl (fun _ h => ?_) (fun _ h => ?_)
     ·refine zj (oM rfl (oM rfl (oM rfl (oM rfl (oM rfl (zb h fun y371 hy371 h => oT (zz (zcA hy371) hT (.cons rfl (fun _ _ h => vecvE (by first | rfl | simp) _ _ h) (s4 rfl rfl rfl rfl)) k1 ?_)))))))
      exact zT h fun q372 h => zX (zai 0 rfl (vecvE q372.symm)) (zX (zai 200 rfl (vecvE q372.symm)) (zx (hJ370 _ () h _ (ze 8 rfl rfl (za (j := 0) rfl (vecvE (by first | rfl | simp)) zd) k1))))
     exact zY (hJ370 _ () h _ (ze 0 rfl rfl (za (j := 0) rfl (vecvE (by first | rfl | simp)) zd) k1))
    refine zC (j := 195) h rfl (fun g368 h => ?_) (fun g368 h => ?_)
    ·exact oK 195 rfl rfl rfl g368 (zw rfl) (oK 195 rfl rfl rfl g368 (zw rfl) (oK 195 rfl rfl rfl g368 (zaj rfl rfl) (oV (zs rfl g368 rfl) (hJ367 _ () h _ (jk 4 199 rfl rfl rfl)))))
    exact oP 195 rfl rfl g368 (oP 195 rfl rfl g368 (oP 195 rfl rfl g368 (oV (zt rfl g368 rfl) (hJ367 _ () h _ (jk 4 199 rfl rfl rfl)))))
   refine zf h rfl (fun _ h => ?_) (fun _ h => ?_)
   ·refine zj (oM rfl (oM rfl (oM rfl (oM rfl (oM rfl (zb h fun y364 hy364 h => oT (zz (zeA hy364) hT (.cons rfl (fun _ _ h => vecvE (by first | rfl | simp) _ _ h) (s4 rfl rfl rfl rfl)) k1 ?_)))))))
    exact zT h fun q365 h => zX (zai 0 rfl (vecvE q365.symm)) (zX (zai 186 rfl (vecvE q365.symm)) (zx (hJ363 _ () h _ (ze 8 rfl rfl (za (j := 0) rfl (vecvE (by first | rfl | simp)) zd) k1))))
   exact zY (hJ363 _ () h _ (ze 0 rfl rfl (za (j := 0) rfl (vecvE (by first | rfl | simp)) zd) k1))
  refine zC (j := 181) h rfl (fun g361 h => ?_) (fun g361 h => ?_)
  ·exact oK 181 rfl rfl rfl g361 (zw rfl) (oK 181 rfl rfl rfl g361 (zw rfl) (oK 181 rfl rfl rfl g361 (zaj rfl rfl) (oV (zs rfl g361 rfl) (hJ360 _ () h _ (jk 4 185 rfl rfl rfl)))))
  exact oP 181 rfl rfl g361 (oP 181 rfl rfl g361 (oP 181 rfl rfl g361 (oV (zt rfl g361 rfl) (hJ360 _ () h _ (jk 4 185 rfl rfl rfl)))))
 refine zf h rfl (fun _ h => ?_) (fun _ h => ?_)
 ·refine wsr (oM rfl (oM rfl (zD h fun q287 h => oV (zbO rfl rfl q287) (oA rfl (rnf (zj (oM rfl ?_)))))))
  exact oA rfl (zx (hJ286 _ () h _ (ze 6 rfl rfl (za (j := 20) rfl hI (za (j := 21) rfl hI zd)) k1)))
 exact wsr (oM rfl (oA rfl (rnf (zj (oM rfl (oA rfl (zx (hJ286 _ () h _ (ze 4 rfl rfl (za (j := 20) rfl hI (za (j := 21) rfl hI zd)) k1)))))))))

theorem zce : ∀ n, zbV (zby n)
 | 0 => fun h => (by cases h)
 | n + 1 => zef (zce n)
theorem zcB (n : Nat) : zbV (zby n) := (zce n)

theorem zeB : ∀ {zaS : (List Int)} {a_n_ : Int} {zao : GTab} {zap : GTyp} {zaa : Vt} {r : (List Int)}, zcj zaS a_n_ zao zap = some r → Ctr Tryd.prog 93 [vecv zaa (zaS.length), isv (a_n_), clov 39 [immv (zao), immv (zap)]] [vecE zaa (zaS : List Int)] (fun R H => R = oneOf [] ∧ H = [vecE zaa (r)]) := by
 intro zaS a_n_ zao zap zaa r h
 unfold zcj at h
 refine zr Tryd.func93 rfl fun w0 S0 hT => wsr (oA rfl (rnf (wsr (oM rfl (oA rfl (oA rfl (rnf ?_)))))))
 refine zn (zu (za5 (ι := (List Int) × Int × Int) (γ := Unit) (fun q1 g1 => [(7, isv (q1.2.1)), (8, isv (q1.2.2)), (0, vecv zaa (q1.1.length))]) (fun q1 g1 => [vecE zaa (q1.1 : List Int)]) h () (za (j := 7) rfl hI (za (j := 8) rfl hI (za (j := 0) rfl (vecvE (by first | rfl | simp)) zd))) k1 (fun L2 q1 g1 Q183 h hL2 eL2 rL2 => ?_)))
 refine zn (wsr (oM rfl (oM rfl (oV (zlp rfl rfl) (rnf (zf h rfl (fun _ h => ?_) (fun _ h => ?_)))))))
 ·refine wkf (zu (wsr (oM rfl (oM rfl (oM rfl (oM rfl (zb h fun y123 hy123 h => oT (zz (zb5 hy123) hT (.cons rfl (fun _ _ h => vecvE (by first | rfl | simp) _ _ h) (s3 rfl rfl rfl)) k1 ?_))))))))
  refine zT h fun q124 h => zX (zai 0 rfl (vecvE q124.symm)) (zX (zai 14 rfl (vecvE q124.symm)) (rnf (wsr (oM rfl (oA rfl (rnf (zj ?_)))))))
  exact oM rfl (oM rfl (zD h fun q125 h => oV (zaf rfl rfl q125) (oA rfl (zx (zk (hL2 _ () h _ (ze 19 rfl rfl (za (j := 7) rfl hI (za (j := 8) rfl hI (za (j := 0) rfl (vecvE (by first | rfl | simp)) zd))) k1)))))))
 refine zad (zU (eL2 _ _ (zH (zy (wsr (oM rfl (oM rfl (oM rfl ?_))))))))
 refine oM rfl (zb h fun y126 hy126 h => oT (zz (zb5 hy126) hT (.cons rfl (fun _ _ h => vecvE (by first | rfl | simp) _ _ h) (s3 rfl rfl rfl)) k1 ?_))
 refine zT h fun q127 h => zX (zai 0 rfl (vecvE q127.symm)) (zX (zai 23 rfl (vecvE q127.symm)) (rnf (zu (za5 (ι := (List Int) × Int) (γ := Unit) (fun q128 g128 => [(6, isv (q128.2)), (7, anyv), (8, anyv), (23, anyv), (0, vecv zaa (q128.1.length))]) (fun q128 g128 => [vecE zaa (q128.1 : List Int)]) h () (za (j := 6) rfl hI (za (j := 7) rfl (fun _ _ _ => trivial) (za (j := 8) rfl (fun _ _ _ => trivial) (za (j := 23) rfl (fun _ _ _ => trivial) (za (j := 0) rfl (vecvE (by first | rfl | simp)) zd))))) k1 (fun L129 q128 g128 Q182 h hL129 eL129 rL129 => ?_)))))
 refine zn (wsr (oM rfl (oM rfl (oV (zaj rfl rfl) (rnf (zf h rfl (fun _ h => ?_) (fun _ h => ?_)))))))
 ·refine wkf (zu (wsr (oM rfl (zD h fun q156 h => oV (zon rfl rfl q156) (oA rfl (oA rfl (rnf ?_)))))))
  refine zn (zu (za5 (ι := (List Int) × Int × Int) (γ := Unit) (fun q157 g157 => [(7, isv (q157.2.1)), (8, isv (q157.2.2)), (0, vecv zaa (q157.1.length))]) (fun q157 g157 => [vecE zaa (q157.1 : List Int)]) h () (za (j := 7) rfl hI (za (j := 8) rfl hI (za (j := 0) rfl (vecvE (by first | rfl | simp)) zd))) k1 (fun L158 q157 g157 Q181 h hL158 eL158 rL158 => ?_)))
  refine zn (wsr (oM rfl (oM rfl (oV (zlp rfl rfl) (rnf (zf h rfl (fun _ h => ?_) (fun _ h => ?_)))))))
  ·refine wkf (zu (wsr (oM rfl (oM rfl (oM rfl (oM rfl (zD h fun q170 h => oV (zaf rfl rfl q170) ?_)))))))
   refine oM rfl (oM rfl (zb h fun y171 hy171 h => oT (zz (zcB fuel hy171) hT (.cons rfl (fun _ _ h => vecvE (by first | rfl | simp) _ _ h) (s4 rfl rfl rfl rfl)) k1 ?_)))
   refine zT h fun q172 h => zX (zai 0 rfl (vecvE q172.symm)) (zX (zai 36 rfl (vecvE q172.symm)) (rnf (wsr (oM rfl (oA rfl (rnf (zj ?_)))))))
   refine oM rfl (oM rfl (zD h fun q173 h => oV (zon rfl rfl q173) (zD h fun q174 h => oV (zaf rfl rfl q174) (oA rfl (zx (zk ?_))))))
   exact hL158 _ () h _ (ze 23 rfl rfl (za (j := 7) rfl hI (za (j := 8) rfl hI (za (j := 0) rfl (vecvE (by first | rfl | simp)) zd))) k1)
  refine zad (zU (eL158 _ _ (zH (zy (zn (wsr (oM rfl (oM rfl ?_))))))))
  refine zD h fun q175 h => oV (zaf rfl rfl q175) (oA rfl (rnf (wsr (oM rfl (oM rfl (oV (zaj rfl rfl) (rnf ?_)))))))
  refine zc3 (ι := (List Int)) (γ := Unit) (fun q176 g176 => [(0, vecv zaa (q176.length))]) (fun q176 g176 => [vecE zaa (q176 : List Int)]) k1 h (fun q176 g176 h => ?_) (fun J177 h hJ177 => ?_)
  ·exact zj (oM rfl (zD h fun q180 h => oV (zon rfl rfl q180) (oA rfl (zx (zk (hL129 _ () h _ (ze 29 rfl rfl (za (j := 6) rfl hI (za (j := 7) rfl (fun _ _ _ => trivial) (za (j := 8) rfl (fun _ _ _ => trivial) (za (j := 23) rfl (fun _ _ _ => trivial) (za (j := 0) rfl (vecvE (by first | rfl | simp)) zd))))) k1)))))))
  refine zf h rfl (fun _ h => ?_) (fun _ h => ?_)
  ·refine zj (oM rfl (oM rfl (oM rfl (oM rfl (oM rfl (zb h fun y178 hy178 h => oT (zz (zcB fuel hy178) hT (.cons rfl (fun _ _ h => vecvE (by first | rfl | simp) _ _ h) (s4 rfl rfl rfl rfl)) k1 ?_)))))))
   exact zT h fun q179 h => zX (zai 0 rfl (vecvE q179.symm)) (zX (zai 55 rfl (vecvE q179.symm)) (zx (hJ177 _ () h _ (ze 8 rfl rfl (za (j := 0) rfl (vecvE (by first | rfl | simp)) zd) k1))))
  exact zY (hJ177 _ () h _ (ze 0 rfl rfl (za (j := 0) rfl (vecvE (by first | rfl | simp)) zd) k1))
 refine zad (zU (eL129 _ _ (zH (zan .nil k1 ?_))))
 cases h
 exact ⟨rfl, rfl⟩


theorem zdN : ∀ {a_x : (List Int)} {zao : GTab} {zap : GTyp} {zmP : Vt} {r : (List Int)}, zbJ a_x zao zap = some r → Ctr Tryd.prog 61 [vecv zmP (a_x.length), clov 39 [immv (zao), immv (zap)]] [vecE zmP (a_x : List Int)] (fun R H => R = oneOf [] ∧ H = [vecE zmP (r)]) := by
 intro a_x zao zap zmP r h
 unfold zbJ at h
 refine zr Tryd.func61 rfl fun w0 S0 hT => zj (oM rfl (oM rfl (oV (zgZ sl22 rfl) (oM rfl (zb h fun y1 hy1 h => oT (zz (zeB hy1) hT (.cons rfl (fun _ _ h => vecvE (by first | rfl | simp) _ _ h) (s2 rfl rfl)) k1 ?_))))))
 refine zT h fun q2 h => zX (zai 0 rfl (vecvE q2.symm)) (zX (zai 4 rfl (vecvE q2.symm)) (zX (zai 5 rfl (vecvE q2.symm)) (zx (zan .nil k1 ?_))))
 cases h
 exact ⟨rfl, rfl⟩


theorem ziB : ∀ {zfv : GTab} {zfl : GTyp} {a_l : (List Int)} {zez : (List Int)} {zc4 : Vt} {r : (List Int)}, zfC zfv zfl a_l zez = some r → Ctr Tryd.prog 38 [clov 39 [immv (zfv), immv (zfl)], vecv zc4 (a_l.length), isv (zez)] [vecE zc4 (a_l : List Int)] (fun R H => R = oneOf [isv (r)] ∧ H = []) := by
 intro zfv zfl a_l zez zc4 r h
 unfold zfC at h
 refine zr Tryd.func38 rfl fun w0 S0 hT => wsr (oA rfl (zX (ze5 (α := Int)) (zX (zai 6 rfl nilvV) (rnf (wsr (oM rfl (oM rfl ?_)))))))
 refine zb h fun y2 hy2 h => oT (zz (zdN hy2) hT (.cons rfl (fun _ _ h => vecvE (by first | rfl | simp) _ _ h) (s1 rfl)) (.cons tH .nil) ?_)
 refine zT h fun q3 h => zX (zai 1 rfl (vecvE q3.symm)) (zX (zai 7 rfl (vecvE q3.symm)) (rnf (wsr (oM rfl (oM rfl (zZ h fun q5 h => oT (zgz (m := zez) zcW rfl rfl hI .here (by first | rfl | simp) q5 fun v4 => ?_)))))))
 refine oA rfl (rnf (zM (zgo (zfq 6 .here rfl (by first | rfl | simp)) ?_)))
 cases h
 exact zo (.tmp rfl .nil) .nil ⟨rfl, rfl⟩


theorem ziY : ∀ {a_t : GTab} {a_i : Int} {r : (List Int)}, zeq a_t a_i = some r → Ctr Tryd.prog 14 [isv (a_t), isv (a_i)] [] (fun R H => R = oneOf [isv (r)] ∧ H = []) := by
 intro a_t a_i r h
 unfold zeq at h
 refine zr Tryd.func14 rfl fun w0 S0 hT => wsr (oT (zbA (y := a_t) rfl hI (oA rfl (rnf (wsr (oV (zg ty40 rfl) (oM rfl (zb h fun y1 hy1 h => ?_))))))))
 refine oT (zz (zgL hy1) hT (s2 rfl rfl) .nil (oT (zab _ ze54 fun b2 => oT (zi (y' := (y1 : GTyp)) ty54 rfl rfl hI .here rfl (zX (zaq 5 .here rfl) (rnf (wsr (oV (zac rfl GTyp.f4 zch rfl (z := y1.fields)) (oV (zg ty52 rfl) (oV (za2 (l := y1.fields) rfl hI sl52) ?_))))))))))
 refine oA rfl (rnf (zn (wsr (oV (zac rfl GTyp.f0 zeJ rfl (z := y1.kind)) (oV (zg ty3 rfl) (rnf (zu (wsr ?_))))))))
 refine oV (zal rfl rfl) (oA rfl (rnf (zf h rfl (fun _ h => ?_) (fun _ h => ?_))))
 ·refine wsr (oM rfl (zb h fun y3 hy3 h => oT (zL (zds hy3) hT (s2 rfl rfl) .nil (fun R H' hR => ?_))))
  obtain ⟨v4, rfl, rfl⟩ := hR
  refine oA rfl (rnf (zM (zE (zB (zgo (zfq 4 .here rfl (by first | rfl | simp)) ?_)))))
  cases h
  exact zo (.tmp rfl .nil) .nil ⟨rfl, rfl⟩
 refine zn (wsr (oV (zal rfl rfl) (oA rfl (rnf (zc3 (jb 20) je .nil h (fun q5 g5 h => ?_) (fun J6 h hJ6 => ?_))))))
 ·refine zf h rfl (fun _ h => ?_) (fun _ h => ?_)
  ·refine wsr (oV (zac rfl GTyp.f5 zhw rfl (z := y1.root)) (oV (zg ty3 rfl) (oV (zpL rfl rfl) (oM rfl (oV (zpP rfl rfl) (oA rfl (rnf (wsr ?_))))))))
   refine oV (zg2 (s2 rfl rfl)) (oM rfl (zb h fun y7 hy7 h => oT (zL (zds hy7) hT (s2 rfl rfl) .nil (fun R H' hR => ?_))))
   obtain ⟨v8, rfl, rfl⟩ := hR
   refine oM rfl (oM rfl (zb h fun y9 hy9 h => oT (zL (zds hy9) hT (s2 rfl rfl) .nil (fun R H' hR => ?_))))
   obtain ⟨v10, rfl, rfl⟩ := hR
   refine zX (zfq 33 .here rfl (by first | rfl | simp)) ?_
   refine zb h fun y11 hy11 h => oT (zz (ziB hy11) hT (.same rfl (.cons rfl (fun _ _ h => vecvE (by first | rfl | simp) _ _ h) (s1 rfl))) k1 ?_)
   refine oA rfl (rnf (zM (zE (zB ?_))))
   cases h
   exact zo (.tmp rfl .nil) .nil ⟨rfl, rfl⟩
  refine zY (zk (zy (wsr (oA rfl (rnf (zM ?_))))))
  cases h
  exact zo (.as rfl (zdt (α := Int)) .nil) .nil ⟨rfl, rfl⟩
 refine zf h rfl (fun _ h => ?_) (fun _ h => ?_)
 ·exact zY (hJ6 _ () h _ (ji 0 20 rfl rfl rfl))
 exact zj (oV (zal rfl rfl) (oA rfl (zx (hJ6 _ () h _ (ji 2 20 rfl rfl rfl)))))


theorem zgP : ∀  {r : Bool}, zcM  = some r → Ctr Tryd.prog 11 [] [] (fun R H => R = oneOf [isv (r)] ∧ H = []) := by
 intro  r h
 unfold zcM at h
 refine zr Tryd.func11 rfl fun w0 S0 hT => wsr (oA rfl (rnf (wsr (zb h fun y1 hy1 h => oT (zz (zeV hy1) hT (s1 rfl) .nil (oM rfl (oV (zav rfl rfl) ?_)))))))
 refine oV (zav rfl rfl) (oT (zab _ ze40 fun b2 => oT (zi (y' := (y1.1 : GTab)) ty40 rfl rfl hI .here rfl (zX (zaq 1 .here rfl) (oA rfl (rnf (wsr (oV (zg ty40 rfl) (zb h fun y3 hy3 h => ?_)))))))))
 refine oT (zz (ziY hy3) hT (s2 rfl rfl) .nil (oA rfl (rnf (wsr (oM rfl (oM rfl (zau (jb 15) je .nil h 4 rfl (fun q4 g4 h => ?_) (fun J5 h hJ5 => ?_))))))))
 ·refine oM rfl (zau (jb 21) je .nil h 5 rfl (fun q7 g7 h => ?_) (fun J8 h hJ8 => ?_))
  ·refine oM rfl (zau (jb 27) je .nil h 5 rfl (fun q11 g11 h => ?_) (fun J12 h hJ12 => ?_))
   ·refine oA rfl (rnf (zM ?_))
    cases h
    exact zo (.tmp rfl .nil) .nil ⟨rfl, rfl⟩
   refine zC (j := 22) h rfl (fun g13 h => ?_) (fun g13 h => ?_)
   ·exact oK 22 rfl rfl rfl g13 (zw rfl) (zb h fun y14 hy14 h => oK 22 rfl rfl rfl g13 (zaG (l := y3) rfl hI rfl sl22 hy14) (oK 22 rfl rfl rfl g13 (zg ty3 rfl) (oK 22 rfl rfl rfl g13 (zal rfl rfl) (oV (zs rfl g13 rfl) (hJ12 _ () h _ (ji 5 27 rfl rfl rfl))))))
   exact oP 22 rfl rfl g13 (oP 22 rfl rfl g13 (oP 22 rfl rfl g13 (oP 22 rfl rfl g13 (oV (zt rfl g13 rfl) (hJ12 _ () h _ (ji 5 27 rfl rfl rfl))))))
  refine zC (j := 16) h rfl (fun g9 h => ?_) (fun g9 h => ?_)
  ·exact oK 16 rfl rfl rfl g9 (zw rfl) (zb h fun y10 hy10 h => oK 16 rfl rfl rfl g9 (zaG (l := y3) rfl hI rfl sl22 hy10) (oK 16 rfl rfl rfl g9 (zg ty3 rfl) (oK 16 rfl rfl rfl g9 (zal rfl rfl) (oV (zs rfl g9 rfl) (hJ8 _ () h _ (ji 5 21 rfl rfl rfl))))))
  exact oP 16 rfl rfl g9 (oP 16 rfl rfl g9 (oP 16 rfl rfl g9 (oP 16 rfl rfl g9 (oV (zt rfl g9 rfl) (hJ8 _ () h _ (ji 5 21 rfl rfl rfl))))))
 refine zC (j := 11) h rfl (fun g6 h => ?_) (fun g6 h => ?_)
 ·exact oK 11 rfl rfl rfl g6 (zw rfl) (oK 11 rfl rfl rfl g6 (za2 (l := y3) rfl hI sl22) (oK 11 rfl rfl rfl g6 (zal rfl rfl) (oV (zs rfl g6 rfl) (hJ5 _ () h _ (ji 4 15 rfl rfl rfl)))))
 exact oP 11 rfl rfl g6 (oP 11 rfl rfl g6 (oP 11 rfl rfl g6 (oV (zt rfl g6 rfl) (hJ5 _ () h _ (ji 4 15 rfl rfl rfl)))))

end Go.Proofs.Q


namespace Go.Proofs.Q
open Go.Sy
set_option maxRecDepth 4000
theorem zjk : ∀ {a_t : GTab} {a_i : Int} {r : (List (List Int))}, zeh a_t a_i = some r → Ctr Tryd.prog 17 [isv (a_t), isv (a_i)] [] (fun R H => R = oneOf [isv (r)] ∧ H = []) := by
 intro a_t a_i r h
 unfold zeh at h
 refine zr Tryd.func17 rfl fun w0 S0 hT => wsr (oT (zbA (y := a_t) rfl hI (oA rfl (zX (zaQ) (zX (ze5 (α := NL Int)) (zX (zai 4 rfl nilvV) (rnf (wsr ?_))))))))
 refine oV (zg ty40 rfl) (oM rfl (zb h fun y3 hy3 h => oT (zz (zgL hy3) hT (s2 rfl rfl) .nil (oT (zab _ ze54 fun b4 => oT (zi (y' := (y3 : GTyp)) ty54 rfl rfl hI .here rfl (zX (zaq 5 .here rfl) (rnf (zn ?_)))))))))
 refine wsr (oV (zac rfl GTyp.f0 zeJ rfl (z := y3.kind)) (oV (zg ty3 rfl) (oV (zb0 rfl rfl) (oM rfl (zau (jb 21) je .nil h 4 rfl (fun q5 g5 h => ?_) (fun J6 h hJ6 => ?_))))))
 ·refine oM rfl (zau (jb 26) je .nil h 4 rfl (fun q8 g8 h => ?_) (fun J9 h hJ9 => ?_))
  ·refine rnf (zf h rfl (fun _ h => ?_) (fun _ h => ?_))
   ·refine wsr (oA rfl (zX (zaQ) (zX (ze5 (α := NL Int)) (zX (zai 4 rfl nilvV) (rnf (zM (zB (zgo (zfq 4 .here rfl (by first | rfl | simp)) ?_))))))))
    refine zgo (zai 4 rfl (zlq (t := none) (L := (([] : (List (List Int))) : List (List Int))))) ?_
    cases h
    exact zo (.tmp rfl .nil) .nil ⟨rfl, rfl⟩
   refine wkf (wsr (oA rfl (zX (zaQ) (zX (ze5 (α := NL Int)) (zX (zai 6 rfl nilvV) (rnf (zn (wsr ?_))))))))
   refine oV (zac rfl GTyp.f5 zhw rfl (z := y3.root)) (oV (zg ty3 rfl) (oV (zpL rfl rfl) (oV (zac rfl GTyp.f4 zch rfl (z := y3.fields)) (oV (zg ty52 rfl) (oV (za2 (l := y3.fields) rfl hI sl52) (zb h fun y15 hy15 h => oT (zL (zds hy15) hT (s2 rfl rfl) .nil (fun R H' hR => ?_))))))))
   obtain ⟨v16, rfl, rfl⟩ := hR
   refine oV (zgZ sl22 rfl) (oM rfl (rnf (zu (za5 (ι := (List (List Int)) × Int) (γ := Vt × Tok) (fun q17 g17 => [(6, vecv g17.1 (q17.1.length)), (35, isv (q17.2))]) (fun q17 g17 => [vecE g17.1 (nestL g17.2 (q17.1 : List (List Int))), tokE g17.2]) h (none, none) (za (j := 6) rfl (vecvE (by first | rfl | simp)) (za (j := 35) rfl hI zd)) (.cons tH (.cons tH .nil)) (fun L18 q17 g17 Q79 h hL18 eL18 rL18 => ?_)))))
   refine wsr (oV (zaj rfl rfl) (rnf (zn (zf h rfl (fun _ h => ?_) (fun _ h => ?_)))))
   ·refine wkf (zn (zc3 (ι := (List (List Int))) (γ := Vt × Tok) (fun q49 g49 => [(6, vecv g49.1 (q49.length))]) (fun q49 g49 => [vecE g49.1 (nestL g49.2 (q49 : List (List Int))), tokE g49.2]) k2 h (fun q49 g49 h => ?_) (fun J50 h hJ50 => ?_)))
    ·exact zj (zD h fun q78 h => oV (zaf rfl rfl q78) (oM rfl (zx (hL18 _ (g49.1, g49.2) h _ (ze 6 rfl rfl (za (j := 6) rfl (vecvE (by first | rfl | simp)) (za (j := 35) rfl hI zd)) (.cons .here k4))))))
    refine zu (wsr (zT h fun q51 h => oV (zaH (α := Int) sl22 rfl rfl q51.1 q51.2) (zb h fun y52 hy52 h => oT (zaU ty3 rfl tI hy52 ?_))))
    refine oA rfl (rnf (wsr (oM rfl (oV (zgZ sl45 rfl) (zD h fun q53 h => oV (zbO rfl rfl q53) (oA rfl (rnf ?_)))))))
    refine zn (wsr (oV (zac rfl GTyp.f4 zch rfl (z := y3.fields)) (oV (zg ty52 rfl) (oM rfl (zb h fun y54 hy54 h => oV (zaG (l := y3.fields) rfl hI rfl sl52 hy54) (oV (zac rfl GFld.f5 zl3 rfl (z := y54.group)) (oV (zg ty3 rfl) ?_)))))))
    refine oA rfl (rnf (wsr (oV (zac rfl GTyp.f0 zeJ rfl (z := y3.kind)) (oV (zg ty3 rfl) (oV (zb0 rfl rfl) (oM rfl (zau (jb 54) je .nil h 3 rfl (fun q55 g55 h => ?_) (fun J56 h hJ56 => ?_))))))))
    ·refine oM rfl (zau (jb 58) je .nil h 3 rfl (fun q58 g58 h => ?_) (fun J59 h hJ59 => ?_))
     ·refine oM rfl (zau (jb 69) je .nil h 10 rfl (fun q61 g61 h => ?_) (fun J62 h hJ62 => ?_))
      ·refine rnf (zf h rfl (fun _ h => ?_) (fun _ h => ?_))
       ·refine wsr (oM rfl (oM rfl (oM rfl (oM rfl (zT h fun q66 h => oV (zaH (α := NL Int) sl45 rfl rfl q66.1 q66.2) (zT h fun q67 h => zb h fun y68 hy68 h => ?_))))))
        refine oT (zaU ty22 rfl .here (zg4 q67 hy68) ?_)
        refine zX (zai 75 rfl zpZ) (oM rfl (oT (zQ (l := ([y52] : (List Int))) el22 (.cons rfl hI .nil) rfl rfl (zZ h fun q71 h => oT (zbk (l := y68) (m := ([y52] : (List Int))) zcW rfl hI rfl zK tH q71 fun t70 => zT h fun q72 h => oV (zaH (α := NL Int) sl45 rfl rfl q72.1 q72.2) (zT h fun q73 h => zb h fun y74 hy74 h => ?_))))))
        refine zX (zai 78 rfl znN) (oT (za8 ty22 rfl rfl tH (zg4 q73 hy74) (zX (znI .here (zjI q73)) (zX (zai (R' := vecv g17.1 (q17.1.set ((((q17.1.length : Nat) : Int) - (1 : Int)).toNat) (y68 ++ ([y52] : (List Int)))).length) 6 rfl (vecvE (by simp))) ?_))))
        refine zX (zai (R' := vecv g17.1 (q17.1.set ((((q17.1.length : Nat) : Int) - (1 : Int)).toNat) (y68 ++ ([y52] : (List Int)))).length) 39 rfl (vecvE (by simp))) ?_
        refine zX (zai (R' := vecv g17.1 (q17.1.set ((((q17.1.length : Nat) : Int) - (1 : Int)).toNat) (y68 ++ ([y52] : (List Int)))).length) 70 rfl (vecvE (by simp))) ?_
        refine zX (zai (R' := vecv g17.1 (q17.1.set ((((q17.1.length : Nat) : Int) - (1 : Int)).toNat) (y68 ++ ([y52] : (List Int)))).length) 72 rfl (vecvE (by simp))) ?_
        exact rnf (zad (zU (zH (hJ50 _ (g17.1, t70) h _ (ze 39 rfl rfl (za (j := 6) rfl (vecvE (by first | rfl | simp)) zd) (.cons .here k4))))))
       refine wkf (zj (oM rfl (oM rfl (oT (zQ (l := ([y52] : (List Int))) el22 (.cons rfl hI .nil) rfl rfl (zX (zaQ) (oT (zQ (l := [NL.mk (([y52] : (List Int))) (some none)]) el45 (.cons rfl znN .nil) rfl rfl (zZ h fun q77 h => oT (zgz (m := [NL.mk (([y52] : (List Int))) (some none)]) zii rfl rfl zK tH (by first | rfl | simp) (by rw [zdr]; exact q77) fun v76 => ?_))))))))))
       refine zX (znK .here) (zX (zai (R' := vecv v76 (q17.1 ++ [([y52] : (List Int))]).length) 84 rfl (vecvE (by simp))) ?_)
       exact oA rfl (zx (zk (hJ50 _ (v76, none) h _ (ze 30 rfl rfl (za (j := 6) rfl (vecvE (by first | rfl | simp)) zd) (.cons .here (.cons .here (.cons tH (.cons tH (.cons tH .nil)))))))))
      refine zC (j := 59) h rfl (fun g63 h => ?_) (fun g63 h => ?_)
      ·refine oK 59 rfl rfl rfl g63 (zac rfl GTyp.f4 zch rfl (z := y3.fields)) (oK 59 rfl rfl rfl g63 (zg ty52 rfl) (oK 59 rfl rfl rfl g63 (zw rfl) (zD h fun q64 h => oK 59 rfl rfl rfl g63 (zbO rfl rfl q64) (zb h fun y65 hy65 h => oK 59 rfl rfl rfl g63 (zaG (l := y3.fields) rfl hI rfl sl52 hy65) (oK 59 rfl rfl rfl g63 (zac rfl GFld.f5 zl3 rfl (z := y65.group)) (oK 59 rfl rfl rfl g63 (zg ty3 rfl) ?_))))))
       exact oK 59 rfl rfl rfl g63 (zw rfl) (oK 59 rfl rfl rfl g63 (zal rfl rfl) (oV (zs rfl g63 rfl) (hJ62 _ () h _ (ze 10 rfl rfl (za (j := 69) rfl hI zd) (.cons .here k4)))))
      refine oP 59 rfl rfl g63 (oP 59 rfl rfl g63 (oP 59 rfl rfl g63 (oP 59 rfl rfl g63 (oP 59 rfl rfl g63 (oP 59 rfl rfl g63 (oP 59 rfl rfl g63 (oP 59 rfl rfl g63 (oP 59 rfl rfl g63 ?_))))))))
      exact oV (zt rfl g63 rfl) (hJ62 _ () h _ (ze 10 rfl rfl (za (j := 69) rfl hI zd) (.cons .here k4)))
     refine zC (j := 55) h rfl (fun g60 h => ?_) (fun g60 h => ?_)
     ·exact oK 55 rfl rfl rfl g60 (zw rfl) (oK 55 rfl rfl rfl g60 (ze4 rfl rfl) (oV (zs rfl g60 rfl) (hJ59 _ () h _ (ze 3 rfl rfl (za (j := 58) rfl hI zd) (.cons .here k4)))))
     exact oP 55 rfl rfl g60 (oP 55 rfl rfl g60 (oV (zt rfl g60 rfl) (hJ59 _ () h _ (ze 3 rfl rfl (za (j := 58) rfl hI zd) (.cons .here k4)))))
    refine zC (j := 51) h rfl (fun g57 h => ?_) (fun g57 h => ?_)
    ·exact oK 51 rfl rfl rfl g57 (zw rfl) (oK 51 rfl rfl rfl g57 (zbU rfl rfl) (oV (zs rfl g57 rfl) (hJ56 _ () h _ (ze 3 rfl rfl (za (j := 54) rfl hI zd) (.cons .here k4)))))
    exact oP 51 rfl rfl g57 (oP 51 rfl rfl g57 (oV (zt rfl g57 rfl) (hJ56 _ () h _ (ze 3 rfl rfl (za (j := 54) rfl hI zd) (.cons .here k4)))))
   refine zad (zU (eL18 _ _ (zH (zy (wsr (oM rfl (oA rfl (rnf ?_))))))))
   refine zM (zgo (zfq 4 .here rfl (by first | rfl | simp)) ?_)
   refine zgo (zai 4 rfl (zlq (t := g17.2) (L := (q17.1 : List (List Int))))) ?_
   cases h
   exact zo (.tmp rfl .nil) .nil ⟨rfl, rfl⟩
  refine zC (j := 22) h rfl (fun g10 h => ?_) (fun g10 h => ?_)
  ·exact oK 22 rfl rfl rfl g10 (zac rfl GTyp.f0 zeJ rfl (z := y3.kind)) (oK 22 rfl rfl rfl g10 (zg ty3 rfl) (oK 22 rfl rfl rfl g10 (zb0 rfl rfl) (oV (zs rfl g10 rfl) (hJ9 _ () h _ (ze 4 rfl rfl (za (j := 26) rfl hI zd) k2)))))
  exact oP 22 rfl rfl g10 (oP 22 rfl rfl g10 (oP 22 rfl rfl g10 (oV (zt rfl g10 rfl) (hJ9 _ () h _ (ze 4 rfl rfl (za (j := 26) rfl hI zd) k2)))))
 refine zC (j := 17) h rfl (fun g7 h => ?_) (fun g7 h => ?_)
 ·exact oK 17 rfl rfl rfl g7 (zac rfl GTyp.f0 zeJ rfl (z := y3.kind)) (oK 17 rfl rfl rfl g7 (zg ty3 rfl) (oK 17 rfl rfl rfl g7 (zb0 rfl rfl) (oV (zs rfl g7 rfl) (hJ6 _ () h _ (ze 4 rfl rfl (za (j := 21) rfl hI zd) k2)))))
 exact oP 17 rfl rfl g7 (oP 17 rfl rfl g7 (oP 17 rfl rfl g7 (oV (zt rfl g7 rfl) (hJ6 _ () h _ (ze 4 rfl rfl (za (j := 21) rfl hI zd) k2)))))


end Go.Proofs.Q


namespace Go.Proofs.Q
open Go.Sy
set_option maxRecDepth 4000
end Go.Proofs.Q


namespace Go.Proofs.Q
open Go.Sy
set_option maxRecDepth 4000
theorem zcy : ∀ {a_a0 : Int} {zkb : Nat} {r : Str × Int}, zbb a_a0 = some r → Ctr Tryd.prog 15 [ptrv zkb (Fld.id Int)] [boxE zkb (a_a0 : Int)] (fun R H => R = oneOf [isv (r.1)] ∧ H = [boxE zkb (r.2)]) := by
 intro a_a0 zkb r h
 unfold zbb at h
 refine zr Tryd.func15 rfl fun w0 S0 hT => wsr (oA rfl (rnf (wsr (oT (zI (R := isv (a_a0)) ty3 rfl .here hI (zD h fun q1 h => oV (zaf rfl rfl q1) (oT (zi (y' := ((a_a0 + (1 : Int)) : Int)) ty3 rfl rfl hI .here rfl ?_))))))))
 refine rnf (zn (zcG 0 .here rfl (fun o2 hn3 => zW (.v 0 (.v 1 (.v 5 (.v 6 (.t 2 (.v 3 (.v 4 (.t 7 (.v 8 (.v 9 (.v 10 .nil))))))))))) moOrd (by kernel_rfl) ?_)))
 refine zq rfl (zcL (R := isv ((a_a0 + (1 : Int)))) ty3 rfl (List.Mem.head _) hI) (zq rfl (zhT Tryd.underlying3 Tryd.underlying26 rfl) (zq rfl (zcL (R := isv ((a_a0 + (1 : Int)))) ty3 rfl (List.Mem.head _) hI) (zq rfl (zhT Tryd.underlying3 Tryd.underlying26 rfl) (zb h fun y4 hy4 h => zV rfl rfl (zz (zjf fuel hy4) hT (s1 rfl) .nil (zZ h fun q5 h => zq rfl (zdF rfl rfl q5) (zZ h fun q6 h => ?_)))))))
 refine zq rfl (zdF rfl rfl q6) (zb h fun y7 hy7 h => zV rfl rfl (zz (zjf fuel hy7) hT (s1 rfl) .nil (zZ h fun q8 h => zq rfl (zdF rfl rfl q8) (zZ h fun q9 h => zq rfl (zdF rfl rfl q9) (zq rfl (za1 rfl) (zae ?_))))))
 refine zaN 0 hn3 rfl (zy (zM ?_))
 cases h
 exact zo (.tmp rfl .nil) k1 ⟨rfl, rfl⟩


theorem zhG : ∀ {a_x : Int} {a_y : Int} {r : Bool}, zdy a_x a_y = some r → Ctr Tryd.prog 64 [isv (a_x), isv (a_y)] [] (fun R H => R = oneOf [isv (r)] ∧ H = []) := by
 intro a_x a_y r h
 unfold zdy at h
 refine zr Tryd.func64 rfl fun w0 S0 hT => wsr (oA rfl (rnf (wsr (oM rfl (oM rfl (oV (zal rfl rfl) (oA rfl ?_)))))))
 refine rnf (zM ?_)
 cases h
 exact zo (.tmp rfl .nil) .nil ⟨rfl, rfl⟩


theorem zjV : ∀ {a_a : (List Int)} {a_b : (List Int)} {r : Bool}, zfD a_a a_b = some r → Ctr Tryd.prog 63 [isv (a_a), isv (a_b), clov 64 []] [] (fun R H => R = oneOf [isv (r)] ∧ H = []) := by
 intro a_a a_b r h
 unfold zfD at h
 refine zr Tryd.func63 rfl fun w0 S0 hT => wsr (oA rfl (rnf (zn (wsr (oM rfl (oV (za2 (l := a_a) rfl hI sl22) (oM rfl ?_)))))))
 refine oV (za2 (l := a_b) rfl hI sl22) (oV (zb0 rfl rfl) (rnf (zf h rfl (fun _ h => ?_) (fun _ h => ?_))))
 ·refine wsr (oA rfl (rnf (zM (zB ?_))))
  cases h
  exact zo (.tmp rfl .nil) .nil ⟨rfl, rfl⟩
 refine wkf (zn (wsr (oA rfl (rnf (zu (za5 (ι := Int) (γ := Unit) (fun q1 g1 => [(7, isv (q1))]) (fun q1 g1 => []) h () (za (j := 7) rfl hI zd) .nil (fun L2 q1 g1 Q11 h hL2 eL2 rL2 => zn (wsr ?_))))))))
 refine oM rfl (oM rfl (oV (za2 (l := a_a) rfl hI sl22) (oV (zaj rfl rfl) (rnf (zf h rfl (fun _ h => ?_) (fun _ h => ?_))))))
 ·refine wkf (zn (zu (zn (zW (.v 0 (.v 1 (.v 2 (.v 3 (.v 4 (.v 5 (.v 6 (.v 7 (.v 8 (.t 9 (.v 10 .nil))))))))))) moOrd (by kernel_rfl) ?_))))
  refine rvm rfl rfl (rvm rfl rfl (rvm rfl rfl (zb h fun y7 hy7 h => zq rfl (zaG (l := a_a) rfl hI rfl sl22 hy7) (zq rfl (zg ty3 rfl) (rvm rfl rfl (rvm rfl rfl (zb h fun y8 hy8 h => ?_)))))))
  refine zq rfl (zaG (l := a_b) rfl hI rfl sl22 hy8) (zq rfl (zg ty3 rfl) (zb h fun y9 hy9 h => zV rfl rfl (zd5 rfl (s2 rfl rfl) (zhG hy9) hT .nil (fun R H' hR => ?_))))
  obtain ⟨rfl, rfl⟩ := hR
  refine zq rfl (zbG rfl) (zae (zy (zf h rfl (fun _ h => ?_) (fun _ h => ?_))))
  ·refine wsr (oA rfl (rnf (zM (zE (zB (rL2 _ (zE (zB ?_))))))))
   cases h
   exact zo (.tmp rfl .nil) .nil ⟨rfl, rfl⟩
  refine zY (zk (zy (zj (oM rfl (zD h fun q10 h => oV (zaf rfl rfl q10) (oA rfl (zx ?_)))))))
  exact hL2 _ () h _ (ji 19 7 rfl rfl rfl)
 refine zad (zU (eL2 _ _ (zH (zy (wsr (oA rfl (rnf (zM ?_))))))))
 cases h
 exact zo (.tmp rfl .nil) .nil ⟨rfl, rfl⟩


theorem zjj : ∀ {a_a : (List Int)} {a_b : (List Int)} {r : Bool}, zec a_a a_b = some r → Ctr Tryd.prog 43 [isv (a_a), isv (a_b)] [] (fun R H => R = oneOf [isv (r)] ∧ H = []) := by
 intro a_a a_b r h
 unfold zec at h
 refine zr Tryd.func43 rfl fun w0 S0 hT => wsr (oA rfl (rnf (wsr (oM rfl (oM rfl (zb h fun y1 hy1 h => oT (zz (zjV hy1) hT (s3 rfl rfl rfl) .nil ?_)))))))
 refine oA rfl (rnf (zM ?_))
 cases h
 exact zo (.tmp rfl .nil) .nil ⟨rfl, rfl⟩


theorem zji : ∀ {a_a : (List (List Int))} {a_b : (List (List Int))} {r : Bool}, zeX a_a a_b = some r → Ctr Tryd.prog 42 [isv (a_a), isv (a_b), clov 43 []] [] (fun R H => R = oneOf [isv (r)] ∧ H = []) := by
 intro a_a a_b r h
 unfold zeX at h
 refine zr Tryd.func42 rfl fun w0 S0 hT => wsr (oA rfl (rnf (zn (wsr (oM rfl (oV (za2 (l := a_a) rfl hI sl45) (oM rfl ?_)))))))
 refine oV (za2 (l := a_b) rfl hI sl45) (oV (zb0 rfl rfl) (rnf (zf h rfl (fun _ h => ?_) (fun _ h => ?_))))
 ·refine wsr (oA rfl (rnf (zM (zB ?_))))
  cases h
  exact zo (.tmp rfl .nil) .nil ⟨rfl, rfl⟩
 refine wkf (zn (wsr (oA rfl (rnf (zu (za5 (ι := Int) (γ := Unit) (fun q1 g1 => [(7, isv (q1))]) (fun q1 g1 => []) h () (za (j := 7) rfl hI zd) .nil (fun L2 q1 g1 Q11 h hL2 eL2 rL2 => zn (wsr ?_))))))))
 refine oM rfl (oM rfl (oV (za2 (l := a_a) rfl hI sl45) (oV (zaj rfl rfl) (rnf (zf h rfl (fun _ h => ?_) (fun _ h => ?_))))))
 ·refine wkf (zn (zu (zn (zW (.v 0 (.v 1 (.v 2 (.v 3 (.v 4 (.v 5 (.v 6 (.v 7 (.v 8 (.t 9 (.v 10 .nil))))))))))) moOrd (by kernel_rfl) ?_))))
  refine rvm rfl rfl (rvm rfl rfl (rvm rfl rfl (zb h fun y7 hy7 h => zq rfl (zaG (l := a_a) rfl hI rfl sl45 hy7) (zq rfl (zg ty22 rfl) (rvm rfl rfl (rvm rfl rfl (zb h fun y8 hy8 h => ?_)))))))
  refine zq rfl (zaG (l := a_b) rfl hI rfl sl45 hy8) (zq rfl (zg ty22 rfl) (zb h fun y9 hy9 h => zV rfl rfl (zd5 rfl (s2 rfl rfl) (zjj hy9) hT .nil (fun R H' hR => ?_))))
  obtain ⟨rfl, rfl⟩ := hR
  refine zq rfl (zbG rfl) (zae (zy (zf h rfl (fun _ h => ?_) (fun _ h => ?_))))
  ·refine wsr (oA rfl (rnf (zM (zE (zB (rL2 _ (zE (zB ?_))))))))
   cases h
   exact zo (.tmp rfl .nil) .nil ⟨rfl, rfl⟩
  refine zY (zk (zy (zj (oM rfl (zD h fun q10 h => oV (zaf rfl rfl q10) (oA rfl (zx ?_)))))))
  exact hL2 _ () h _ (ji 19 7 rfl rfl rfl)
 refine zad (zU (eL2 _ _ (zH (zy (wsr (oA rfl (rnf (zM ?_))))))))
 cases h
 exact zo (.tmp rfl .nil) .nil ⟨rfl, rfl⟩


theorem zjn : ∀ {a_a : (List (List Int))} {a_b : (List (List Int))} {r : Bool}, zd6 a_a a_b = some r → Ctr Tryd.prog 16 [isv (a_a), isv (a_b)] [] (fun R H => R = oneOf [isv (r)] ∧ H = []) := by
 intro a_a a_b r h
 unfold zd6 at h
 refine zr Tryd.func16 rfl fun w0 S0 hT => wsr (oA rfl (rnf (wsr (oM rfl (oM rfl (zb h fun y1 hy1 h => oT (zz (zji hy1) hT (s3 rfl rfl rfl) .nil ?_)))))))
 refine oA rfl (rnf (zM ?_))
 cases h
 exact zo (.tmp rfl .nil) .nil ⟨rfl, rfl⟩


theorem zgF : ∀ {zd4 : (List Int)} {zhz : Int} {r : Bool}, zcI zd4 zhz = some r → Ctr Tryd.prog 5 [isv (zd4), isv (zhz)] [] (fun R H => R = oneOf [isv (r)] ∧ H = []) := by
 intro zd4 zhz r h
 unfold zcI at h
 refine zr Tryd.func5 rfl fun w0 S0 hT => wsr (oA rfl (rnf (wsr (oM rfl (oV (zhT Tryd.underlying3 Tryd.underlying24 rfl) (zZ h fun q1 h => oV (zjX rfl rfl q1) ?_))))))
 refine zD h fun q2 h => oV (zga Tryd.underlying24 Tryd.underlying3 rfl q2) (oA rfl (rnf (zn (wsr (oM rfl (oV (za2 (l := zd4) rfl hI sl22) (oV (zbU rfl rfl) ?_)))))))
 refine rnf (zf h rfl (fun _ h => ?_) (fun _ h => ?_))
 ·refine wsr (zb h fun y3 hy3 h => oT (zz (zgP hy3) hT .nil .nil (oA rfl (rnf (zM (zB ?_))))))
  cases h
  exact zo (.tmp rfl .nil) .nil ⟨rfl, rfl⟩
 refine wkf (wsr (oA rfl (rnf (wsr (oT (zab _ ze3 fun b4 => oT (zi (y' := ((0 : Int) : Int)) ty3 rfl rfl hI .here rfl (rnf (wsr ?_)))))))))
 refine oV (zg2 (s1 rfl)) (oA rfl (rnf (zn (wsr (oA rfl (rnf (zu (za5 (ι := Str × Int × Int) (γ := Unit) (fun q5 g5 => [(5, isv (q5.1)), (8, isv (q5.2.1))]) (fun q5 g5 => [boxE b4 (q5.2.2 : Int)]) h () (za (j := 5) rfl hI (za (j := 8) rfl hI zd)) k1 (fun L6 q5 g5 Q253 h hL6 eL6 rL6 => ?_)))))))))
 refine zn (wsr (oM rfl (oM rfl (oV (zaj rfl rfl) (rnf (zf h rfl (fun _ h => ?_) (fun _ h => ?_)))))))
 ·refine wkf (zn (zu (zj (oM rfl (oM rfl (zb h fun y130 hy130 h => oT (zd5 rfl .nil (zcy hy130) hT k1 (fun R H' hR => ?_))))))))
  obtain ⟨rfl, rfl⟩ := hR
  refine zZ h fun q131 h => oV (zdF rfl rfl q131) (zZ h fun q132 h => oV (zdF rfl rfl q132) (oA rfl (zx (zk (zy (zj ?_))))))
  exact oM rfl (zD h fun q133 h => oV (zaf rfl rfl q133) (oA rfl (zx (hL6 _ () h _ (ze 14 rfl rfl (za (j := 5) rfl hI (za (j := 8) rfl hI zd)) k1)))))
 refine zad (zU (eL6 _ _ (zH (zy (wsr (oM rfl (zZ h fun q134 h => oV (zdF rfl rfl q134) ?_)))))))
 refine oA rfl (rnf (wsr (oA rfl (rnf (zn (wsr (oA rfl (rnf ?_))))))))
 refine zu (zfj (zaQ) (za5 (ι := Str × (List (List Int)) × Int × Int) (γ := Tok) (fun q135 g135 => [(5, isv (q135.1)), (9, appv g135 (q135.2.1)), (10, isv (q135.2.2.1))]) (fun q135 g135 => [tokE g135, boxE b4 (q135.2.2.2 : Int)]) h (none) (za (j := 5) rfl hI (za (j := 9) rfl zbs (za (j := 10) rfl hI zd))) k2 (fun L136 q135 g135 Q252 h hL136 eL136 rL136 => zn (wsr (oM rfl (oM rfl (oV (za2 (l := zd4) rfl hI sl22) (oV (zaj rfl rfl) ?_))))))))
 refine rnf (zf h rfl (fun _ h => ?_) (fun _ h => ?_))
 ·refine wkf (zn (zc3 (ι := Str × (List (List Int)) × Int) (γ := Tok) (fun q194 g194 => [(5, isv (q194.1)), (9, appv g194 (q194.2.1))]) (fun q194 g194 => [tokE g194, boxE b4 (q194.2.2 : Int)]) k2 h (fun q194 g194 h => ?_) (fun J195 h hJ195 => ?_)))
  ·exact zj (oM rfl (zD h fun q237 h => oV (zaf rfl rfl q237) (oA rfl (zx (hL136 _ (g194) h _ (ze 12 rfl rfl (za (j := 5) rfl hI (za (j := 9) rfl hI (za (j := 10) rfl hI zd))) k2))))))
  refine zu (wsr (oM rfl (oM rfl (zb h fun y196 hy196 h => oV (zaG (l := zd4) rfl hI rfl sl22 hy196) (oV (zg ty3 rfl) (oV (zhT Tryd.underlying3 Tryd.underlying24 rfl) (zZ h fun q197 h => ?_)))))))
  refine oV (zjX rfl rfl q197) (zD h fun q198 h => oV (zga Tryd.underlying24 Tryd.underlying3 rfl q198) (oA rfl (rnf (wsr (oM rfl (zZ h fun q199 h => oV (zdF rfl rfl q199) ?_))))))
  refine oA rfl (rnf (zn (wsr (oM rfl (oV (zal rfl rfl) (rnf (zf h rfl (fun _ h => ?_) (fun _ h => ?_))))))))
  ·refine wsr (oM rfl (oT (zI (R := isv (q135.2.2.2)) ty3 rfl tH hI (oT (zQ (l := ([q135.2.2.2] : (List Int))) el22 (.cons rfl hI .nil) rfl rfl (oT (zQ (l := ([([q135.2.2.2] : (List Int))] : (List (List Int)))) el45 (.cons rfl zK .nil) rfl rfl (zZ h fun q203 h => oT (zbk (l := q135.2.1) (m := ([([q135.2.2.2] : (List Int))] : (List (List Int)))) zii rfl hI rfl zK .here q203 fun t202 => oA rfl (rnf ?_))))))))))
   refine wsr (oM rfl (oM rfl (zb h fun y204 hy204 h => oT (zd5 rfl .nil (zcy hy204) hT (.cons tH .nil) (fun R H' hR => ?_)))))
   obtain ⟨rfl, rfl⟩ := hR
   exact zZ h fun q205 h => oV (zdF rfl rfl q205) (oA rfl (rnf (zad (zU (zH (hJ195 _ (t202) h _ (ze 24 rfl rfl (za (j := 5) rfl hI (za (j := 9) rfl hI zd)) (.cons tH k1))))))))
  refine wkf (wsr (oA rfl (rnf (wsr (oM rfl (zZ h fun q206 h => oV (zdF rfl rfl q206) (oA rfl ?_)))))))
  refine rnf (zn (wsr (oA rfl (rnf (zu (zfj (zaQ) (za5 (ι := Str × (List Int) × Int × Int) (γ := Tok) (fun q207 g207 => [(5, isv (q207.1)), (12, appv g207 (q207.2.1)), (13, isv (q207.2.2.1))]) (fun q207 g207 => [tokE g207, boxE b4 (q207.2.2.2 : Int)]) h (none) (za (j := 5) rfl hI (za (j := 12) rfl zbs (za (j := 13) rfl hI zd))) (.cons .here (.cons tH .nil)) (fun L208 q207 g207 Q236 h hL208 eL208 rL208 => zn ?_))))))))
  refine wsr (oM rfl (oM rfl (oV (zaj rfl rfl) (rnf (zf h rfl (fun _ h => ?_) (fun _ h => ?_))))))
  ·refine wkf (zn (zu (zn (wsr (oM rfl (oV (zbU rfl rfl) (rnf (zc3 (ι := Str) (γ := Unit) (fun q222 g222 => [(5, isv (q222))]) (fun q222 g222 => []) .nil h (fun q222 g222 h => ?_) (fun J223 h hJ223 => ?_)))))))))
   ·refine wsr (oM rfl (oT (zI (R := isv (q207.2.2.2)) ty3 rfl tH hI (oT (zQ (l := ([q207.2.2.2] : (List Int))) el22 (.cons rfl hI .nil) rfl rfl (zZ h fun q227 h => oT (zbk (l := q207.2.1) (m := ([q207.2.2.2] : (List Int))) zcW rfl hI rfl zK .here q227 fun t226 => oA rfl (rnf (zj ?_)))))))))
    refine oM rfl (oM rfl (zb h fun y228 hy228 h => oT (zd5 rfl .nil (zcy hy228) hT (.cons tH .nil) (fun R H' hR => ?_))))
    obtain ⟨rfl, rfl⟩ := hR
    refine zZ h fun q229 h => oV (zdF rfl rfl q229) (oA rfl (zx (zk (zy (zj (oM rfl (zD h fun q230 h => ?_)))))))
    exact oV (zaf rfl rfl q230) (oA rfl (zx (hL208 _ (t226) h _ (ze 22 rfl rfl (za (j := 5) rfl hI (za (j := 12) rfl hI (za (j := 13) rfl hI zd))) (.cons tH k2)))))
   refine zf h rfl (fun _ h => ?_) (fun _ h => ?_)
   ·exact zj (oM rfl (zZ h fun q224 h => oV (zdF rfl rfl q224) (oA rfl (zx (hJ223 _ () h _ (ze 3 rfl rfl (za (j := 5) rfl hI zd) k3))))))
   exact zY (hJ223 _ () h _ (ze 0 rfl rfl (za (j := 5) rfl hI zd) k3))
  refine zad (zU (eL208 _ _ (zH (zy (wsr (oM rfl (zZ h fun q231 h => oV (zdF rfl rfl q231) ?_)))))))
  refine oA rfl (rnf (zj (oM rfl (oM rfl (oT (zQ (l := ([q207.2.1] : (List (List Int)))) el45 (.cons rfl zK .nil) rfl rfl (zZ h fun q234 h => oT (zbk (l := q135.2.1) (m := ([q207.2.1] : (List (List Int)))) zii rfl hI rfl zK tI q234 fun t233 => oA rfl ?_))))))))
  exact zx (zk (hJ195 _ (t233) h _ (ze 32 rfl rfl (za (j := 5) rfl hI (za (j := 9) rfl hI zd)) (.cons .here (.cons tH .nil)))))
 refine zad (zU (eL136 _ _ (zH (zy (wsr (oM rfl (zZ h fun q238 h => oV (zdF rfl rfl q238) ?_)))))))
 refine zZ h fun q239 h => oV (zdF rfl rfl q239) (zb h fun y240 hy240 h => oT (zz (zeV hy240) hT (s1 rfl) .nil (oM rfl (oV (zav rfl rfl) (oV (zav rfl rfl) (oT (zab _ ze40 fun b241 => oT (zi (y' := (y240.1 : GTab)) ty40 rfl rfl hI .here rfl ?_))))))))
 refine zX (zaq 14 .here rfl) (oA rfl (rnf (wsr (zb h fun y242 hy242 h => oT (zz (zgP hy242) hT .nil .nil (oM rfl (zau (jb 98) je .nil h 2 rfl (fun q243 g243 h => ?_) (fun J244 h hJ244 => ?_))))))))
 ·refine oM rfl (zau (jb 104) je .nil h 5 rfl (fun q246 g246 h => ?_) (fun J247 h hJ247 => ?_))
  ·refine oA rfl (rnf (zM ?_))
   cases h
   exact zo (.tmp rfl .nil) .nil ⟨rfl, rfl⟩
  refine zC (j := 99) h rfl (fun g248 h => ?_) (fun g248 h => ?_)
  ·exact oK 99 rfl rfl rfl g248 (zg ty40 rfl) (zb h fun y249 hy249 h => zat rfl rfl (dj := 99) rfl g248 (zz (zjk hy249) hT (s2 rfl rfl) .nil (oK 99 rfl rfl rfl g248 (zw rfl) (zb h fun y250 hy250 h => zat rfl rfl (dj := 99) rfl g248 (zz (zjn hy250) hT (.same rfl (.cons rfl zK .nil)) .nil (oV (zs rfl g248 rfl) (hJ247 _ () h _ (ze 5 rfl rfl (za (j := 104) rfl hI zd) k2))))))))
  exact oP 99 rfl rfl g248 (oP 99 rfl rfl g248 (oP 99 rfl rfl g248 (oP 99 rfl rfl g248 (oV (zt rfl g248 rfl) (hJ247 _ () h _ (ze 5 rfl rfl (za (j := 104) rfl hI zd) k2))))))
 refine zC (j := 96) h rfl (fun g245 h => ?_) (fun g245 h => ?_)
 ·exact oK 96 rfl rfl rfl g245 (zw rfl) (oV (zs rfl g245 rfl) (hJ244 _ () h _ (ze 2 rfl rfl (za (j := 98) rfl hI zd) k2)))
 exact oP 96 rfl rfl g245 (oV (zt rfl g245 rfl) (hJ244 _ () h _ (ze 2 rfl rfl (za (j := 98) rfl hI zd) k2)))

end Go.Proofs.Q

